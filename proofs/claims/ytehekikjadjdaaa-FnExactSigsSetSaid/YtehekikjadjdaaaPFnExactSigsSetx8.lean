/- Proved here, without a condition beyond those that each theorem states: what the Go functions named below do is what the plain functions of the same names say. Written by xprint.py, a program of this session. -/
import Derived.Test.YtehekikjadjdaaaPFnExactSigsSetx0
import Derived.Test.YtehekikjadjdaaaPFnExactSigsSetx1
import Derived.Test.YtehekikjadjdaaaPFnExactSigsSetx2
import Derived.Test.YtehekikjadjdaaaPFnExactSigsSetx5
import Derived.Test.YtehekikjadjdaaaPFnExactSigsSetx7
namespace Go.Proofs.Ytehekikjadjdaaa.PFnExactSigsSet
open Go.RowKit Go.Proofs.YtehekikjadjdaaaW.PrintWords Go.Proofs.YtehekikjadjdaaaW.PrintLast Go.Proofs.YtehekikjadjdaaaW.PrintMore
attribute [local go_sem] max2_int min2_int max_two min_two max_three min_three max_four min_four   -- for this text's walks alone
set_option linter.unusedVariables false
set_option linter.unusedSimpArgs false

attribute [local go_sem ↓] isSome_setCell_
/-! ### laws_FnExactSigsSet: function 5 -/
mutual
def laws_FnExactSigsSet.j0 : Nat → Int → Int → Bool → Bool → Bool → List Bool → List Bool → List Int → List Bool → List Bool → List Int → List Bool → List Bool → List Int → List Bool → List Bool → List Int → Option (Bool)
|0, _, _, _, _, _, _, _, _, _, _, _, _, _, _, _, _, _ => none
|k + 1, x1, x2, x9, x12, x48, x286000, x286001, x286002, x307000, x307001, x307002, x317000, x317001, x317002, x328000, x328001, x328002 => if x48 = true then (some false) else ((laws_toSigs.f k x286000 x286001 x286002).bind fun bt329 => ((laws_eqSigs.f k x317000 x317001 x317002 bt329.1 bt329.2.1 bt329.2.2).bind fun t338 => (if t338 = true then ((laws_markSigs.f k x317000 x317001 x317002 1).bind fun bt339 => (if bt339.1 < 0 then (laws_FnExactSigsSet.j1 k x1 x2 x9 true x286000 x286001 x286002 x307000 x307001 x307002 x328000 x328001 x328002) else ((laws_eqSigs.f k x328000 x328001 x328002 x307000 x307001 x307002).bind fun t343 => (if t343 = true then (laws_FnExactSigsSet.j1 k x1 x2 x9 (x12 != x9) x286000 x286001 x286002 x307000 x307001 x307002 x328000 x328001 x328002) else (laws_FnExactSigsSet.j1 k x1 x2 x9 true x286000 x286001 x286002 x307000 x307001 x307002 x328000 x328001 x328002))))) else (some false))))
def laws_FnExactSigsSet.j1 : Nat → Int → Int → Bool → Bool → List Bool → List Bool → List Int → List Bool → List Bool → List Int → List Bool → List Bool → List Int → Option (Bool)
|0, _, _, _, _, _, _, _, _, _, _, _, _, _ => none
|k + 1, x1, x2, x9, x69, x286000, x286001, x286002, x307000, x307001, x307002, x328000, x328001, x328002 => if x69 = true then (some false) else ((laws_markSigs.f k x328000 x328001 x328002 1).bind fun bt344 => ((laws_heldSigs.f k bt344.2.1 bt344.2.2.1 bt344.2.2.2 1).bind fun t348 => (if t348 < 0 then (some false) else (if t348 = bt344.1 then ((laws_toSigs.f k x286000 x286001 x286002).bind fun bt349 => ((impl_SigsSet.f k bt349.1 bt349.2.1 bt349.2.2 x1 x2).bind fun bt358 => ((laws_eqSigs.f k bt358.1 bt358.2.1 bt358.2.2.1 x307000 x307001 x307002).bind fun t369 => (if t369 = true then (laws_FnExactSigsSet.j2 k bt344.1 (bt358.2.2.2 != x9) bt344.2.1 bt344.2.2.1 bt344.2.2.2) else (laws_FnExactSigsSet.j2 k bt344.1 true bt344.2.1 bt344.2.2.1 bt344.2.2.2))))) else (some false)))))
def laws_FnExactSigsSet.j2 : Nat → Int → Bool → List Bool → List Bool → List Int → Option (Bool)
|0, _, _, _, _, _ => none
|k + 1, x14, x97, x328000, x328001, x328002 => if x97 = true then (some false) else ((laws_heldSigs.f k x328000 x328001 x328002 1).bind fun t370 => (if t370 < 0 then (some false) else (if t370 = x14 then (some true) else (some false))))
end
def laws_FnExactSigsSet.f (k : Nat) (l0_0 : List Bool) (l0_1 : List Bool) (l0_2 : List Int) (a1 : Int) (a2 : Int) : Option (Bool) := (laws_szSigs.f l0_0 l0_1 l0_2 1048576).bind fun t286 => (if t286 < 0 then (some true) else ((laws_toSigs.f k l0_0 l0_1 l0_2).bind fun bt287 => ((spec_SigsSet.f k bt287.1 bt287.2.1 bt287.2.2 a1 a2).bind fun bt296 => ((laws_toSigs.f k l0_0 l0_1 l0_2).bind fun bt307 => ((impl_SigsSet.f k bt307.1 bt307.2.1 bt307.2.2 a1 a2).bind fun bt317 => ((laws_eqSigs.f k bt317.1 bt317.2.1 bt317.2.2.1 bt296.1 bt296.2.1 bt296.2.2.1).bind fun t328 => (if t328 = true then (laws_FnExactSigsSet.j0 k a1 a2 bt296.2.2.2 bt317.2.2.2 (bt317.2.2.2 != bt296.2.2.2) l0_0 l0_1 l0_2 bt296.1 bt296.2.1 bt296.2.2.1 bt307.1 bt307.2.1 bt307.2.2 bt317.1 bt317.2.1 bt317.2.2.1) else (laws_FnExactSigsSet.j0 k a1 a2 bt296.2.2.2 bt317.2.2.2 true l0_0 l0_1 l0_2 bt296.1 bt296.2.1 bt296.2.2.1 bt307.1 bt307.2.1 bt307.2.2 bt317.1 bt317.2.1 bt317.2.2.1))))))))
theorem laws_FnExactSigsSet.mono_l : ∀ k, (∀ y0 y1 y2 y3 y4 y5 y6 y7 y8 y9 y10 y11 y12 y13 y14 y15 y16, LeO (laws_FnExactSigsSet.j0 k y0 y1 y2 y3 y4 y5 y6 y7 y8 y9 y10 y11 y12 y13 y14 y15 y16) (laws_FnExactSigsSet.j0 (k + 1) y0 y1 y2 y3 y4 y5 y6 y7 y8 y9 y10 y11 y12 y13 y14 y15 y16)) ∧ (∀ y0 y1 y2 y3 y4 y5 y6 y7 y8 y9 y10 y11 y12, LeO (laws_FnExactSigsSet.j1 k y0 y1 y2 y3 y4 y5 y6 y7 y8 y9 y10 y11 y12) (laws_FnExactSigsSet.j1 (k + 1) y0 y1 y2 y3 y4 y5 y6 y7 y8 y9 y10 y11 y12)) ∧ (∀ y0 y1 y2 y3 y4, LeO (laws_FnExactSigsSet.j2 k y0 y1 y2 y3 y4) (laws_FnExactSigsSet.j2 (k + 1) y0 y1 y2 y3 y4))
|0 => ⟨fun _ _ _ _ _ _ _ _ _ _ _ _ _ _ _ _ _ r h => by simp [laws_FnExactSigsSet.j0] at h, fun _ _ _ _ _ _ _ _ _ _ _ _ _ r h => by simp [laws_FnExactSigsSet.j1] at h, fun _ _ _ _ _ r h => by simp [laws_FnExactSigsSet.j2] at h⟩
|k + 1 => by
  obtain ⟨ih0, ih1, ih2⟩ := laws_FnExactSigsSet.mono_l k
  refine ⟨?_, ?_, ?_⟩
  ·intro y0 y1 y2 y3 y4 y5 y6 y7 y8 y9 y10 y11 y12 y13 y14 y15 y16
   unfold laws_FnExactSigsSet.j0
   repeat' first
  |(with_reducible exact ih0 _ _ _ _ _ _ _ _ _ _ _ _ _ _ _ _ _)
  |(with_reducible exact ih1 _ _ _ _ _ _ _ _ _ _ _ _ _)
  |(with_reducible exact ih2 _ _ _ _ _)
  |(with_reducible exact impl_SigsSet.mono _ _ _ _ _ _)
  |(with_reducible exact laws_eqSigs.mono _ _ _ _ _ _ _)
  |(with_reducible exact laws_heldSigs.mono _ _ _ _ _)
  |(with_reducible exact laws_markSigs.mono _ _ _ _ _)
  |(with_reducible exact laws_toSigs.mono _ _ _ _)
  |(with_reducible exact spec_SigsSet.mono _ _ _ _ _ _)
  |(with_reducible exact LeO.refl _)
  |(with_reducible exact LeO.none _)
  |(with_reducible refine LeO.ite ?_ ?_)
  |(with_reducible refine LeO.bind ?_ (fun _ => ?_))
  |exact ih0 _ _ _ _ _ _ _ _ _ _ _ _ _ _ _ _ _
  |exact ih1 _ _ _ _ _ _ _ _ _ _ _ _ _
  |exact ih2 _ _ _ _ _
  |exact impl_SigsSet.mono _ _ _ _ _ _
  |exact laws_eqSigs.mono _ _ _ _ _ _ _
  |exact laws_heldSigs.mono _ _ _ _ _
  |exact laws_markSigs.mono _ _ _ _ _
  |exact laws_toSigs.mono _ _ _ _
  |exact spec_SigsSet.mono _ _ _ _ _ _
  |exact LeO.none _
  |refine LeO.ite ?_ ?_
  |refine LeO.bind ?_ (fun _ => ?_)
  ·intro y0 y1 y2 y3 y4 y5 y6 y7 y8 y9 y10 y11 y12
   unfold laws_FnExactSigsSet.j1
   repeat' first
  |(with_reducible exact ih0 _ _ _ _ _ _ _ _ _ _ _ _ _ _ _ _ _)
  |(with_reducible exact ih1 _ _ _ _ _ _ _ _ _ _ _ _ _)
  |(with_reducible exact ih2 _ _ _ _ _)
  |(with_reducible exact impl_SigsSet.mono _ _ _ _ _ _)
  |(with_reducible exact laws_eqSigs.mono _ _ _ _ _ _ _)
  |(with_reducible exact laws_heldSigs.mono _ _ _ _ _)
  |(with_reducible exact laws_markSigs.mono _ _ _ _ _)
  |(with_reducible exact laws_toSigs.mono _ _ _ _)
  |(with_reducible exact spec_SigsSet.mono _ _ _ _ _ _)
  |(with_reducible exact LeO.refl _)
  |(with_reducible exact LeO.none _)
  |(with_reducible refine LeO.ite ?_ ?_)
  |(with_reducible refine LeO.bind ?_ (fun _ => ?_))
  |exact ih0 _ _ _ _ _ _ _ _ _ _ _ _ _ _ _ _ _
  |exact ih1 _ _ _ _ _ _ _ _ _ _ _ _ _
  |exact ih2 _ _ _ _ _
  |exact impl_SigsSet.mono _ _ _ _ _ _
  |exact laws_eqSigs.mono _ _ _ _ _ _ _
  |exact laws_heldSigs.mono _ _ _ _ _
  |exact laws_markSigs.mono _ _ _ _ _
  |exact laws_toSigs.mono _ _ _ _
  |exact spec_SigsSet.mono _ _ _ _ _ _
  |exact LeO.none _
  |refine LeO.ite ?_ ?_
  |refine LeO.bind ?_ (fun _ => ?_)
  ·intro y0 y1 y2 y3 y4
   unfold laws_FnExactSigsSet.j2
   repeat' first
  |(with_reducible exact ih0 _ _ _ _ _ _ _ _ _ _ _ _ _ _ _ _ _)
  |(with_reducible exact ih1 _ _ _ _ _ _ _ _ _ _ _ _ _)
  |(with_reducible exact ih2 _ _ _ _ _)
  |(with_reducible exact impl_SigsSet.mono _ _ _ _ _ _)
  |(with_reducible exact laws_eqSigs.mono _ _ _ _ _ _ _)
  |(with_reducible exact laws_heldSigs.mono _ _ _ _ _)
  |(with_reducible exact laws_markSigs.mono _ _ _ _ _)
  |(with_reducible exact laws_toSigs.mono _ _ _ _)
  |(with_reducible exact spec_SigsSet.mono _ _ _ _ _ _)
  |(with_reducible exact LeO.refl _)
  |(with_reducible exact LeO.none _)
  |(with_reducible refine LeO.ite ?_ ?_)
  |(with_reducible refine LeO.bind ?_ (fun _ => ?_))
  |exact ih0 _ _ _ _ _ _ _ _ _ _ _ _ _ _ _ _ _
  |exact ih1 _ _ _ _ _ _ _ _ _ _ _ _ _
  |exact ih2 _ _ _ _ _
  |exact impl_SigsSet.mono _ _ _ _ _ _
  |exact laws_eqSigs.mono _ _ _ _ _ _ _
  |exact laws_heldSigs.mono _ _ _ _ _
  |exact laws_markSigs.mono _ _ _ _ _
  |exact laws_toSigs.mono _ _ _ _
  |exact spec_SigsSet.mono _ _ _ _ _ _
  |exact LeO.none _
  |refine LeO.ite ?_ ?_
  |refine LeO.bind ?_ (fun _ => ?_)
theorem laws_FnExactSigsSet.mono : ∀ a0 a1 a2 a3 a4 k, LeO (laws_FnExactSigsSet.f k a0 a1 a2 a3 a4) (laws_FnExactSigsSet.f (k + 1) a0 a1 a2 a3 a4) := by
 intro a0 a1 a2 a3 a4 k
 obtain ⟨ih0, ih1, ih2⟩ := laws_FnExactSigsSet.mono_l k
 unfold laws_FnExactSigsSet.f
 repeat' first
  |(with_reducible exact ih0 _ _ _ _ _ _ _ _ _ _ _ _ _ _ _ _ _)
  |(with_reducible exact ih1 _ _ _ _ _ _ _ _ _ _ _ _ _)
  |(with_reducible exact ih2 _ _ _ _ _)
  |(with_reducible exact impl_SigsSet.mono _ _ _ _ _ _)
  |(with_reducible exact laws_eqSigs.mono _ _ _ _ _ _ _)
  |(with_reducible exact laws_heldSigs.mono _ _ _ _ _)
  |(with_reducible exact laws_markSigs.mono _ _ _ _ _)
  |(with_reducible exact laws_toSigs.mono _ _ _ _)
  |(with_reducible exact spec_SigsSet.mono _ _ _ _ _ _)
  |(with_reducible exact LeO.refl _)
  |(with_reducible exact LeO.none _)
  |(with_reducible refine LeO.ite ?_ ?_)
  |(with_reducible refine LeO.bind ?_ (fun _ => ?_))
  |exact ih0 _ _ _ _ _ _ _ _ _ _ _ _ _ _ _ _ _
  |exact ih1 _ _ _ _ _ _ _ _ _ _ _ _ _
  |exact ih2 _ _ _ _ _
  |exact impl_SigsSet.mono _ _ _ _ _ _
  |exact laws_eqSigs.mono _ _ _ _ _ _ _
  |exact laws_heldSigs.mono _ _ _ _ _
  |exact laws_markSigs.mono _ _ _ _ _
  |exact laws_toSigs.mono _ _ _ _
  |exact spec_SigsSet.mono _ _ _ _ _ _
  |exact LeO.none _
  |refine LeO.ite ?_ ?_
  |refine LeO.bind ?_ (fun _ => ?_)
set_option maxHeartbeats 2000000 in
set_option maxRecDepth 100000 in
theorem laws_FnExactSigsSet.calls (k : Nat) (A0_0 : Option Addr) (c0_0 : Nat) (l0_0 : List Bool) (A0_1 : Option Addr) (c0_1 : Nat) (l0_1 : List Bool) (A0_2 : Option Addr) (c0_2 : Nat) (l0_2 : List Int) (a1 : Int) (a2 : Int) (r : Bool) (w : World) (hr0_0 : Kd.C Kd.bool w A0_0 l0_0.length l0_0) (hc0_0 : l0_0.length ≤ c0_0) (hr0_1 : Kd.C Kd.bool w A0_1 l0_1.length l0_1) (hc0_1 : l0_1.length ≤ c0_1) (hr0_2 : Kd.C (Kd.int .i64) w A0_2 l0_2.length l0_2) (hc0_2 : l0_2.length ≤ c0_2) (h : laws_FnExactSigsSet.f k l0_0 l0_1 l0_2 a1 a2 = some r) (hT_ : Aside0 (r = true)) :
  Calls Try.prog 5 #[.agg #[.slice A0_0 l0_0.length c0_0, .slice A0_1 l0_1.length c0_1, .slice A0_2 l0_2.length c0_2], .int .i64 a1, .int .i64 a2] w fun e w' => e = .returned (.bool r) ∧ Below w.heap.size w w' := by
 have hu25 := Try.underlying25
 have hu27 := Try.underlying27
 have HR0_0 := Am hr0_0
 have HC0_0 := Am hc0_0
 clear hr0_0 hc0_0
 have HR0_1 := Am hr0_1
 have HC0_1 := Am hc0_1
 clear hr0_1 hc0_1
 have HR0_2 := Am hr0_2
 have HC0_2 := Am hc0_2
 clear hr0_2 hc0_2
 have HB := Am (Below.refl w.heap.size w)
 have H : ((laws_szSigs.f l0_0 l0_1 l0_2 1048576).bind fun t286 => (if t286 < 0 then (some true) else ((laws_toSigs.f k l0_0 l0_1 l0_2).bind fun bt287 => ((spec_SigsSet.f k bt287.1 bt287.2.1 bt287.2.2 a1 a2).bind fun bt296 => ((laws_toSigs.f k l0_0 l0_1 l0_2).bind fun bt307 => ((impl_SigsSet.f k bt307.1 bt307.2.1 bt307.2.2 a1 a2).bind fun bt317 => ((laws_eqSigs.f k bt317.1 bt317.2.1 bt317.2.2.1 bt296.1 bt296.2.1 bt296.2.2.1).bind fun t328 => (if t328 = true then (laws_FnExactSigsSet.j0 k a1 a2 bt296.2.2.2 bt317.2.2.2 (bt317.2.2.2 != bt296.2.2.2) l0_0 l0_1 l0_2 bt296.1 bt296.2.1 bt296.2.2.1 bt307.1 bt307.2.1 bt307.2.2 bt317.1 bt317.2.1 bt317.2.2.1) else (laws_FnExactSigsSet.j0 k a1 a2 bt296.2.2.2 bt317.2.2.2 true l0_0 l0_1 l0_2 bt296.1 bt296.2.1 bt296.2.2.1 bt307.1 bt307.2.1 bt307.2.2 bt317.1 bt317.2.1 bt317.2.2.1))))))))) = some r := h
 clear h
 replace H := Option.bind_eq_some_iff.mp H
 obtain ⟨t286, A40, H⟩ := H
 replace H : (if t286 < 0 then (some true) else ((laws_toSigs.f k l0_0 l0_1 l0_2).bind fun bt287 => ((spec_SigsSet.f k bt287.1 bt287.2.1 bt287.2.2 a1 a2).bind fun bt296 => ((laws_toSigs.f k l0_0 l0_1 l0_2).bind fun bt307 => ((impl_SigsSet.f k bt307.1 bt307.2.1 bt307.2.2 a1 a2).bind fun bt317 => ((laws_eqSigs.f k bt317.1 bt317.2.1 bt317.2.2.1 bt296.1 bt296.2.1 bt296.2.2.1).bind fun t328 => (if t328 = true then (laws_FnExactSigsSet.j0 k a1 a2 bt296.2.2.2 bt317.2.2.2 (bt317.2.2.2 != bt296.2.2.2) l0_0 l0_1 l0_2 bt296.1 bt296.2.1 bt296.2.2.1 bt307.1 bt307.2.1 bt307.2.2 bt317.1 bt317.2.1 bt317.2.2.1) else (laws_FnExactSigsSet.j0 k a1 a2 bt296.2.2.2 bt317.2.2.2 true l0_0 l0_1 l0_2 bt296.1 bt296.2.1 bt296.2.2.1 bt307.1 bt307.2.1 bt307.2.2 bt317.1 bt317.2.1 bt317.2.2.1)))))))) = some r := H
 have A4 := Am A40
 clear A40
 by_cases c5 : t286 < 0
 ·rw [if_pos c5] at H
  have c5b0 : decide (t286 < 0) = true := decide_eq_true c5
  clear c5
  obtain rfl := Option.some.inj H
  go_enter Try.func5, Try.ntmps5
  go_wp2_with (first|((with_reducible refine gate_dst (N := 3) rfl ?_);refine box_event ?hg (N := 3) ?hd (cs := #[.slice A0_0 l0_0.length c0_0, .slice A0_1 l0_1.length c0_1, .slice A0_2 l0_2.length c0_2]) (t := 25) ?hr ?_;(case hd => rfl);(case hg => rfl);(case hr => first|(go_simp;done)|(go_simp;rfl));intro Bt hg w6 hbox hb;have n0_ := Am (bP (by repeat (first|(with_reducible first|exact HB.out|apply oA|apply pN|apply o1)|exact HB.out)) hb);have n1_ := Am (hbox);have n2_ := Am ((by rw [hg];exact (bZ (by repeat (first|(with_reducible first|exact HB.out|apply oA|apply pN|apply o1)|exact HB.out))) : w.heap.size ≤ Bt));have n3_ := Am ((by rw [hg];exact (bZ (by repeat (first|(with_reducible first|exact HB.out|apply oA|apply pN|apply o1)|exact HB.out))) : w.heap.size ≤ Bt));clear HB;revert n0_ n1_ n2_ n3_;intro HB Bg GD Bs;clear hb hbox hg;have Fe : w6.cell? ⟨Bt, 0, none⟩ = some (.slice A0_0 l0_0.length c0_0) := (bC Bg.out 0).trans rfl;have Ff : w6.cell? ⟨Bt, 1, none⟩ = some (.slice A0_1 l0_1.length c0_1) := (bC Bg.out 1).trans rfl;have Fg : w6.cell? ⟨Bt, 2, none⟩ = some (.slice A0_2 l0_2.length c0_2) := (bC Bg.out 2).trans rfl;have Fh := bF Bg.out 0;have Fi := bF Bg.out 1;have Fj := bF Bg.out 2)|((with_reducible refine gate_callee (f := 13) rfl ?_);refine goesL_ (some 20) rfl rfl Try.func13 (by kernel_rfl) rfl #[.agg #[.slice A0_0 l0_0.length c0_0, .slice A0_1 l0_1.length c0_1, .slice A0_2 l0_2.length c0_2], .int .i64 1048576] rfl (by (try simp only [lM, lC, lN]);first|done|rfl|(simp only [lD, lT];rfl)) ?_;(with_reducible refine (laws_szSigs.calls _ _ l0_0 _ _ l0_1 _ _ l0_2 1048576 t286 _ ?side1 ?side2 ?side3 ?side4 ?side5 ?side6 A4.out).mono ?_);(case side1 => repeat (first|exact (cB HR0_0.out HB.out)|(with_reducible refine cA ?_ _)|(with_reducible refine cN ?_ _)|(with_reducible refine cD ?_)));(case side2 => exact HC0_0.out);(case side3 => repeat (first|exact (cB HR0_1.out HB.out)|(with_reducible refine cA ?_ _)|(with_reducible refine cN ?_ _)|(with_reducible refine cD ?_)));(case side4 => exact HC0_1.out);(case side5 => repeat (first|exact (cB HR0_2.out HB.out)|(with_reducible refine cA ?_ _)|(with_reducible refine cN ?_ _)|(with_reducible refine cD ?_)));(case side6 => exact HC0_2.out);rintro e w8 ⟨rfl, hb⟩;refine ⟨_, rfl, ?_⟩;have n0_ := Am (bB (g := Bt) (o := .cells #[.slice A0_0 l0_0.length c0_0, .slice A0_1 l0_1.length c0_1, .slice A0_2 l0_2.length c0_2] 25 (0, 0)) (bL Bg.out) hb);have n1_ := Am (bP (by repeat (first|(with_reducible first|exact HB.out|apply oA|apply pN|apply o1|refine bS ?_ Bs.out)|exact HB.out)) hb);clear Bg HB;revert n0_ n1_;intro Bg HB;(try clear hb);(try clear hb2);(try clear hk);(try clear hi)))
  go_ret
  exact ⟨by first|rfl|(simp [errW_none, errW_some] <;> rfl)|(simp [*, errW_none, errW_some] <;> rfl), by repeat (first|(with_reducible first|exact HB.out|apply oA|apply pN|apply o1|refine bS ?_ Bs.out)|exact HB.out)⟩
 rw [if_neg c5] at H
 have c5b0 : decide (t286 < 0) = false := decide_eq_false c5
 clear c5
 replace H := Option.bind_eq_some_iff.mp H
 obtain ⟨⟨t287, t290, t293⟩, A90, H⟩ := H
 replace H : ((spec_SigsSet.f k t287 t290 t293 a1 a2).bind fun bt296 => ((laws_toSigs.f k l0_0 l0_1 l0_2).bind fun bt307 => ((impl_SigsSet.f k bt307.1 bt307.2.1 bt307.2.2 a1 a2).bind fun bt317 => ((laws_eqSigs.f k bt317.1 bt317.2.1 bt317.2.2.1 bt296.1 bt296.2.1 bt296.2.2.1).bind fun t328 => (if t328 = true then (laws_FnExactSigsSet.j0 k a1 a2 bt296.2.2.2 bt317.2.2.2 (bt317.2.2.2 != bt296.2.2.2) l0_0 l0_1 l0_2 bt296.1 bt296.2.1 bt296.2.2.1 bt307.1 bt307.2.1 bt307.2.2 bt317.1 bt317.2.1 bt317.2.2.1) else (laws_FnExactSigsSet.j0 k a1 a2 bt296.2.2.2 bt317.2.2.2 true l0_0 l0_1 l0_2 bt296.1 bt296.2.1 bt296.2.2.1 bt307.1 bt307.2.1 bt307.2.2 bt317.1 bt317.2.1 bt317.2.2.1)))))) = some r := H
 have A9 := Am A90
 clear A90
 replace H := Option.bind_eq_some_iff.mp H
 obtain ⟨⟨t296, t299, t302, t305⟩, A100, H⟩ := H
 replace H : ((laws_toSigs.f k l0_0 l0_1 l0_2).bind fun bt307 => ((impl_SigsSet.f k bt307.1 bt307.2.1 bt307.2.2 a1 a2).bind fun bt317 => ((laws_eqSigs.f k bt317.1 bt317.2.1 bt317.2.2.1 t296 t299 t302).bind fun t328 => (if t328 = true then (laws_FnExactSigsSet.j0 k a1 a2 t305 bt317.2.2.2 (bt317.2.2.2 != t305) l0_0 l0_1 l0_2 t296 t299 t302 bt307.1 bt307.2.1 bt307.2.2 bt317.1 bt317.2.1 bt317.2.2.1) else (laws_FnExactSigsSet.j0 k a1 a2 t305 bt317.2.2.2 true l0_0 l0_1 l0_2 t296 t299 t302 bt307.1 bt307.2.1 bt307.2.2 bt317.1 bt317.2.1 bt317.2.2.1))))) = some r := H
 have A10 := Am A100
 clear A100
 replace H := Option.bind_eq_some_iff.mp H
 obtain ⟨⟨t307, t310, t313⟩, A110, H⟩ := H
 replace H : ((impl_SigsSet.f k t307 t310 t313 a1 a2).bind fun bt317 => ((laws_eqSigs.f k bt317.1 bt317.2.1 bt317.2.2.1 t296 t299 t302).bind fun t328 => (if t328 = true then (laws_FnExactSigsSet.j0 k a1 a2 t305 bt317.2.2.2 (bt317.2.2.2 != t305) l0_0 l0_1 l0_2 t296 t299 t302 t307 t310 t313 bt317.1 bt317.2.1 bt317.2.2.1) else (laws_FnExactSigsSet.j0 k a1 a2 t305 bt317.2.2.2 true l0_0 l0_1 l0_2 t296 t299 t302 t307 t310 t313 bt317.1 bt317.2.1 bt317.2.2.1)))) = some r := H
 have A11 := Am A110
 clear A110
 replace H := Option.bind_eq_some_iff.mp H
 obtain ⟨⟨t317, t320, t323, t326⟩, A120, H⟩ := H
 replace H : ((laws_eqSigs.f k t317 t320 t323 t296 t299 t302).bind fun t328 => (if t328 = true then (laws_FnExactSigsSet.j0 k a1 a2 t305 t326 (t326 != t305) l0_0 l0_1 l0_2 t296 t299 t302 t307 t310 t313 t317 t320 t323) else (laws_FnExactSigsSet.j0 k a1 a2 t305 t326 true l0_0 l0_1 l0_2 t296 t299 t302 t307 t310 t313 t317 t320 t323))) = some r := H
 have A12 := Am A120
 clear A120
 have HC13 := Am H
 clear H
 go_enter Try.func5, Try.ntmps5
 go_upto_region 8 with (first|((with_reducible refine gate_dst (N := 3) rfl ?_);refine box_event ?hg (N := 3) ?hd (cs := #[.slice A0_0 l0_0.length c0_0, .slice A0_1 l0_1.length c0_1, .slice A0_2 l0_2.length c0_2]) (t := 25) ?hr ?_;(case hd => rfl);(case hg => rfl);(case hr => first|(go_simp;done)|(go_simp;rfl));intro Bt hg w14 hbox hb;have n0_ := Am (bP (by repeat (first|(with_reducible first|exact HB.out|apply oA|apply pN|apply o1)|exact HB.out)) hb);have n1_ := Am (hbox);have n2_ := Am ((by rw [hg];exact (bZ (by repeat (first|(with_reducible first|exact HB.out|apply oA|apply pN|apply o1)|exact HB.out))) : w.heap.size ≤ Bt));have n3_ := Am ((by rw [hg];exact (bZ (by repeat (first|(with_reducible first|exact HB.out|apply oA|apply pN|apply o1)|exact HB.out))) : w.heap.size ≤ Bt));clear HB;revert n0_ n1_ n2_ n3_;intro HB Bg GD Bs;clear hb hbox hg;have Dg : w14.cell? ⟨Bt, 0, none⟩ = some (.slice A0_0 l0_0.length c0_0) := (bC Bg.out 0).trans rfl;have Dh : w14.cell? ⟨Bt, 1, none⟩ = some (.slice A0_1 l0_1.length c0_1) := (bC Bg.out 1).trans rfl;have Di : w14.cell? ⟨Bt, 2, none⟩ = some (.slice A0_2 l0_2.length c0_2) := (bC Bg.out 2).trans rfl;have Dj := bF Bg.out 0;have Dk := bF Bg.out 1;have Dl := bF Bg.out 2)|((with_reducible refine gate_callee (f := 13) rfl ?_);refine goesL_ (some 20) rfl rfl Try.func13 (by kernel_rfl) rfl #[.agg #[.slice A0_0 l0_0.length c0_0, .slice A0_1 l0_1.length c0_1, .slice A0_2 l0_2.length c0_2], .int .i64 1048576] rfl (by (try simp only [lM, lC, lN]);first|done|rfl|(simp only [lD, lT];rfl)) ?_;(with_reducible refine (laws_szSigs.calls _ _ l0_0 _ _ l0_1 _ _ l0_2 1048576 t286 _ ?side1 ?side2 ?side3 ?side4 ?side5 ?side6 A4.out).mono ?_);(case side1 => repeat (first|exact (cB HR0_0.out HB.out)|(with_reducible refine cA ?_ _)|(with_reducible refine cN ?_ _)|(with_reducible refine cD ?_)));(case side2 => exact HC0_0.out);(case side3 => repeat (first|exact (cB HR0_1.out HB.out)|(with_reducible refine cA ?_ _)|(with_reducible refine cN ?_ _)|(with_reducible refine cD ?_)));(case side4 => exact HC0_1.out);(case side5 => repeat (first|exact (cB HR0_2.out HB.out)|(with_reducible refine cA ?_ _)|(with_reducible refine cN ?_ _)|(with_reducible refine cD ?_)));(case side6 => exact HC0_2.out);rintro e w16 ⟨rfl, hb⟩;refine ⟨_, rfl, ?_⟩;have n0_ := Am (bB (g := Bt) (o := .cells #[.slice A0_0 l0_0.length c0_0, .slice A0_1 l0_1.length c0_1, .slice A0_2 l0_2.length c0_2] 25 (0, 0)) (bL Bg.out) hb);have n1_ := Am (bP (by repeat (first|(with_reducible first|exact HB.out|apply oA|apply pN|apply o1|refine bS ?_ Bs.out)|exact HB.out)) hb);clear Bg HB;revert n0_ n1_;intro Bg HB;(try clear hb);(try clear hb2);(try clear hk);(try clear hi);have Dm : w16.cell? ⟨Bt, 0, none⟩ = some (.slice A0_0 l0_0.length c0_0) := (bC Bg.out 0).trans rfl;have Dn : w16.cell? ⟨Bt, 1, none⟩ = some (.slice A0_1 l0_1.length c0_1) := (bC Bg.out 1).trans rfl;have Do : w16.cell? ⟨Bt, 2, none⟩ = some (.slice A0_2 l0_2.length c0_2) := (bC Bg.out 2).trans rfl;have Dp := bF Bg.out 0;have Dq := bF Bg.out 1;have Dr := bF Bg.out 2)|((with_reducible refine gate_callee (f := 15) rfl ?_);refine goesL_ (some 25) rfl rfl Try.func15 (by kernel_rfl) rfl #[.agg #[.slice A0_0 l0_0.length c0_0, .slice A0_1 l0_1.length c0_1, .slice A0_2 l0_2.length c0_2]] rfl (by (try simp only [lM, lC, lN]);first|done|rfl|(simp only [lD, lT];rfl)) ?_;(with_reducible refine (laws_toSigs.calls k _ _ l0_0 _ _ l0_1 _ _ l0_2 t287 t290 t293 _ ?side1 ?side2 ?side3 ?side4 ?side5 ?side6 A9.out).mono ?_);(case side1 => repeat (first|exact (cB HR0_0.out HB.out)|(with_reducible refine cA ?_ _)|(with_reducible refine cN ?_ _)|(with_reducible refine cD ?_)));(case side2 => exact HC0_0.out);(case side3 => repeat (first|exact (cB HR0_1.out HB.out)|(with_reducible refine cA ?_ _)|(with_reducible refine cN ?_ _)|(with_reducible refine cD ?_)));(case side4 => exact HC0_1.out);(case side5 => repeat (first|exact (cB HR0_2.out HB.out)|(with_reducible refine cA ?_ _)|(with_reducible refine cN ?_ _)|(with_reducible refine cD ?_)));(case side6 => exact HC0_2.out);rintro e w18 ⟨v288, v291, v294, rfl, ho0, ho1, ho2, hb⟩;refine ⟨_, rfl, ?_⟩;have n0_ := Am (Kd.R_lower ho0 (bZ (by repeat (first|(with_reducible first|exact HB.out|apply oA|apply pN|apply o1|refine bS ?_ Bs.out)|exact HB.out))));have n1_ := Am (Kd.R_lower ho1 (bZ (by repeat (first|(with_reducible first|exact HB.out|apply oA|apply pN|apply o1|refine bS ?_ Bs.out)|exact HB.out))));have n2_ := Am (Kd.R_lower ho2 (bZ (by repeat (first|(with_reducible first|exact HB.out|apply oA|apply pN|apply o1|refine bS ?_ Bs.out)|exact HB.out))));have n3_ := Am (bB (g := Bt) (o := .cells #[.slice A0_0 l0_0.length c0_0, .slice A0_1 l0_1.length c0_1, .slice A0_2 l0_2.length c0_2] 25 (0, 0)) (bL Bg.out) hb);have n4_ := Am (bP (by repeat (first|(with_reducible first|exact HB.out|apply oA|apply pN|apply o1|refine bS ?_ Bs.out)|exact HB.out)) hb);clear Bg HB;revert n0_ n1_ n2_ n3_ n4_;intro Bx By BB Bg HB;(try clear hb);(try clear hb2);(try clear hk);(try clear hi);(try clear ho0);(try clear ho1);(try clear ho2);obtain ⟨Ao19, co19, eo19⟩ := Kd.R_slice Bx.out;subst eo19;obtain ⟨Ao20, co20, eo20⟩ := Kd.R_slice By.out;subst eo20;obtain ⟨Ao21, co21, eo21⟩ := Kd.R_slice BB.out;subst eo21)|((with_reducible refine gate_callee (f := 25) rfl ?_);refine goesL_ (some 28) rfl rfl Try.func25 (by kernel_rfl) rfl #[.agg #[.slice Ao19 t287.length co19, .slice Ao20 t290.length co20, .slice Ao21 t293.length co21], .int .i64 a1, .int .i64 a2] rfl (by (try simp only [lM, lC, lN]);first|done|rfl|(simp only [lD, lT];rfl)) ?_;(with_reducible refine (spec_SigsSet.calls k _ _ t287 _ _ t290 _ _ t293 a1 a2 t296 t299 t302 t305 _ ?side1 ?side2 ?side3 ?side4 ?side5 ?side6 A10.out).mono ?_);(case side1 => repeat (first|exact (Kd.R_reads' Bx.out).2.2|(with_reducible refine cA ?_ _)|(with_reducible refine cN ?_ _)|(with_reducible refine cD ?_)));(case side2 => exact (Kd.R_reads' Bx.out).2.1);(case side3 => repeat (first|exact (Kd.R_reads' By.out).2.2|(with_reducible refine cA ?_ _)|(with_reducible refine cN ?_ _)|(with_reducible refine cD ?_)));(case side4 => exact (Kd.R_reads' By.out).2.1);(case side5 => repeat (first|exact (Kd.R_reads' BB.out).2.2|(with_reducible refine cA ?_ _)|(with_reducible refine cN ?_ _)|(with_reducible refine cD ?_)));(case side6 => exact (Kd.R_reads' BB.out).2.1);rintro e w22 ⟨v297, v300, v303, rfl, ho0, ho1, ho2, hb⟩;refine ⟨_, rfl, ?_⟩;have n0_ := Am (rM (Kd.R_told (Kd.R_told (Kd.R_old (rL Bx.out) hb) (Kd.R_base ho0)) (Kd.R_base ho1)) (fun _ h_ => h_.1));have n1_ := Am (rM (Kd.R_told (Kd.R_told (Kd.R_old (rL By.out) hb) (Kd.R_base ho0)) (Kd.R_base ho1)) (fun _ h_ => h_.1));have n2_ := Am (Kd.R_elder' (rL BB.out) (Kd.R_base ho2) hb);have n3_ := Am (Kd.R_lower (Kd.R_new' (Kd.R_new' ho0 (Kd.R_lt (rL Bx.out))) (Kd.R_lt (rL By.out))) (bZ (by repeat (first|(with_reducible first|exact HB.out|apply oA|apply pN|apply o1|refine bS ?_ Bs.out)|exact HB.out))));have n4_ := Am (Kd.R_lower (Kd.R_new' (Kd.R_new' ho1 (Kd.R_lt (rL Bx.out))) (Kd.R_lt (rL By.out))) (bZ (by repeat (first|(with_reducible first|exact HB.out|apply oA|apply pN|apply o1|refine bS ?_ Bs.out)|exact HB.out))));have n5_ := Am (Kd.R_lower (Kd.R_new' ho2 (Kd.R_lt (rL BB.out))) (bZ (by repeat (first|(with_reducible first|exact HB.out|apply oA|apply pN|apply o1|refine bS ?_ Bs.out)|exact HB.out))));have n6_ := Am (bB (g := Bt) (o := .cells #[.slice A0_0 l0_0.length c0_0, .slice A0_1 l0_1.length c0_1, .slice A0_2 l0_2.length c0_2] 25 (0, 0)) (bL Bg.out) hb);have n7_ := Am (bP (by repeat (first|(with_reducible first|exact HB.out|apply oA|apply pN|apply o1|refine bS ?_ Bs.out)|exact HB.out)) hb);clear Bx By BB Bg HB;revert n0_ n1_ n2_ n3_ n4_ n5_ n6_ n7_;intro Bx By BB Bz BA BC Bg HB;(try clear hb);(try clear hb2);(try clear hk);(try clear hi);(try clear ho0);(try clear ho1);(try clear ho2))|((with_reducible refine gate_dst (N := 8) rfl ?_);refine box_event ?hg (N := 8) ?hd (cs := #[.slice none 0 0, .slice none 0 0, .slice none 0 0]) (t := 27) ?hr ?_;(case hd => rfl);(case hg => rfl);(case hr => first|(go_simp;done)|(go_simp;rfl));intro Bq hg w23 hbox hb;have n0_ := Am (rB (rL Bx.out) hb);have n1_ := Am (rB (rL By.out) hb);have n2_ := Am (rB (rL BB.out) hb);have n3_ := Am (rB (rL Bz.out) hb);have n4_ := Am (rB (rL BA.out) hb);have n5_ := Am (rB (rL BC.out) hb);have n6_ := Am (bB (g := Bt) (o := .cells #[.slice A0_0 l0_0.length c0_0, .slice A0_1 l0_1.length c0_1, .slice A0_2 l0_2.length c0_2] 25 (0, 0)) (bL Bg.out) hb);have n7_ := Am (bP (by repeat (first|(with_reducible first|exact HB.out|apply oA|apply pN|apply o1|refine bS ?_ Bs.out)|exact HB.out)) hb);have n8_ := Am (hbox);have n9_ := Am ((by rw [hg];exact (bZ (by repeat (first|(with_reducible first|exact HB.out|apply oA|apply pN|apply o1|refine bS ?_ Bs.out)|exact HB.out))) : w.heap.size ≤ Bq));have n10_ := Am ((by rw [hg];exact (bZ (by repeat (first|(with_reducible first|exact HB.out|apply oA|apply pN|apply o1|refine bS ?_ Bs.out)|exact HB.out))) : w.heap.size ≤ Bq));have n11_ := Am ((by rw [hg];exact Nat.ne_of_lt (blk_lt (g := Bt) (o := .cells #[.slice A0_0 l0_0.length c0_0, .slice A0_1 l0_1.length c0_1, .slice A0_2 l0_2.length c0_2] 25 (0, 0)) (bL Bg.out)) : Bt ≠ Bq));have n12_ := Am ((by rw [hg];exact Nat.ne_of_gt (blk_lt (g := Bt) (o := .cells #[.slice A0_0 l0_0.length c0_0, .slice A0_1 l0_1.length c0_1, .slice A0_2 l0_2.length c0_2] 25 (0, 0)) (bL Bg.out)) : Bq ≠ Bt));clear Bx By BB Bz BA BC Bg HB;revert n0_ n1_ n2_ n3_ n4_ n5_ n6_ n7_ n8_ n9_ n10_ n11_ n12_;intro Bx By BB Bz BA BC Bg HB Bd JC Bu BI BV;clear hb hbox hg;obtain ⟨Ao24, co24, eo24⟩ := Kd.R_slice Bz.out;subst eo24;have JD := BV.out;have JE := BI.out;have Ds : w23.cell? ⟨Bq, 0, none⟩ = some (.slice none 0 0) := (bC Bd.out 0).trans rfl;have Dt : w23.cell? ⟨Bq, 1, none⟩ = some (.slice none 0 0) := (bC Bd.out 1).trans rfl;have Du : w23.cell? ⟨Bq, 2, none⟩ = some (.slice none 0 0) := (bC Bd.out 2).trans rfl;have Dv := bF Bd.out 0;have Dw := bF Bd.out 1;have Dx := bF Bd.out 2;obtain ⟨Ao27, co27, eo27⟩ := Kd.R_slice BA.out;subst eo27;obtain ⟨Ao28, co28, eo28⟩ := Kd.R_slice BC.out;subst eo28;have Dy : w23.cell? ⟨Bt, 0, none⟩ = some (.slice A0_0 l0_0.length c0_0) := (bC Bg.out 0).trans rfl;have Dz : w23.cell? ⟨Bt, 1, none⟩ = some (.slice A0_1 l0_1.length c0_1) := (bC Bg.out 1).trans rfl;have DA : w23.cell? ⟨Bt, 2, none⟩ = some (.slice A0_2 l0_2.length c0_2) := (bC Bg.out 2).trans rfl;have DB := bF Bg.out 0;have DC := bF Bg.out 1;have DD := bF Bg.out 2)|((with_reducible refine gate_callee (f := 15) rfl ?_);refine goesL_ (some 32) rfl rfl Try.func15 (by kernel_rfl) rfl #[.agg #[.slice A0_0 l0_0.length c0_0, .slice A0_1 l0_1.length c0_1, .slice A0_2 l0_2.length c0_2]] rfl (by (try simp only [lM, lC, lN]);first|done|rfl|(simp only [lD, lT];rfl)) ?_;(with_reducible refine (laws_toSigs.calls k _ _ l0_0 _ _ l0_1 _ _ l0_2 t307 t310 t313 _ ?side1 ?side2 ?side3 ?side4 ?side5 ?side6 A11.out).mono ?_);(case side1 => exact cB HR0_0.out (by repeat (first|(with_reducible first|exact HB.out|apply oA|apply pN|apply o1|refine bS ?_ Bs.out|refine bS ?_ Bu.out)|exact HB.out)));(case side2 => exact HC0_0.out);(case side3 => exact cB HR0_1.out (by repeat (first|(with_reducible first|exact HB.out|apply oA|apply pN|apply o1|refine bS ?_ Bs.out|refine bS ?_ Bu.out)|exact HB.out)));(case side4 => exact HC0_1.out);(case side5 => exact cB HR0_2.out (by repeat (first|(with_reducible first|exact HB.out|apply oA|apply pN|apply o1|refine bS ?_ Bs.out|refine bS ?_ Bu.out)|exact HB.out)));(case side6 => exact HC0_2.out);rintro e w30 ⟨v308, v311, v314, rfl, ho0, ho1, ho2, hb⟩;refine ⟨_, rfl, ?_⟩;have n0_ := Am (rM (Kd.R_told (Kd.R_told (Kd.R_old (by (with_reducible repeat (first|apply rA|apply rN|apply rD));exact (rM (rF (p := ⟨Bq, 2, none⟩) (rF (p := ⟨Bq, 1, none⟩) (rF (p := ⟨Bq, 0, none⟩) (rT Bx.out Bd.out (by decide)) (fun _ hk => hk.2) (.slice Ao24 t296.length co24)) (fun _ hk => hk.2) (.slice Ao27 t299.length co27)) (fun _ hk => hk.2) (.slice Ao28 t302.length co28)) (fun _ h_ => h_.1))) hb) (Kd.R_base ho0)) (Kd.R_base ho1)) (fun _ h_ => h_.1));have n1_ := Am (rM (Kd.R_told (Kd.R_told (Kd.R_old (by (with_reducible repeat (first|apply rA|apply rN|apply rD));exact (rM (rF (p := ⟨Bq, 2, none⟩) (rF (p := ⟨Bq, 1, none⟩) (rF (p := ⟨Bq, 0, none⟩) (rT By.out Bd.out (by decide)) (fun _ hk => hk.2) (.slice Ao24 t296.length co24)) (fun _ hk => hk.2) (.slice Ao27 t299.length co27)) (fun _ hk => hk.2) (.slice Ao28 t302.length co28)) (fun _ h_ => h_.1))) hb) (Kd.R_base ho0)) (Kd.R_base ho1)) (fun _ h_ => h_.1));have n2_ := Am (Kd.R_elder' (by (with_reducible repeat (first|apply rA|apply rN|apply rD));exact (rM (rF (p := ⟨Bq, 2, none⟩) (rF (p := ⟨Bq, 1, none⟩) (rF (p := ⟨Bq, 0, none⟩) (rT BB.out Bd.out (by decide)) (fun _ hk => hk.2) (.slice Ao24 t296.length co24)) (fun _ hk => hk.2) (.slice Ao27 t299.length co27)) (fun _ hk => hk.2) (.slice Ao28 t302.length co28)) (fun _ h_ => h_.1))) (Kd.R_base ho2) hb);have n3_ := Am (rM (Kd.R_told (Kd.R_told (Kd.R_old (by (with_reducible repeat (first|apply rA|apply rN|apply rD));exact (rM (rF (p := ⟨Bq, 2, none⟩) (rF (p := ⟨Bq, 1, none⟩) (rF (p := ⟨Bq, 0, none⟩) (rT Bz.out Bd.out (by decide)) (fun _ hk => hk.2) (.slice Ao24 t296.length co24)) (fun _ hk => hk.2) (.slice Ao27 t299.length co27)) (fun _ hk => hk.2) (.slice Ao28 t302.length co28)) (fun _ h_ => h_.1))) hb) (Kd.R_base ho0)) (Kd.R_base ho1)) (fun _ h_ => h_.1));have n4_ := Am (rM (Kd.R_told (Kd.R_told (Kd.R_old (by (with_reducible repeat (first|apply rA|apply rN|apply rD));exact (rM (rF (p := ⟨Bq, 2, none⟩) (rF (p := ⟨Bq, 1, none⟩) (rF (p := ⟨Bq, 0, none⟩) (rT BA.out Bd.out (by decide)) (fun _ hk => hk.2) (.slice Ao24 t296.length co24)) (fun _ hk => hk.2) (.slice Ao27 t299.length co27)) (fun _ hk => hk.2) (.slice Ao28 t302.length co28)) (fun _ h_ => h_.1))) hb) (Kd.R_base ho0)) (Kd.R_base ho1)) (fun _ h_ => h_.1));have n5_ := Am (Kd.R_elder' (by (with_reducible repeat (first|apply rA|apply rN|apply rD));exact (rM (rF (p := ⟨Bq, 2, none⟩) (rF (p := ⟨Bq, 1, none⟩) (rF (p := ⟨Bq, 0, none⟩) (rT BC.out Bd.out (by decide)) (fun _ hk => hk.2) (.slice Ao24 t296.length co24)) (fun _ hk => hk.2) (.slice Ao27 t299.length co27)) (fun _ hk => hk.2) (.slice Ao28 t302.length co28)) (fun _ h_ => h_.1))) (Kd.R_base ho2) hb);have n6_ := Am (Kd.R_lower (Kd.R_new' (Kd.R_new' (Kd.R_new' (Kd.R_new' ho0 (Kd.R_lt (by (with_reducible repeat (first|apply rA|apply rN|apply rD));exact (rM (rF (p := ⟨Bq, 2, none⟩) (rF (p := ⟨Bq, 1, none⟩) (rF (p := ⟨Bq, 0, none⟩) (rT Bx.out Bd.out (by decide)) (fun _ hk => hk.2) (.slice Ao24 t296.length co24)) (fun _ hk => hk.2) (.slice Ao27 t299.length co27)) (fun _ hk => hk.2) (.slice Ao28 t302.length co28)) (fun _ h_ => h_.1))))) (Kd.R_lt (by (with_reducible repeat (first|apply rA|apply rN|apply rD));exact (rM (rF (p := ⟨Bq, 2, none⟩) (rF (p := ⟨Bq, 1, none⟩) (rF (p := ⟨Bq, 0, none⟩) (rT By.out Bd.out (by decide)) (fun _ hk => hk.2) (.slice Ao24 t296.length co24)) (fun _ hk => hk.2) (.slice Ao27 t299.length co27)) (fun _ hk => hk.2) (.slice Ao28 t302.length co28)) (fun _ h_ => h_.1))))) (Kd.R_lt (by (with_reducible repeat (first|apply rA|apply rN|apply rD));exact (rM (rF (p := ⟨Bq, 2, none⟩) (rF (p := ⟨Bq, 1, none⟩) (rF (p := ⟨Bq, 0, none⟩) (rT Bz.out Bd.out (by decide)) (fun _ hk => hk.2) (.slice Ao24 t296.length co24)) (fun _ hk => hk.2) (.slice Ao27 t299.length co27)) (fun _ hk => hk.2) (.slice Ao28 t302.length co28)) (fun _ h_ => h_.1))))) (Kd.R_lt (by (with_reducible repeat (first|apply rA|apply rN|apply rD));exact (rM (rF (p := ⟨Bq, 2, none⟩) (rF (p := ⟨Bq, 1, none⟩) (rF (p := ⟨Bq, 0, none⟩) (rT BA.out Bd.out (by decide)) (fun _ hk => hk.2) (.slice Ao24 t296.length co24)) (fun _ hk => hk.2) (.slice Ao27 t299.length co27)) (fun _ hk => hk.2) (.slice Ao28 t302.length co28)) (fun _ h_ => h_.1))))) (bZ (by repeat (first|(with_reducible first|exact HB.out|apply oA|apply pN|apply o1|refine bS ?_ Bs.out|refine bS ?_ Bu.out)|exact HB.out))));have n7_ := Am (Kd.R_lower (Kd.R_new' (Kd.R_new' (Kd.R_new' (Kd.R_new' ho1 (Kd.R_lt (by (with_reducible repeat (first|apply rA|apply rN|apply rD));exact (rM (rF (p := ⟨Bq, 2, none⟩) (rF (p := ⟨Bq, 1, none⟩) (rF (p := ⟨Bq, 0, none⟩) (rT Bx.out Bd.out (by decide)) (fun _ hk => hk.2) (.slice Ao24 t296.length co24)) (fun _ hk => hk.2) (.slice Ao27 t299.length co27)) (fun _ hk => hk.2) (.slice Ao28 t302.length co28)) (fun _ h_ => h_.1))))) (Kd.R_lt (by (with_reducible repeat (first|apply rA|apply rN|apply rD));exact (rM (rF (p := ⟨Bq, 2, none⟩) (rF (p := ⟨Bq, 1, none⟩) (rF (p := ⟨Bq, 0, none⟩) (rT By.out Bd.out (by decide)) (fun _ hk => hk.2) (.slice Ao24 t296.length co24)) (fun _ hk => hk.2) (.slice Ao27 t299.length co27)) (fun _ hk => hk.2) (.slice Ao28 t302.length co28)) (fun _ h_ => h_.1))))) (Kd.R_lt (by (with_reducible repeat (first|apply rA|apply rN|apply rD));exact (rM (rF (p := ⟨Bq, 2, none⟩) (rF (p := ⟨Bq, 1, none⟩) (rF (p := ⟨Bq, 0, none⟩) (rT Bz.out Bd.out (by decide)) (fun _ hk => hk.2) (.slice Ao24 t296.length co24)) (fun _ hk => hk.2) (.slice Ao27 t299.length co27)) (fun _ hk => hk.2) (.slice Ao28 t302.length co28)) (fun _ h_ => h_.1))))) (Kd.R_lt (by (with_reducible repeat (first|apply rA|apply rN|apply rD));exact (rM (rF (p := ⟨Bq, 2, none⟩) (rF (p := ⟨Bq, 1, none⟩) (rF (p := ⟨Bq, 0, none⟩) (rT BA.out Bd.out (by decide)) (fun _ hk => hk.2) (.slice Ao24 t296.length co24)) (fun _ hk => hk.2) (.slice Ao27 t299.length co27)) (fun _ hk => hk.2) (.slice Ao28 t302.length co28)) (fun _ h_ => h_.1))))) (bZ (by repeat (first|(with_reducible first|exact HB.out|apply oA|apply pN|apply o1|refine bS ?_ Bs.out|refine bS ?_ Bu.out)|exact HB.out))));have n8_ := Am (Kd.R_lower (Kd.R_new' (Kd.R_new' ho2 (Kd.R_lt (by (with_reducible repeat (first|apply rA|apply rN|apply rD));exact (rM (rF (p := ⟨Bq, 2, none⟩) (rF (p := ⟨Bq, 1, none⟩) (rF (p := ⟨Bq, 0, none⟩) (rT BB.out Bd.out (by decide)) (fun _ hk => hk.2) (.slice Ao24 t296.length co24)) (fun _ hk => hk.2) (.slice Ao27 t299.length co27)) (fun _ hk => hk.2) (.slice Ao28 t302.length co28)) (fun _ h_ => h_.1))))) (Kd.R_lt (by (with_reducible repeat (first|apply rA|apply rN|apply rD));exact (rM (rF (p := ⟨Bq, 2, none⟩) (rF (p := ⟨Bq, 1, none⟩) (rF (p := ⟨Bq, 0, none⟩) (rT BC.out Bd.out (by decide)) (fun _ hk => hk.2) (.slice Ao24 t296.length co24)) (fun _ hk => hk.2) (.slice Ao27 t299.length co27)) (fun _ hk => hk.2) (.slice Ao28 t302.length co28)) (fun _ h_ => h_.1))))) (bZ (by repeat (first|(with_reducible first|exact HB.out|apply oA|apply pN|apply o1|refine bS ?_ Bs.out|refine bS ?_ Bu.out)|exact HB.out))));have n9_ := Am (bB (g := Bt) (o := .cells #[.slice A0_0 l0_0.length c0_0, .slice A0_1 l0_1.length c0_1, .slice A0_2 l0_2.length c0_2] 25 (0, 0)) (by (with_reducible repeat (first|refine bN ?_ _|refine bD ?_|refine bA ?_ _|refine blk_far ?_ BI.out _));exact Bg.out) hb);have n10_ := Am (bB (g := Bq) (o := .cells #[.slice Ao24 t296.length co24, .slice Ao27 t299.length co27, .slice Ao28 t302.length co28] 27 (0, 0)) (by (with_reducible repeat (first|refine bN ?_ _|refine bD ?_|refine bA ?_ _));refine blk_put (cs := #[.slice Ao24 t296.length co24, .slice Ao27 t299.length co27, .slice none 0 0]) ?_ 2 _ rfl;(with_reducible repeat (first|refine bN ?_ _|refine bD ?_|refine bA ?_ _));refine blk_put (cs := #[.slice Ao24 t296.length co24, .slice none 0 0, .slice none 0 0]) ?_ 1 _ rfl;(with_reducible repeat (first|refine bN ?_ _|refine bD ?_|refine bA ?_ _));refine blk_put (cs := #[.slice none 0 0, .slice none 0 0, .slice none 0 0]) ?_ 0 _ rfl;(with_reducible repeat (first|refine bN ?_ _|refine bD ?_|refine bA ?_ _));exact Bd.out) hb);have n11_ := Am (bP (by repeat (first|(with_reducible first|exact HB.out|apply oA|apply pN|apply o1|refine bS ?_ Bs.out|refine bS ?_ Bu.out)|exact HB.out)) hb);clear Bx By BB Bz BA BC Bg Bd HB;revert n0_ n1_ n2_ n3_ n4_ n5_ n6_ n7_ n8_ n9_ n10_ n11_;intro Bx By BB Bz BA BC BD BE BF Bg Bd HB;(try clear hb);(try clear hb2);(try clear hk);(try clear hi);(try clear ho0);(try clear ho1);(try clear ho2))|((with_reducible refine gate_dst (N := 10) rfl ?_);refine box_event ?hg (N := 10) ?hd (cs := #[.slice none 0 0, .slice none 0 0, .slice none 0 0]) (t := 27) ?hr ?_;(case hd => rfl);(case hg => rfl);(case hr => first|(go_simp;done)|(go_simp;rfl));intro Bo hg w31 hbox hb;have n0_ := Am (rB (rL Bx.out) hb);have n1_ := Am (rB (rL By.out) hb);have n2_ := Am (rB (rL BB.out) hb);have n3_ := Am (rB (rL Bz.out) hb);have n4_ := Am (rB (rL BA.out) hb);have n5_ := Am (rB (rL BC.out) hb);have n6_ := Am (rB (rL BD.out) hb);have n7_ := Am (rB (rL BE.out) hb);have n8_ := Am (rB (rL BF.out) hb);have n9_ := Am (bB (g := Bt) (o := .cells #[.slice A0_0 l0_0.length c0_0, .slice A0_1 l0_1.length c0_1, .slice A0_2 l0_2.length c0_2] 25 (0, 0)) (bL Bg.out) hb);have n10_ := Am (bB (g := Bq) (o := .cells #[.slice Ao24 t296.length co24, .slice Ao27 t299.length co27, .slice Ao28 t302.length co28] 27 (0, 0)) (bL Bd.out) hb);have n11_ := Am (bP (by repeat (first|(with_reducible first|exact HB.out|apply oA|apply pN|apply o1|refine bS ?_ Bs.out|refine bS ?_ Bu.out)|exact HB.out)) hb);have n12_ := Am (hbox);have n13_ := Am ((by rw [hg];exact (bZ (by repeat (first|(with_reducible first|exact HB.out|apply oA|apply pN|apply o1|refine bS ?_ Bs.out|refine bS ?_ Bu.out)|exact HB.out))) : w.heap.size ≤ Bo));have n14_ := Am ((by rw [hg];exact (bZ (by repeat (first|(with_reducible first|exact HB.out|apply oA|apply pN|apply o1|refine bS ?_ Bs.out|refine bS ?_ Bu.out)|exact HB.out))) : w.heap.size ≤ Bo));have n15_ := Am ((by rw [hg];exact Nat.ne_of_lt (blk_lt (g := Bt) (o := .cells #[.slice A0_0 l0_0.length c0_0, .slice A0_1 l0_1.length c0_1, .slice A0_2 l0_2.length c0_2] 25 (0, 0)) (bL Bg.out)) : Bt ≠ Bo));have n16_ := Am ((by rw [hg];exact Nat.ne_of_gt (blk_lt (g := Bt) (o := .cells #[.slice A0_0 l0_0.length c0_0, .slice A0_1 l0_1.length c0_1, .slice A0_2 l0_2.length c0_2] 25 (0, 0)) (bL Bg.out)) : Bo ≠ Bt));have n17_ := Am ((by rw [hg];exact Nat.ne_of_lt (blk_lt (g := Bq) (o := .cells #[.slice Ao24 t296.length co24, .slice Ao27 t299.length co27, .slice Ao28 t302.length co28] 27 (0, 0)) (bL Bd.out)) : Bq ≠ Bo));have n18_ := Am ((by rw [hg];exact Nat.ne_of_gt (blk_lt (g := Bq) (o := .cells #[.slice Ao24 t296.length co24, .slice Ao27 t299.length co27, .slice Ao28 t302.length co28] 27 (0, 0)) (bL Bd.out)) : Bo ≠ Bq));clear Bx By BB Bz BA BC BD BE BF Bg Bd HB;revert n0_ n1_ n2_ n3_ n4_ n5_ n6_ n7_ n8_ n9_ n10_ n11_ n12_ n13_ n14_ n15_ n16_ n17_ n18_;intro Bx By BB Bz BA BC BD BE BF Bg Bd HB Bl JF Bv B9 Db BJ BW;clear hb hbox hg;obtain ⟨Ao32, co32, eo32⟩ := Kd.R_slice BD.out;subst eo32;have JG := Db.out;have JH := B9.out;have JI := BW.out;have JJ := BJ.out;have DE : w31.cell? ⟨Bo, 0, none⟩ = some (.slice none 0 0) := (bC Bl.out 0).trans rfl;have DF : w31.cell? ⟨Bo, 1, none⟩ = some (.slice none 0 0) := (bC Bl.out 1).trans rfl;have DG : w31.cell? ⟨Bo, 2, none⟩ = some (.slice none 0 0) := (bC Bl.out 2).trans rfl;have DH := bF Bl.out 0;have DI := bF Bl.out 1;have DJ := bF Bl.out 2;obtain ⟨Ao36, co36, eo36⟩ := Kd.R_slice BE.out;subst eo36;obtain ⟨Ao37, co37, eo37⟩ := Kd.R_slice BF.out;subst eo37)|((with_reducible refine gate_callee (f := 26) rfl ?_);refine goesL_ (some 37) rfl rfl Try.func26 (by kernel_rfl) rfl #[.agg #[.slice Ao32 t307.length co32, .slice Ao36 t310.length co36, .slice Ao37 t313.length co37], .int .i64 a1, .int .i64 a2] rfl (by (try simp only [lM, lC, lN]);first|done|rfl|(simp only [lD, lT];rfl)) ?_;(with_reducible refine (impl_SigsSet.calls k _ _ t307 _ _ t310 _ _ t313 a1 a2 t317 t320 t323 t326 _ ?side1 ?side2 ?side3 ?side4 ?side5 ?side6 A12.out).mono ?_);(case side1 => refine (Kd.R_reads' (e := 4) (base := w.heap.size) (ok := fun k_ => ((((some k_ ≠ (.slice Ao36 t310.length co36 : Value).ownBlock ∧ some k_ ≠ (.slice Ao19 t287.length co19 : Value).ownBlock) ∧ some k_ ≠ (.slice Ao20 t290.length co20 : Value).ownBlock) ∧ some k_ ≠ (.slice Ao24 t296.length co24 : Value).ownBlock) ∧ some k_ ≠ (.slice Ao27 t299.length co27 : Value).ownBlock)) (n := t307.length) (c := co32) ?_).2.2;exact (by (with_reducible repeat (first|apply rA|apply rN|apply rD));exact (rM (rF (p := ⟨Bo, 2, none⟩) (rF (p := ⟨Bo, 1, none⟩) (rF (p := ⟨Bo, 0, none⟩) (rT BD.out Bl.out (by decide)) (fun _ hk => hk.2) (.slice Ao32 t307.length co32)) (fun _ hk => hk.2) (.slice Ao36 t310.length co36)) (fun _ hk => hk.2) (.slice Ao37 t313.length co37)) (fun _ h_ => h_.1))));(case side2 => exact (Kd.R_reads' BD.out).2.1);(case side3 => refine (Kd.R_reads' (e := 4) (base := w.heap.size) (ok := fun k_ => ((((some k_ ≠ (.slice Ao32 t307.length co32 : Value).ownBlock ∧ some k_ ≠ (.slice Ao19 t287.length co19 : Value).ownBlock) ∧ some k_ ≠ (.slice Ao20 t290.length co20 : Value).ownBlock) ∧ some k_ ≠ (.slice Ao24 t296.length co24 : Value).ownBlock) ∧ some k_ ≠ (.slice Ao27 t299.length co27 : Value).ownBlock)) (n := t310.length) (c := co36) ?_).2.2;exact (by (with_reducible repeat (first|apply rA|apply rN|apply rD));exact (rM (rF (p := ⟨Bo, 2, none⟩) (rF (p := ⟨Bo, 1, none⟩) (rF (p := ⟨Bo, 0, none⟩) (rT BE.out Bl.out (by decide)) (fun _ hk => hk.2) (.slice Ao32 t307.length co32)) (fun _ hk => hk.2) (.slice Ao36 t310.length co36)) (fun _ hk => hk.2) (.slice Ao37 t313.length co37)) (fun _ h_ => h_.1))));(case side4 => exact (Kd.R_reads' BE.out).2.1);(case side5 => refine (Kd.R_reads' (e := 3) (base := w.heap.size) (ok := fun k_ => ((True ∧ some k_ ≠ (.slice Ao21 t293.length co21 : Value).ownBlock) ∧ some k_ ≠ (.slice Ao28 t302.length co28 : Value).ownBlock)) (n := t313.length) (c := co37) ?_).2.2;exact (by (with_reducible repeat (first|apply rA|apply rN|apply rD));exact (rM (rF (p := ⟨Bo, 2, none⟩) (rF (p := ⟨Bo, 1, none⟩) (rF (p := ⟨Bo, 0, none⟩) (rT BF.out Bl.out (by decide)) (fun _ hk => hk.2) (.slice Ao32 t307.length co32)) (fun _ hk => hk.2) (.slice Ao36 t310.length co36)) (fun _ hk => hk.2) (.slice Ao37 t313.length co37)) (fun _ h_ => h_.1))));(case side6 => exact (Kd.R_reads' BF.out).2.1);rintro e w38 ⟨v318, v321, v324, rfl, ho0, ho1, ho2, hb⟩;refine ⟨_, rfl, ?_⟩;have n0_ := Am (rM (Kd.R_told (Kd.R_told (Kd.R_old (by (with_reducible repeat (first|apply rA|apply rN|apply rD));exact (rM (rF (p := ⟨Bo, 2, none⟩) (rF (p := ⟨Bo, 1, none⟩) (rF (p := ⟨Bo, 0, none⟩) (rT Bx.out Bl.out (by decide)) (fun _ hk => hk.2) (.slice Ao32 t307.length co32)) (fun _ hk => hk.2) (.slice Ao36 t310.length co36)) (fun _ hk => hk.2) (.slice Ao37 t313.length co37)) (fun _ h_ => h_.1))) hb) (Kd.R_base ho0)) (Kd.R_base ho1)) (fun _ h_ => h_.1));have n1_ := Am (rM (Kd.R_told (Kd.R_told (Kd.R_old (by (with_reducible repeat (first|apply rA|apply rN|apply rD));exact (rM (rF (p := ⟨Bo, 2, none⟩) (rF (p := ⟨Bo, 1, none⟩) (rF (p := ⟨Bo, 0, none⟩) (rT By.out Bl.out (by decide)) (fun _ hk => hk.2) (.slice Ao32 t307.length co32)) (fun _ hk => hk.2) (.slice Ao36 t310.length co36)) (fun _ hk => hk.2) (.slice Ao37 t313.length co37)) (fun _ h_ => h_.1))) hb) (Kd.R_base ho0)) (Kd.R_base ho1)) (fun _ h_ => h_.1));have n2_ := Am (Kd.R_elder' (by (with_reducible repeat (first|apply rA|apply rN|apply rD));exact (rM (rF (p := ⟨Bo, 2, none⟩) (rF (p := ⟨Bo, 1, none⟩) (rF (p := ⟨Bo, 0, none⟩) (rT BB.out Bl.out (by decide)) (fun _ hk => hk.2) (.slice Ao32 t307.length co32)) (fun _ hk => hk.2) (.slice Ao36 t310.length co36)) (fun _ hk => hk.2) (.slice Ao37 t313.length co37)) (fun _ h_ => h_.1))) (Kd.R_base ho2) hb);have n3_ := Am (rM (Kd.R_told (Kd.R_told (Kd.R_old (by (with_reducible repeat (first|apply rA|apply rN|apply rD));exact (rM (rF (p := ⟨Bo, 2, none⟩) (rF (p := ⟨Bo, 1, none⟩) (rF (p := ⟨Bo, 0, none⟩) (rT Bz.out Bl.out (by decide)) (fun _ hk => hk.2) (.slice Ao32 t307.length co32)) (fun _ hk => hk.2) (.slice Ao36 t310.length co36)) (fun _ hk => hk.2) (.slice Ao37 t313.length co37)) (fun _ h_ => h_.1))) hb) (Kd.R_base ho0)) (Kd.R_base ho1)) (fun _ h_ => h_.1));have n4_ := Am (rM (Kd.R_told (Kd.R_told (Kd.R_old (by (with_reducible repeat (first|apply rA|apply rN|apply rD));exact (rM (rF (p := ⟨Bo, 2, none⟩) (rF (p := ⟨Bo, 1, none⟩) (rF (p := ⟨Bo, 0, none⟩) (rT BA.out Bl.out (by decide)) (fun _ hk => hk.2) (.slice Ao32 t307.length co32)) (fun _ hk => hk.2) (.slice Ao36 t310.length co36)) (fun _ hk => hk.2) (.slice Ao37 t313.length co37)) (fun _ h_ => h_.1))) hb) (Kd.R_base ho0)) (Kd.R_base ho1)) (fun _ h_ => h_.1));have n5_ := Am (Kd.R_elder' (by (with_reducible repeat (first|apply rA|apply rN|apply rD));exact (rM (rF (p := ⟨Bo, 2, none⟩) (rF (p := ⟨Bo, 1, none⟩) (rF (p := ⟨Bo, 0, none⟩) (rT BC.out Bl.out (by decide)) (fun _ hk => hk.2) (.slice Ao32 t307.length co32)) (fun _ hk => hk.2) (.slice Ao36 t310.length co36)) (fun _ hk => hk.2) (.slice Ao37 t313.length co37)) (fun _ h_ => h_.1))) (Kd.R_base ho2) hb);have n6_ := Am (rM (Kd.R_told (Kd.R_told (Kd.R_old (by (with_reducible repeat (first|apply rA|apply rN|apply rD));exact (rM (rF (p := ⟨Bo, 2, none⟩) (rF (p := ⟨Bo, 1, none⟩) (rF (p := ⟨Bo, 0, none⟩) (rT BD.out Bl.out (by decide)) (fun _ hk => hk.2) (.slice Ao32 t307.length co32)) (fun _ hk => hk.2) (.slice Ao36 t310.length co36)) (fun _ hk => hk.2) (.slice Ao37 t313.length co37)) (fun _ h_ => h_.1))) hb) (Kd.R_base ho0)) (Kd.R_base ho1)) (fun _ h_ => h_.1));have n7_ := Am (rM (Kd.R_told (Kd.R_told (Kd.R_old (by (with_reducible repeat (first|apply rA|apply rN|apply rD));exact (rM (rF (p := ⟨Bo, 2, none⟩) (rF (p := ⟨Bo, 1, none⟩) (rF (p := ⟨Bo, 0, none⟩) (rT BE.out Bl.out (by decide)) (fun _ hk => hk.2) (.slice Ao32 t307.length co32)) (fun _ hk => hk.2) (.slice Ao36 t310.length co36)) (fun _ hk => hk.2) (.slice Ao37 t313.length co37)) (fun _ h_ => h_.1))) hb) (Kd.R_base ho0)) (Kd.R_base ho1)) (fun _ h_ => h_.1));have n8_ := Am (Kd.R_elder' (by (with_reducible repeat (first|apply rA|apply rN|apply rD));exact (rM (rF (p := ⟨Bo, 2, none⟩) (rF (p := ⟨Bo, 1, none⟩) (rF (p := ⟨Bo, 0, none⟩) (rT BF.out Bl.out (by decide)) (fun _ hk => hk.2) (.slice Ao32 t307.length co32)) (fun _ hk => hk.2) (.slice Ao36 t310.length co36)) (fun _ hk => hk.2) (.slice Ao37 t313.length co37)) (fun _ h_ => h_.1))) (Kd.R_base ho2) hb);have n9_ := Am (Kd.R_lower (Kd.R_new' (Kd.R_new' (Kd.R_new' (Kd.R_new' (Kd.R_new' (Kd.R_new' ho0 (Kd.R_lt (by (with_reducible repeat (first|apply rA|apply rN|apply rD));exact (rM (rF (p := ⟨Bo, 2, none⟩) (rF (p := ⟨Bo, 1, none⟩) (rF (p := ⟨Bo, 0, none⟩) (rT Bx.out Bl.out (by decide)) (fun _ hk => hk.2) (.slice Ao32 t307.length co32)) (fun _ hk => hk.2) (.slice Ao36 t310.length co36)) (fun _ hk => hk.2) (.slice Ao37 t313.length co37)) (fun _ h_ => h_.1))))) (Kd.R_lt (by (with_reducible repeat (first|apply rA|apply rN|apply rD));exact (rM (rF (p := ⟨Bo, 2, none⟩) (rF (p := ⟨Bo, 1, none⟩) (rF (p := ⟨Bo, 0, none⟩) (rT By.out Bl.out (by decide)) (fun _ hk => hk.2) (.slice Ao32 t307.length co32)) (fun _ hk => hk.2) (.slice Ao36 t310.length co36)) (fun _ hk => hk.2) (.slice Ao37 t313.length co37)) (fun _ h_ => h_.1))))) (Kd.R_lt (by (with_reducible repeat (first|apply rA|apply rN|apply rD));exact (rM (rF (p := ⟨Bo, 2, none⟩) (rF (p := ⟨Bo, 1, none⟩) (rF (p := ⟨Bo, 0, none⟩) (rT Bz.out Bl.out (by decide)) (fun _ hk => hk.2) (.slice Ao32 t307.length co32)) (fun _ hk => hk.2) (.slice Ao36 t310.length co36)) (fun _ hk => hk.2) (.slice Ao37 t313.length co37)) (fun _ h_ => h_.1))))) (Kd.R_lt (by (with_reducible repeat (first|apply rA|apply rN|apply rD));exact (rM (rF (p := ⟨Bo, 2, none⟩) (rF (p := ⟨Bo, 1, none⟩) (rF (p := ⟨Bo, 0, none⟩) (rT BA.out Bl.out (by decide)) (fun _ hk => hk.2) (.slice Ao32 t307.length co32)) (fun _ hk => hk.2) (.slice Ao36 t310.length co36)) (fun _ hk => hk.2) (.slice Ao37 t313.length co37)) (fun _ h_ => h_.1))))) (Kd.R_lt (by (with_reducible repeat (first|apply rA|apply rN|apply rD));exact (rM (rF (p := ⟨Bo, 2, none⟩) (rF (p := ⟨Bo, 1, none⟩) (rF (p := ⟨Bo, 0, none⟩) (rT BD.out Bl.out (by decide)) (fun _ hk => hk.2) (.slice Ao32 t307.length co32)) (fun _ hk => hk.2) (.slice Ao36 t310.length co36)) (fun _ hk => hk.2) (.slice Ao37 t313.length co37)) (fun _ h_ => h_.1))))) (Kd.R_lt (by (with_reducible repeat (first|apply rA|apply rN|apply rD));exact (rM (rF (p := ⟨Bo, 2, none⟩) (rF (p := ⟨Bo, 1, none⟩) (rF (p := ⟨Bo, 0, none⟩) (rT BE.out Bl.out (by decide)) (fun _ hk => hk.2) (.slice Ao32 t307.length co32)) (fun _ hk => hk.2) (.slice Ao36 t310.length co36)) (fun _ hk => hk.2) (.slice Ao37 t313.length co37)) (fun _ h_ => h_.1))))) (bZ (by repeat (first|(with_reducible first|exact HB.out|apply oA|apply pN|apply o1|refine bS ?_ Bs.out|refine bS ?_ Bu.out|refine bS ?_ Bv.out)|exact HB.out))));have n10_ := Am (Kd.R_lower (Kd.R_new' (Kd.R_new' (Kd.R_new' (Kd.R_new' (Kd.R_new' (Kd.R_new' ho1 (Kd.R_lt (by (with_reducible repeat (first|apply rA|apply rN|apply rD));exact (rM (rF (p := ⟨Bo, 2, none⟩) (rF (p := ⟨Bo, 1, none⟩) (rF (p := ⟨Bo, 0, none⟩) (rT Bx.out Bl.out (by decide)) (fun _ hk => hk.2) (.slice Ao32 t307.length co32)) (fun _ hk => hk.2) (.slice Ao36 t310.length co36)) (fun _ hk => hk.2) (.slice Ao37 t313.length co37)) (fun _ h_ => h_.1))))) (Kd.R_lt (by (with_reducible repeat (first|apply rA|apply rN|apply rD));exact (rM (rF (p := ⟨Bo, 2, none⟩) (rF (p := ⟨Bo, 1, none⟩) (rF (p := ⟨Bo, 0, none⟩) (rT By.out Bl.out (by decide)) (fun _ hk => hk.2) (.slice Ao32 t307.length co32)) (fun _ hk => hk.2) (.slice Ao36 t310.length co36)) (fun _ hk => hk.2) (.slice Ao37 t313.length co37)) (fun _ h_ => h_.1))))) (Kd.R_lt (by (with_reducible repeat (first|apply rA|apply rN|apply rD));exact (rM (rF (p := ⟨Bo, 2, none⟩) (rF (p := ⟨Bo, 1, none⟩) (rF (p := ⟨Bo, 0, none⟩) (rT Bz.out Bl.out (by decide)) (fun _ hk => hk.2) (.slice Ao32 t307.length co32)) (fun _ hk => hk.2) (.slice Ao36 t310.length co36)) (fun _ hk => hk.2) (.slice Ao37 t313.length co37)) (fun _ h_ => h_.1))))) (Kd.R_lt (by (with_reducible repeat (first|apply rA|apply rN|apply rD));exact (rM (rF (p := ⟨Bo, 2, none⟩) (rF (p := ⟨Bo, 1, none⟩) (rF (p := ⟨Bo, 0, none⟩) (rT BA.out Bl.out (by decide)) (fun _ hk => hk.2) (.slice Ao32 t307.length co32)) (fun _ hk => hk.2) (.slice Ao36 t310.length co36)) (fun _ hk => hk.2) (.slice Ao37 t313.length co37)) (fun _ h_ => h_.1))))) (Kd.R_lt (by (with_reducible repeat (first|apply rA|apply rN|apply rD));exact (rM (rF (p := ⟨Bo, 2, none⟩) (rF (p := ⟨Bo, 1, none⟩) (rF (p := ⟨Bo, 0, none⟩) (rT BD.out Bl.out (by decide)) (fun _ hk => hk.2) (.slice Ao32 t307.length co32)) (fun _ hk => hk.2) (.slice Ao36 t310.length co36)) (fun _ hk => hk.2) (.slice Ao37 t313.length co37)) (fun _ h_ => h_.1))))) (Kd.R_lt (by (with_reducible repeat (first|apply rA|apply rN|apply rD));exact (rM (rF (p := ⟨Bo, 2, none⟩) (rF (p := ⟨Bo, 1, none⟩) (rF (p := ⟨Bo, 0, none⟩) (rT BE.out Bl.out (by decide)) (fun _ hk => hk.2) (.slice Ao32 t307.length co32)) (fun _ hk => hk.2) (.slice Ao36 t310.length co36)) (fun _ hk => hk.2) (.slice Ao37 t313.length co37)) (fun _ h_ => h_.1))))) (bZ (by repeat (first|(with_reducible first|exact HB.out|apply oA|apply pN|apply o1|refine bS ?_ Bs.out|refine bS ?_ Bu.out|refine bS ?_ Bv.out)|exact HB.out))));have n11_ := Am (Kd.R_lower (Kd.R_new' (Kd.R_new' (Kd.R_new' ho2 (Kd.R_lt (by (with_reducible repeat (first|apply rA|apply rN|apply rD));exact (rM (rF (p := ⟨Bo, 2, none⟩) (rF (p := ⟨Bo, 1, none⟩) (rF (p := ⟨Bo, 0, none⟩) (rT BB.out Bl.out (by decide)) (fun _ hk => hk.2) (.slice Ao32 t307.length co32)) (fun _ hk => hk.2) (.slice Ao36 t310.length co36)) (fun _ hk => hk.2) (.slice Ao37 t313.length co37)) (fun _ h_ => h_.1))))) (Kd.R_lt (by (with_reducible repeat (first|apply rA|apply rN|apply rD));exact (rM (rF (p := ⟨Bo, 2, none⟩) (rF (p := ⟨Bo, 1, none⟩) (rF (p := ⟨Bo, 0, none⟩) (rT BC.out Bl.out (by decide)) (fun _ hk => hk.2) (.slice Ao32 t307.length co32)) (fun _ hk => hk.2) (.slice Ao36 t310.length co36)) (fun _ hk => hk.2) (.slice Ao37 t313.length co37)) (fun _ h_ => h_.1))))) (Kd.R_lt (by (with_reducible repeat (first|apply rA|apply rN|apply rD));exact (rM (rF (p := ⟨Bo, 2, none⟩) (rF (p := ⟨Bo, 1, none⟩) (rF (p := ⟨Bo, 0, none⟩) (rT BF.out Bl.out (by decide)) (fun _ hk => hk.2) (.slice Ao32 t307.length co32)) (fun _ hk => hk.2) (.slice Ao36 t310.length co36)) (fun _ hk => hk.2) (.slice Ao37 t313.length co37)) (fun _ h_ => h_.1))))) (bZ (by repeat (first|(with_reducible first|exact HB.out|apply oA|apply pN|apply o1|refine bS ?_ Bs.out|refine bS ?_ Bu.out|refine bS ?_ Bv.out)|exact HB.out))));have n12_ := Am (bB (g := Bt) (o := .cells #[.slice A0_0 l0_0.length c0_0, .slice A0_1 l0_1.length c0_1, .slice A0_2 l0_2.length c0_2] 25 (0, 0)) (by (with_reducible repeat (first|refine bN ?_ _|refine bD ?_|refine bA ?_ _|refine blk_far ?_ B9.out _));exact Bg.out) hb);have n13_ := Am (bB (g := Bq) (o := .cells #[.slice Ao24 t296.length co24, .slice Ao27 t299.length co27, .slice Ao28 t302.length co28] 27 (0, 0)) (by (with_reducible repeat (first|refine bN ?_ _|refine bD ?_|refine bA ?_ _|refine blk_far ?_ BJ.out _));exact Bd.out) hb);have n14_ := Am (bB (g := Bo) (o := .cells #[.slice Ao32 t307.length co32, .slice Ao36 t310.length co36, .slice Ao37 t313.length co37] 27 (0, 0)) (by (with_reducible repeat (first|refine bN ?_ _|refine bD ?_|refine bA ?_ _));refine blk_put (cs := #[.slice Ao32 t307.length co32, .slice Ao36 t310.length co36, .slice none 0 0]) ?_ 2 _ rfl;(with_reducible repeat (first|refine bN ?_ _|refine bD ?_|refine bA ?_ _));refine blk_put (cs := #[.slice Ao32 t307.length co32, .slice none 0 0, .slice none 0 0]) ?_ 1 _ rfl;(with_reducible repeat (first|refine bN ?_ _|refine bD ?_|refine bA ?_ _));refine blk_put (cs := #[.slice none 0 0, .slice none 0 0, .slice none 0 0]) ?_ 0 _ rfl;(with_reducible repeat (first|refine bN ?_ _|refine bD ?_|refine bA ?_ _));exact Bl.out) hb);have n15_ := Am (bP (by repeat (first|(with_reducible first|exact HB.out|apply oA|apply pN|apply o1|refine bS ?_ Bs.out|refine bS ?_ Bu.out|refine bS ?_ Bv.out)|exact HB.out)) hb);clear Bx By BB Bz BA BC BD BE BF Bg Bd Bl HB;revert n0_ n1_ n2_ n3_ n4_ n5_ n6_ n7_ n8_ n9_ n10_ n11_ n12_ n13_ n14_ n15_;intro Bx By BB Bz BA BC BD BE BF BO BP BQ Bg Bd Bl HB;(try clear hb);(try clear hb2);(try clear hk);(try clear hi);(try clear ho0);(try clear ho1);(try clear ho2))|((with_reducible refine gate_dst (N := 11) rfl ?_);refine box_event ?hg (N := 11) ?hd (cs := #[.slice none 0 0, .slice none 0 0, .slice none 0 0]) (t := 27) ?hr ?_;(case hd => rfl);(case hg => rfl);(case hr => first|(go_simp;done)|(go_simp;rfl));intro Ba hg w39 hbox hb;have n0_ := Am (rB (rL Bx.out) hb);have n1_ := Am (rB (rL By.out) hb);have n2_ := Am (rB (rL BB.out) hb);have n3_ := Am (rB (rL Bz.out) hb);have n4_ := Am (rB (rL BA.out) hb);have n5_ := Am (rB (rL BC.out) hb);have n6_ := Am (rB (rL BD.out) hb);have n7_ := Am (rB (rL BE.out) hb);have n8_ := Am (rB (rL BF.out) hb);have n9_ := Am (rB (rL BO.out) hb);have n10_ := Am (rB (rL BP.out) hb);have n11_ := Am (rB (rL BQ.out) hb);have n12_ := Am (bB (g := Bt) (o := .cells #[.slice A0_0 l0_0.length c0_0, .slice A0_1 l0_1.length c0_1, .slice A0_2 l0_2.length c0_2] 25 (0, 0)) (bL Bg.out) hb);have n13_ := Am (bB (g := Bq) (o := .cells #[.slice Ao24 t296.length co24, .slice Ao27 t299.length co27, .slice Ao28 t302.length co28] 27 (0, 0)) (bL Bd.out) hb);have n14_ := Am (bB (g := Bo) (o := .cells #[.slice Ao32 t307.length co32, .slice Ao36 t310.length co36, .slice Ao37 t313.length co37] 27 (0, 0)) (bL Bl.out) hb);have n15_ := Am (bP (by repeat (first|(with_reducible first|exact HB.out|apply oA|apply pN|apply o1|refine bS ?_ Bs.out|refine bS ?_ Bu.out|refine bS ?_ Bv.out)|exact HB.out)) hb);have n16_ := Am (hbox);have n17_ := Am ((by rw [hg];exact (bZ (by repeat (first|(with_reducible first|exact HB.out|apply oA|apply pN|apply o1|refine bS ?_ Bs.out|refine bS ?_ Bu.out|refine bS ?_ Bv.out)|exact HB.out))) : w.heap.size ≤ Ba));have n18_ := Am ((by rw [hg];exact (bZ (by repeat (first|(with_reducible first|exact HB.out|apply oA|apply pN|apply o1|refine bS ?_ Bs.out|refine bS ?_ Bu.out|refine bS ?_ Bv.out)|exact HB.out))) : w.heap.size ≤ Ba));have n19_ := Am ((by rw [hg];exact Nat.ne_of_lt (blk_lt (g := Bt) (o := .cells #[.slice A0_0 l0_0.length c0_0, .slice A0_1 l0_1.length c0_1, .slice A0_2 l0_2.length c0_2] 25 (0, 0)) (bL Bg.out)) : Bt ≠ Ba));have n20_ := Am ((by rw [hg];exact Nat.ne_of_gt (blk_lt (g := Bt) (o := .cells #[.slice A0_0 l0_0.length c0_0, .slice A0_1 l0_1.length c0_1, .slice A0_2 l0_2.length c0_2] 25 (0, 0)) (bL Bg.out)) : Ba ≠ Bt));have n21_ := Am ((by rw [hg];exact Nat.ne_of_lt (blk_lt (g := Bq) (o := .cells #[.slice Ao24 t296.length co24, .slice Ao27 t299.length co27, .slice Ao28 t302.length co28] 27 (0, 0)) (bL Bd.out)) : Bq ≠ Ba));have n22_ := Am ((by rw [hg];exact Nat.ne_of_gt (blk_lt (g := Bq) (o := .cells #[.slice Ao24 t296.length co24, .slice Ao27 t299.length co27, .slice Ao28 t302.length co28] 27 (0, 0)) (bL Bd.out)) : Ba ≠ Bq));have n23_ := Am ((by rw [hg];exact Nat.ne_of_lt (blk_lt (g := Bo) (o := .cells #[.slice Ao32 t307.length co32, .slice Ao36 t310.length co36, .slice Ao37 t313.length co37] 27 (0, 0)) (bL Bl.out)) : Bo ≠ Ba));have n24_ := Am ((by rw [hg];exact Nat.ne_of_gt (blk_lt (g := Bo) (o := .cells #[.slice Ao32 t307.length co32, .slice Ao36 t310.length co36, .slice Ao37 t313.length co37] 27 (0, 0)) (bL Bl.out)) : Ba ≠ Bo));clear Bx By BB Bz BA BC BD BE BF BO BP BQ Bg Bd Bl HB;revert n0_ n1_ n2_ n3_ n4_ n5_ n6_ n7_ n8_ n9_ n10_ n11_ n12_ n13_ n14_ n15_ n16_ n17_ n18_ n19_ n20_ n21_ n22_ n23_ n24_;intro Bx By BB Bz BA BC BD BE BF BO BP BQ Bg Bd Bl HB Bb JK Bw BK B1 BG BL BH BX;clear hb hbox hg;obtain ⟨Ao40, co40, eo40⟩ := Kd.R_slice BO.out;subst eo40;have JL := B1.out;have JM := BK.out;have JN := BL.out;have JO := BG.out;have JP := BX.out;have JQ := BH.out;have DK : w39.cell? ⟨Ba, 0, none⟩ = some (.slice none 0 0) := (bC Bb.out 0).trans rfl;have DL : w39.cell? ⟨Ba, 1, none⟩ = some (.slice none 0 0) := (bC Bb.out 1).trans rfl;have DM : w39.cell? ⟨Ba, 2, none⟩ = some (.slice none 0 0) := (bC Bb.out 2).trans rfl;have DN := bF Bb.out 0;have DO := bF Bb.out 1;have DP := bF Bb.out 2;obtain ⟨Ao45, co45, eo45⟩ := Kd.R_slice BP.out;subst eo45;obtain ⟨Ao46, co46, eo46⟩ := Kd.R_slice BQ.out;subst eo46))
 (try simp only [Act.put, lA, lZ, lS])
 go_cut [48] (fun v48 wc => ∃ (kq : Nat) (x48_12 : Bool), v48 = .bool x48_12 ∧ Aside0 (laws_FnExactSigsSet.j0 kq a1 a2 t305 t326 x48_12 l0_0 l0_1 l0_2 t296 t299 t302 t307 t310 t313 t317 t320 t323 = some r) ∧ Aside0 (kq ≤ k) ∧ Aside0 (Kd.R Kd.bool 4 wc w.heap.size (fun k_ => some k_ ≠ ((.slice Ao27 t299.length co27) : Value).ownBlock ∧ some k_ ≠ ((.slice Ao32 t307.length co32) : Value).ownBlock ∧ some k_ ≠ ((.slice Ao36 t310.length co36) : Value).ownBlock ∧ some k_ ≠ ((.slice Ao40 t317.length co40) : Value).ownBlock ∧ some k_ ≠ ((.slice Ao45 t320.length co45) : Value).ownBlock) (.slice Ao24 t296.length co24) t296) ∧ Aside0 (Kd.R Kd.bool 4 wc w.heap.size (fun k_ => some k_ ≠ ((.slice Ao24 t296.length co24) : Value).ownBlock ∧ some k_ ≠ ((.slice Ao32 t307.length co32) : Value).ownBlock ∧ some k_ ≠ ((.slice Ao36 t310.length co36) : Value).ownBlock ∧ some k_ ≠ ((.slice Ao40 t317.length co40) : Value).ownBlock ∧ some k_ ≠ ((.slice Ao45 t320.length co45) : Value).ownBlock) (.slice Ao27 t299.length co27) t299) ∧ Aside0 (Kd.R (Kd.int .i64) 3 wc w.heap.size (fun k_ => some k_ ≠ ((.slice Ao37 t313.length co37) : Value).ownBlock ∧ some k_ ≠ ((.slice Ao46 t323.length co46) : Value).ownBlock) (.slice Ao28 t302.length co28) t302) ∧ Aside0 (Kd.R Kd.bool 4 wc w.heap.size (fun k_ => some k_ ≠ ((.slice Ao24 t296.length co24) : Value).ownBlock ∧ some k_ ≠ ((.slice Ao27 t299.length co27) : Value).ownBlock ∧ some k_ ≠ ((.slice Ao36 t310.length co36) : Value).ownBlock ∧ some k_ ≠ ((.slice Ao40 t317.length co40) : Value).ownBlock ∧ some k_ ≠ ((.slice Ao45 t320.length co45) : Value).ownBlock) (.slice Ao32 t307.length co32) t307) ∧ Aside0 (Kd.R Kd.bool 4 wc w.heap.size (fun k_ => some k_ ≠ ((.slice Ao24 t296.length co24) : Value).ownBlock ∧ some k_ ≠ ((.slice Ao27 t299.length co27) : Value).ownBlock ∧ some k_ ≠ ((.slice Ao32 t307.length co32) : Value).ownBlock ∧ some k_ ≠ ((.slice Ao40 t317.length co40) : Value).ownBlock ∧ some k_ ≠ ((.slice Ao45 t320.length co45) : Value).ownBlock) (.slice Ao36 t310.length co36) t310) ∧ Aside0 (Kd.R (Kd.int .i64) 3 wc w.heap.size (fun k_ => some k_ ≠ ((.slice Ao28 t302.length co28) : Value).ownBlock ∧ some k_ ≠ ((.slice Ao46 t323.length co46) : Value).ownBlock) (.slice Ao37 t313.length co37) t313) ∧ Aside0 (Kd.R Kd.bool 4 wc w.heap.size (fun k_ => some k_ ≠ ((.slice Ao24 t296.length co24) : Value).ownBlock ∧ some k_ ≠ ((.slice Ao27 t299.length co27) : Value).ownBlock ∧ some k_ ≠ ((.slice Ao32 t307.length co32) : Value).ownBlock ∧ some k_ ≠ ((.slice Ao36 t310.length co36) : Value).ownBlock ∧ some k_ ≠ ((.slice Ao45 t320.length co45) : Value).ownBlock) (.slice Ao40 t317.length co40) t317) ∧ Aside0 (Kd.R Kd.bool 4 wc w.heap.size (fun k_ => some k_ ≠ ((.slice Ao24 t296.length co24) : Value).ownBlock ∧ some k_ ≠ ((.slice Ao27 t299.length co27) : Value).ownBlock ∧ some k_ ≠ ((.slice Ao32 t307.length co32) : Value).ownBlock ∧ some k_ ≠ ((.slice Ao36 t310.length co36) : Value).ownBlock ∧ some k_ ≠ ((.slice Ao40 t317.length co40) : Value).ownBlock) (.slice Ao45 t320.length co45) t320) ∧ Aside0 (Kd.R (Kd.int .i64) 3 wc w.heap.size (fun k_ => some k_ ≠ ((.slice Ao28 t302.length co28) : Value).ownBlock ∧ some k_ ≠ ((.slice Ao37 t313.length co37) : Value).ownBlock) (.slice Ao46 t323.length co46) t323) ∧ Aside0 (wc.heap[Bt]? = some (.cells #[(.slice A0_0 l0_0.length c0_0), (.slice A0_1 l0_1.length c0_1), (.slice A0_2 l0_2.length c0_2)] 25 (0, 0))) ∧ Aside0 (wc.heap[Bq]? = some (.cells #[(.slice Ao24 t296.length co24), (.slice Ao27 t299.length co27), (.slice Ao28 t302.length co28)] 27 (0, 0))) ∧ Aside0 (wc.heap[Bo]? = some (.cells #[(.slice Ao32 t307.length co32), (.slice Ao36 t310.length co36), (.slice Ao37 t313.length co37)] 27 (0, 0))) ∧ Aside0 (wc.heap[Ba]? = some (.cells #[(.slice Ao40 t317.length co40), (.slice Ao45 t320.length co45), (.slice Ao46 t323.length co46)] 27 (0, 0))) ∧ Aside0 (Below w.heap.size w wc))
 case first =>
  have H := HC13.out
  clear HC13
  replace H := Option.bind_eq_some_iff.mp H
  obtain ⟨t328, A470, H⟩ := H
  replace H : (if t328 = true then (laws_FnExactSigsSet.j0 k a1 a2 t305 t326 (t326 != t305) l0_0 l0_1 l0_2 t296 t299 t302 t307 t310 t313 t317 t320 t323) else (laws_FnExactSigsSet.j0 k a1 a2 t305 t326 true l0_0 l0_1 l0_2 t296 t299 t302 t307 t310 t313 t317 t320 t323)) = some r := H
  have A47 := Am A470
  clear A470
  by_cases c48 : t328 = true
  ·subst c48
   have H1 : (laws_FnExactSigsSet.j0 k a1 a2 t305 t326 (t326 != t305) l0_0 l0_1 l0_2 t296 t299 t302 t307 t310 t313 t317 t320 t323) = some r := by rw [if_pos rfl] at H;exact H
   clear H
   have H := H1
   clear H1
   have H' := Am H
   clear H
   have JR := B1.out
   have JS := BK.out
   have JT := BL.out
   have JU := BG.out
   have JV := BX.out
   have JW := BH.out
   have DQ : w39.cell? ⟨Ba, 0, none⟩ = some (.slice none 0 0) := (bC Bb.out 0).trans rfl
   have DR : w39.cell? ⟨Ba, 1, none⟩ = some (.slice none 0 0) := (bC Bb.out 1).trans rfl
   have DS : w39.cell? ⟨Ba, 2, none⟩ = some (.slice none 0 0) := (bC Bb.out 2).trans rfl
   have DT := bF Bb.out 0
   have DU := bF Bb.out 1
   have DV := bF Bb.out 2
   have JX := BV.out
   have JY := BI.out
   have JZ := BJ.out
   have J0 := BW.out
   have DW : w39.cell? ⟨Bq, 0, none⟩ = some (.slice Ao24 t296.length co24) := (bC Bd.out 0).trans rfl
   have DX : w39.cell? ⟨Bq, 1, none⟩ = some (.slice Ao27 t299.length co27) := (bC Bd.out 1).trans rfl
   have DY : w39.cell? ⟨Bq, 2, none⟩ = some (.slice Ao28 t302.length co28) := (bC Bd.out 2).trans rfl
   have DZ := bF Bd.out 0
   have D0 := bF Bd.out 1
   have D1 := bF Bd.out 2
   go_wp2_with (first|((with_reducible refine gate_callee (f := 17) rfl ?_);refine goesL_ (some 42) rfl rfl Try.func17 (by kernel_rfl) rfl #[.agg #[.slice Ao40 t317.length co40, .slice Ao45 t320.length co45, .slice Ao46 t323.length co46], .agg #[.slice Ao24 t296.length co24, .slice Ao27 t299.length co27, .slice Ao28 t302.length co28]] rfl (by (try simp only [lM, lC, lN]);first|done|rfl|(simp only [lD, lT];rfl)) ?_;(with_reducible refine (laws_eqSigs.calls k _ _ t317 _ _ t320 _ _ t323 _ _ t296 _ _ t299 _ _ t302 true _ ?side1 ?side2 ?side3 ?side4 ?side5 ?side6 ?side7 ?side8 ?side9 ?side10 ?side11 ?side12 A47.out).mono ?_);(case side1 => refine (Kd.R_reads' (e := 4) (base := w.heap.size) (ok := fun k_ => ((((((some k_ ≠ (.slice Ao45 t320.length co45 : Value).ownBlock ∧ some k_ ≠ (.slice Ao19 t287.length co19 : Value).ownBlock) ∧ some k_ ≠ (.slice Ao20 t290.length co20 : Value).ownBlock) ∧ some k_ ≠ (.slice Ao24 t296.length co24 : Value).ownBlock) ∧ some k_ ≠ (.slice Ao27 t299.length co27 : Value).ownBlock) ∧ some k_ ≠ (.slice Ao32 t307.length co32 : Value).ownBlock) ∧ some k_ ≠ (.slice Ao36 t310.length co36 : Value).ownBlock)) (n := t317.length) (c := co40) ?_).2.2;exact (by (with_reducible repeat (first|apply rA|apply rN|apply rD));exact (rM (rF (p := ⟨Ba, 2, none⟩) (rF (p := ⟨Ba, 1, none⟩) (rF (p := ⟨Ba, 0, none⟩) (rT BO.out Bb.out (by decide)) (fun _ hk => hk.2) (.slice Ao40 t317.length co40)) (fun _ hk => hk.2) (.slice Ao45 t320.length co45)) (fun _ hk => hk.2) (.slice Ao46 t323.length co46)) (fun _ h_ => h_.1))));(case side2 => exact (Kd.R_reads' BO.out).2.1);(case side3 => refine (Kd.R_reads' (e := 4) (base := w.heap.size) (ok := fun k_ => ((((((some k_ ≠ (.slice Ao40 t317.length co40 : Value).ownBlock ∧ some k_ ≠ (.slice Ao19 t287.length co19 : Value).ownBlock) ∧ some k_ ≠ (.slice Ao20 t290.length co20 : Value).ownBlock) ∧ some k_ ≠ (.slice Ao24 t296.length co24 : Value).ownBlock) ∧ some k_ ≠ (.slice Ao27 t299.length co27 : Value).ownBlock) ∧ some k_ ≠ (.slice Ao32 t307.length co32 : Value).ownBlock) ∧ some k_ ≠ (.slice Ao36 t310.length co36 : Value).ownBlock)) (n := t320.length) (c := co45) ?_).2.2;exact (by (with_reducible repeat (first|apply rA|apply rN|apply rD));exact (rM (rF (p := ⟨Ba, 2, none⟩) (rF (p := ⟨Ba, 1, none⟩) (rF (p := ⟨Ba, 0, none⟩) (rT BP.out Bb.out (by decide)) (fun _ hk => hk.2) (.slice Ao40 t317.length co40)) (fun _ hk => hk.2) (.slice Ao45 t320.length co45)) (fun _ hk => hk.2) (.slice Ao46 t323.length co46)) (fun _ h_ => h_.1))));(case side4 => exact (Kd.R_reads' BP.out).2.1);(case side5 => refine (Kd.R_reads' (e := 3) (base := w.heap.size) (ok := fun k_ => (((True ∧ some k_ ≠ (.slice Ao21 t293.length co21 : Value).ownBlock) ∧ some k_ ≠ (.slice Ao28 t302.length co28 : Value).ownBlock) ∧ some k_ ≠ (.slice Ao37 t313.length co37 : Value).ownBlock)) (n := t323.length) (c := co46) ?_).2.2;exact (by (with_reducible repeat (first|apply rA|apply rN|apply rD));exact (rM (rF (p := ⟨Ba, 2, none⟩) (rF (p := ⟨Ba, 1, none⟩) (rF (p := ⟨Ba, 0, none⟩) (rT BQ.out Bb.out (by decide)) (fun _ hk => hk.2) (.slice Ao40 t317.length co40)) (fun _ hk => hk.2) (.slice Ao45 t320.length co45)) (fun _ hk => hk.2) (.slice Ao46 t323.length co46)) (fun _ h_ => h_.1))));(case side6 => exact (Kd.R_reads' BQ.out).2.1);(case side7 => refine (Kd.R_reads' (e := 4) (base := w.heap.size) (ok := fun k_ => ((((((some k_ ≠ (.slice Ao27 t299.length co27 : Value).ownBlock ∧ some k_ ≠ (.slice Ao19 t287.length co19 : Value).ownBlock) ∧ some k_ ≠ (.slice Ao20 t290.length co20 : Value).ownBlock) ∧ some k_ ≠ (.slice Ao32 t307.length co32 : Value).ownBlock) ∧ some k_ ≠ (.slice Ao36 t310.length co36 : Value).ownBlock) ∧ some k_ ≠ (.slice Ao40 t317.length co40 : Value).ownBlock) ∧ some k_ ≠ (.slice Ao45 t320.length co45 : Value).ownBlock)) (n := t296.length) (c := co24) ?_).2.2;exact (by (with_reducible repeat (first|apply rA|apply rN|apply rD));exact (rM (rF (p := ⟨Ba, 2, none⟩) (rF (p := ⟨Ba, 1, none⟩) (rF (p := ⟨Ba, 0, none⟩) (rT Bz.out Bb.out (by decide)) (fun _ hk => hk.2) (.slice Ao40 t317.length co40)) (fun _ hk => hk.2) (.slice Ao45 t320.length co45)) (fun _ hk => hk.2) (.slice Ao46 t323.length co46)) (fun _ h_ => h_.1))));(case side8 => exact (Kd.R_reads' Bz.out).2.1);(case side9 => refine (Kd.R_reads' (e := 4) (base := w.heap.size) (ok := fun k_ => ((((((some k_ ≠ (.slice Ao24 t296.length co24 : Value).ownBlock ∧ some k_ ≠ (.slice Ao19 t287.length co19 : Value).ownBlock) ∧ some k_ ≠ (.slice Ao20 t290.length co20 : Value).ownBlock) ∧ some k_ ≠ (.slice Ao32 t307.length co32 : Value).ownBlock) ∧ some k_ ≠ (.slice Ao36 t310.length co36 : Value).ownBlock) ∧ some k_ ≠ (.slice Ao40 t317.length co40 : Value).ownBlock) ∧ some k_ ≠ (.slice Ao45 t320.length co45 : Value).ownBlock)) (n := t299.length) (c := co27) ?_).2.2;exact (by (with_reducible repeat (first|apply rA|apply rN|apply rD));exact (rM (rF (p := ⟨Ba, 2, none⟩) (rF (p := ⟨Ba, 1, none⟩) (rF (p := ⟨Ba, 0, none⟩) (rT BA.out Bb.out (by decide)) (fun _ hk => hk.2) (.slice Ao40 t317.length co40)) (fun _ hk => hk.2) (.slice Ao45 t320.length co45)) (fun _ hk => hk.2) (.slice Ao46 t323.length co46)) (fun _ h_ => h_.1))));(case side10 => exact (Kd.R_reads' BA.out).2.1);(case side11 => refine (Kd.R_reads' (e := 3) (base := w.heap.size) (ok := fun k_ => (((True ∧ some k_ ≠ (.slice Ao21 t293.length co21 : Value).ownBlock) ∧ some k_ ≠ (.slice Ao37 t313.length co37 : Value).ownBlock) ∧ some k_ ≠ (.slice Ao46 t323.length co46 : Value).ownBlock)) (n := t302.length) (c := co28) ?_).2.2;exact (by (with_reducible repeat (first|apply rA|apply rN|apply rD));exact (rM (rF (p := ⟨Ba, 2, none⟩) (rF (p := ⟨Ba, 1, none⟩) (rF (p := ⟨Ba, 0, none⟩) (rT BC.out Bb.out (by decide)) (fun _ hk => hk.2) (.slice Ao40 t317.length co40)) (fun _ hk => hk.2) (.slice Ao45 t320.length co45)) (fun _ hk => hk.2) (.slice Ao46 t323.length co46)) (fun _ h_ => h_.1))));(case side12 => exact (Kd.R_reads' BC.out).2.1);rintro e w56 ⟨rfl, hb⟩;refine ⟨_, rfl, ?_⟩;have n0_ := Am (rB (by (with_reducible repeat (first|apply rA|apply rN|apply rD));exact (rM (rF (p := ⟨Ba, 2, none⟩) (rF (p := ⟨Ba, 1, none⟩) (rF (p := ⟨Ba, 0, none⟩) (rT Bx.out Bb.out (by decide)) (fun _ hk => hk.2) (.slice Ao40 t317.length co40)) (fun _ hk => hk.2) (.slice Ao45 t320.length co45)) (fun _ hk => hk.2) (.slice Ao46 t323.length co46)) (fun _ h_ => h_.1))) hb);have n1_ := Am (rB (by (with_reducible repeat (first|apply rA|apply rN|apply rD));exact (rM (rF (p := ⟨Ba, 2, none⟩) (rF (p := ⟨Ba, 1, none⟩) (rF (p := ⟨Ba, 0, none⟩) (rT By.out Bb.out (by decide)) (fun _ hk => hk.2) (.slice Ao40 t317.length co40)) (fun _ hk => hk.2) (.slice Ao45 t320.length co45)) (fun _ hk => hk.2) (.slice Ao46 t323.length co46)) (fun _ h_ => h_.1))) hb);have n2_ := Am (rB (by (with_reducible repeat (first|apply rA|apply rN|apply rD));exact (rM (rF (p := ⟨Ba, 2, none⟩) (rF (p := ⟨Ba, 1, none⟩) (rF (p := ⟨Ba, 0, none⟩) (rT BB.out Bb.out (by decide)) (fun _ hk => hk.2) (.slice Ao40 t317.length co40)) (fun _ hk => hk.2) (.slice Ao45 t320.length co45)) (fun _ hk => hk.2) (.slice Ao46 t323.length co46)) (fun _ h_ => h_.1))) hb);have n3_ := Am (rB (by (with_reducible repeat (first|apply rA|apply rN|apply rD));exact (rM (rF (p := ⟨Ba, 2, none⟩) (rF (p := ⟨Ba, 1, none⟩) (rF (p := ⟨Ba, 0, none⟩) (rT Bz.out Bb.out (by decide)) (fun _ hk => hk.2) (.slice Ao40 t317.length co40)) (fun _ hk => hk.2) (.slice Ao45 t320.length co45)) (fun _ hk => hk.2) (.slice Ao46 t323.length co46)) (fun _ h_ => h_.1))) hb);have n4_ := Am (rB (by (with_reducible repeat (first|apply rA|apply rN|apply rD));exact (rM (rF (p := ⟨Ba, 2, none⟩) (rF (p := ⟨Ba, 1, none⟩) (rF (p := ⟨Ba, 0, none⟩) (rT BA.out Bb.out (by decide)) (fun _ hk => hk.2) (.slice Ao40 t317.length co40)) (fun _ hk => hk.2) (.slice Ao45 t320.length co45)) (fun _ hk => hk.2) (.slice Ao46 t323.length co46)) (fun _ h_ => h_.1))) hb);have n5_ := Am (rB (by (with_reducible repeat (first|apply rA|apply rN|apply rD));exact (rM (rF (p := ⟨Ba, 2, none⟩) (rF (p := ⟨Ba, 1, none⟩) (rF (p := ⟨Ba, 0, none⟩) (rT BC.out Bb.out (by decide)) (fun _ hk => hk.2) (.slice Ao40 t317.length co40)) (fun _ hk => hk.2) (.slice Ao45 t320.length co45)) (fun _ hk => hk.2) (.slice Ao46 t323.length co46)) (fun _ h_ => h_.1))) hb);have n6_ := Am (rB (by (with_reducible repeat (first|apply rA|apply rN|apply rD));exact (rM (rF (p := ⟨Ba, 2, none⟩) (rF (p := ⟨Ba, 1, none⟩) (rF (p := ⟨Ba, 0, none⟩) (rT BD.out Bb.out (by decide)) (fun _ hk => hk.2) (.slice Ao40 t317.length co40)) (fun _ hk => hk.2) (.slice Ao45 t320.length co45)) (fun _ hk => hk.2) (.slice Ao46 t323.length co46)) (fun _ h_ => h_.1))) hb);have n7_ := Am (rB (by (with_reducible repeat (first|apply rA|apply rN|apply rD));exact (rM (rF (p := ⟨Ba, 2, none⟩) (rF (p := ⟨Ba, 1, none⟩) (rF (p := ⟨Ba, 0, none⟩) (rT BE.out Bb.out (by decide)) (fun _ hk => hk.2) (.slice Ao40 t317.length co40)) (fun _ hk => hk.2) (.slice Ao45 t320.length co45)) (fun _ hk => hk.2) (.slice Ao46 t323.length co46)) (fun _ h_ => h_.1))) hb);have n8_ := Am (rB (by (with_reducible repeat (first|apply rA|apply rN|apply rD));exact (rM (rF (p := ⟨Ba, 2, none⟩) (rF (p := ⟨Ba, 1, none⟩) (rF (p := ⟨Ba, 0, none⟩) (rT BF.out Bb.out (by decide)) (fun _ hk => hk.2) (.slice Ao40 t317.length co40)) (fun _ hk => hk.2) (.slice Ao45 t320.length co45)) (fun _ hk => hk.2) (.slice Ao46 t323.length co46)) (fun _ h_ => h_.1))) hb);have n9_ := Am (rB (by (with_reducible repeat (first|apply rA|apply rN|apply rD));exact (rM (rF (p := ⟨Ba, 2, none⟩) (rF (p := ⟨Ba, 1, none⟩) (rF (p := ⟨Ba, 0, none⟩) (rT BO.out Bb.out (by decide)) (fun _ hk => hk.2) (.slice Ao40 t317.length co40)) (fun _ hk => hk.2) (.slice Ao45 t320.length co45)) (fun _ hk => hk.2) (.slice Ao46 t323.length co46)) (fun _ h_ => h_.1))) hb);have n10_ := Am (rB (by (with_reducible repeat (first|apply rA|apply rN|apply rD));exact (rM (rF (p := ⟨Ba, 2, none⟩) (rF (p := ⟨Ba, 1, none⟩) (rF (p := ⟨Ba, 0, none⟩) (rT BP.out Bb.out (by decide)) (fun _ hk => hk.2) (.slice Ao40 t317.length co40)) (fun _ hk => hk.2) (.slice Ao45 t320.length co45)) (fun _ hk => hk.2) (.slice Ao46 t323.length co46)) (fun _ h_ => h_.1))) hb);have n11_ := Am (rB (by (with_reducible repeat (first|apply rA|apply rN|apply rD));exact (rM (rF (p := ⟨Ba, 2, none⟩) (rF (p := ⟨Ba, 1, none⟩) (rF (p := ⟨Ba, 0, none⟩) (rT BQ.out Bb.out (by decide)) (fun _ hk => hk.2) (.slice Ao40 t317.length co40)) (fun _ hk => hk.2) (.slice Ao45 t320.length co45)) (fun _ hk => hk.2) (.slice Ao46 t323.length co46)) (fun _ h_ => h_.1))) hb);have n12_ := Am (bB (g := Bt) (o := .cells #[.slice A0_0 l0_0.length c0_0, .slice A0_1 l0_1.length c0_1, .slice A0_2 l0_2.length c0_2] 25 (0, 0)) (by (with_reducible repeat (first|refine bN ?_ _|refine bD ?_|refine bA ?_ _|refine blk_far ?_ BK.out _));exact Bg.out) hb);have n13_ := Am (bB (g := Bq) (o := .cells #[.slice Ao24 t296.length co24, .slice Ao27 t299.length co27, .slice Ao28 t302.length co28] 27 (0, 0)) (by (with_reducible repeat (first|refine bN ?_ _|refine bD ?_|refine bA ?_ _|refine blk_far ?_ BG.out _));exact Bd.out) hb);have n14_ := Am (bB (g := Bo) (o := .cells #[.slice Ao32 t307.length co32, .slice Ao36 t310.length co36, .slice Ao37 t313.length co37] 27 (0, 0)) (by (with_reducible repeat (first|refine bN ?_ _|refine bD ?_|refine bA ?_ _|refine blk_far ?_ BH.out _));exact Bl.out) hb);have n15_ := Am (bB (g := Ba) (o := .cells #[.slice Ao40 t317.length co40, .slice Ao45 t320.length co45, .slice Ao46 t323.length co46] 27 (0, 0)) (by (with_reducible repeat (first|refine bN ?_ _|refine bD ?_|refine bA ?_ _));refine blk_put (cs := #[.slice Ao40 t317.length co40, .slice Ao45 t320.length co45, .slice none 0 0]) ?_ 2 _ rfl;(with_reducible repeat (first|refine bN ?_ _|refine bD ?_|refine bA ?_ _));refine blk_put (cs := #[.slice Ao40 t317.length co40, .slice none 0 0, .slice none 0 0]) ?_ 1 _ rfl;(with_reducible repeat (first|refine bN ?_ _|refine bD ?_|refine bA ?_ _));refine blk_put (cs := #[.slice none 0 0, .slice none 0 0, .slice none 0 0]) ?_ 0 _ rfl;(with_reducible repeat (first|refine bN ?_ _|refine bD ?_|refine bA ?_ _));exact Bb.out) hb);have n16_ := Am (bP (by repeat (first|(with_reducible first|exact HB.out|apply oA|apply pN|apply o1|refine bS ?_ Bs.out|refine bS ?_ Bu.out|refine bS ?_ Bv.out|refine bS ?_ Bw.out)|exact HB.out)) hb);clear Bx By BB Bz BA BC BD BE BF BO BP BQ Bg Bd Bl Bb HB;revert n0_ n1_ n2_ n3_ n4_ n5_ n6_ n7_ n8_ n9_ n10_ n11_ n12_ n13_ n14_ n15_ n16_;intro Bx By BB Bz BA BC BD BE BF BO BP BQ Bg Bd Bl Bb HB;(try clear hb);(try clear hb2);(try clear hk);(try clear hi)))
   go_meet
   case rel => exact ⟨_, ((t326 != t305)), (by first|rfl|(simp;done)|(simp [*];done)), H', ⟨by first|omega|exact Nat.le_refl _⟩, ⟨by (with_reducible repeat (first|apply rA|apply rN|apply rD));exact rM Bz.out (fun _ hk => ⟨hk.1.1.1.1.1.1, ⟨hk.1.1.1.2, ⟨hk.1.1.2, ⟨hk.1.2, hk.2⟩⟩⟩⟩)⟩, ⟨by (with_reducible repeat (first|apply rA|apply rN|apply rD));exact rM BA.out (fun _ hk => ⟨hk.1.1.1.1.1.1, ⟨hk.1.1.1.2, ⟨hk.1.1.2, ⟨hk.1.2, hk.2⟩⟩⟩⟩)⟩, ⟨by (with_reducible repeat (first|apply rA|apply rN|apply rD));exact rM BC.out (fun _ hk => ⟨hk.1.2, hk.2⟩)⟩, ⟨by (with_reducible repeat (first|apply rA|apply rN|apply rD));exact rM BD.out (fun _ hk => ⟨hk.1.1.1.2, ⟨hk.1.1.2, ⟨hk.1.1.1.1.1.1, ⟨hk.1.2, hk.2⟩⟩⟩⟩)⟩, ⟨by (with_reducible repeat (first|apply rA|apply rN|apply rD));exact rM BE.out (fun _ hk => ⟨hk.1.1.1.2, ⟨hk.1.1.2, ⟨hk.1.1.1.1.1.1, ⟨hk.1.2, hk.2⟩⟩⟩⟩)⟩, ⟨by (with_reducible repeat (first|apply rA|apply rN|apply rD));exact rM BF.out (fun _ hk => ⟨hk.1.2, hk.2⟩)⟩, ⟨by (with_reducible repeat (first|apply rA|apply rN|apply rD));exact rM BO.out (fun _ hk => ⟨hk.1.1.1.2, ⟨hk.1.1.2, ⟨hk.1.2, ⟨hk.2, hk.1.1.1.1.1.1⟩⟩⟩⟩)⟩, ⟨by (with_reducible repeat (first|apply rA|apply rN|apply rD));exact rM BP.out (fun _ hk => ⟨hk.1.1.1.2, ⟨hk.1.1.2, ⟨hk.1.2, ⟨hk.2, hk.1.1.1.1.1.1⟩⟩⟩⟩)⟩, ⟨by (with_reducible repeat (first|apply rA|apply rN|apply rD));exact rM BQ.out (fun _ hk => ⟨hk.1.2, hk.2⟩)⟩, ⟨by (with_reducible repeat (first|refine bN ?_ _|refine bD ?_|refine bA ?_ _));exact Bg.out⟩, ⟨by (with_reducible repeat (first|refine bN ?_ _|refine bD ?_|refine bA ?_ _));exact Bd.out⟩, ⟨by (with_reducible repeat (first|refine bN ?_ _|refine bD ?_|refine bA ?_ _));exact Bl.out⟩, ⟨by (with_reducible repeat (first|refine bN ?_ _|refine bD ?_|refine bA ?_ _));exact Bb.out⟩, ⟨by repeat (first|(with_reducible first|exact HB.out|apply oA|apply pN|apply o1|refine bS ?_ Bs.out|refine bS ?_ Bu.out|refine bS ?_ Bv.out|refine bS ?_ Bw.out)|exact HB.out)⟩⟩
  replace c48 := Bool.eq_false_iff.mpr c48
  subst c48
  have H1 : (laws_FnExactSigsSet.j0 k a1 a2 t305 t326 true l0_0 l0_1 l0_2 t296 t299 t302 t307 t310 t313 t317 t320 t323) = some r := by rw [if_neg (show ¬ (false = true) by decide)] at H;exact H
  clear H
  have H := H1
  clear H1
  have H' := Am H
  clear H
  have J1 := B1.out
  have J2 := BK.out
  have J3 := BL.out
  have J4 := BG.out
  have J5 := BX.out
  have J6 := BH.out
  have D2 : w39.cell? ⟨Ba, 0, none⟩ = some (.slice none 0 0) := (bC Bb.out 0).trans rfl
  have D3 : w39.cell? ⟨Ba, 1, none⟩ = some (.slice none 0 0) := (bC Bb.out 1).trans rfl
  have D4 : w39.cell? ⟨Ba, 2, none⟩ = some (.slice none 0 0) := (bC Bb.out 2).trans rfl
  have D5 := bF Bb.out 0
  have D6 := bF Bb.out 1
  have D7 := bF Bb.out 2
  have J7 := BV.out
  have J8 := BI.out
  have J9 := BJ.out
  have Ma := BW.out
  have D8 : w39.cell? ⟨Bq, 0, none⟩ = some (.slice Ao24 t296.length co24) := (bC Bd.out 0).trans rfl
  have D9 : w39.cell? ⟨Bq, 1, none⟩ = some (.slice Ao27 t299.length co27) := (bC Bd.out 1).trans rfl
  have Fa : w39.cell? ⟨Bq, 2, none⟩ = some (.slice Ao28 t302.length co28) := (bC Bd.out 2).trans rfl
  have Fb := bF Bd.out 0
  have Fc := bF Bd.out 1
  have Fd := bF Bd.out 2
  go_wp2_with (first|((with_reducible refine gate_callee (f := 17) rfl ?_);refine goesL_ (some 42) rfl rfl Try.func17 (by kernel_rfl) rfl #[.agg #[.slice Ao40 t317.length co40, .slice Ao45 t320.length co45, .slice Ao46 t323.length co46], .agg #[.slice Ao24 t296.length co24, .slice Ao27 t299.length co27, .slice Ao28 t302.length co28]] rfl (by (try simp only [lM, lC, lN]);first|done|rfl|(simp only [lD, lT];rfl)) ?_;(with_reducible refine (laws_eqSigs.calls k _ _ t317 _ _ t320 _ _ t323 _ _ t296 _ _ t299 _ _ t302 false _ ?side1 ?side2 ?side3 ?side4 ?side5 ?side6 ?side7 ?side8 ?side9 ?side10 ?side11 ?side12 A47.out).mono ?_);(case side1 => refine (Kd.R_reads' (e := 4) (base := w.heap.size) (ok := fun k_ => ((((((some k_ ≠ (.slice Ao45 t320.length co45 : Value).ownBlock ∧ some k_ ≠ (.slice Ao19 t287.length co19 : Value).ownBlock) ∧ some k_ ≠ (.slice Ao20 t290.length co20 : Value).ownBlock) ∧ some k_ ≠ (.slice Ao24 t296.length co24 : Value).ownBlock) ∧ some k_ ≠ (.slice Ao27 t299.length co27 : Value).ownBlock) ∧ some k_ ≠ (.slice Ao32 t307.length co32 : Value).ownBlock) ∧ some k_ ≠ (.slice Ao36 t310.length co36 : Value).ownBlock)) (n := t317.length) (c := co40) ?_).2.2;exact (by (with_reducible repeat (first|apply rA|apply rN|apply rD));exact (rM (rF (p := ⟨Ba, 2, none⟩) (rF (p := ⟨Ba, 1, none⟩) (rF (p := ⟨Ba, 0, none⟩) (rT BO.out Bb.out (by decide)) (fun _ hk => hk.2) (.slice Ao40 t317.length co40)) (fun _ hk => hk.2) (.slice Ao45 t320.length co45)) (fun _ hk => hk.2) (.slice Ao46 t323.length co46)) (fun _ h_ => h_.1))));(case side2 => exact (Kd.R_reads' BO.out).2.1);(case side3 => refine (Kd.R_reads' (e := 4) (base := w.heap.size) (ok := fun k_ => ((((((some k_ ≠ (.slice Ao40 t317.length co40 : Value).ownBlock ∧ some k_ ≠ (.slice Ao19 t287.length co19 : Value).ownBlock) ∧ some k_ ≠ (.slice Ao20 t290.length co20 : Value).ownBlock) ∧ some k_ ≠ (.slice Ao24 t296.length co24 : Value).ownBlock) ∧ some k_ ≠ (.slice Ao27 t299.length co27 : Value).ownBlock) ∧ some k_ ≠ (.slice Ao32 t307.length co32 : Value).ownBlock) ∧ some k_ ≠ (.slice Ao36 t310.length co36 : Value).ownBlock)) (n := t320.length) (c := co45) ?_).2.2;exact (by (with_reducible repeat (first|apply rA|apply rN|apply rD));exact (rM (rF (p := ⟨Ba, 2, none⟩) (rF (p := ⟨Ba, 1, none⟩) (rF (p := ⟨Ba, 0, none⟩) (rT BP.out Bb.out (by decide)) (fun _ hk => hk.2) (.slice Ao40 t317.length co40)) (fun _ hk => hk.2) (.slice Ao45 t320.length co45)) (fun _ hk => hk.2) (.slice Ao46 t323.length co46)) (fun _ h_ => h_.1))));(case side4 => exact (Kd.R_reads' BP.out).2.1);(case side5 => refine (Kd.R_reads' (e := 3) (base := w.heap.size) (ok := fun k_ => (((True ∧ some k_ ≠ (.slice Ao21 t293.length co21 : Value).ownBlock) ∧ some k_ ≠ (.slice Ao28 t302.length co28 : Value).ownBlock) ∧ some k_ ≠ (.slice Ao37 t313.length co37 : Value).ownBlock)) (n := t323.length) (c := co46) ?_).2.2;exact (by (with_reducible repeat (first|apply rA|apply rN|apply rD));exact (rM (rF (p := ⟨Ba, 2, none⟩) (rF (p := ⟨Ba, 1, none⟩) (rF (p := ⟨Ba, 0, none⟩) (rT BQ.out Bb.out (by decide)) (fun _ hk => hk.2) (.slice Ao40 t317.length co40)) (fun _ hk => hk.2) (.slice Ao45 t320.length co45)) (fun _ hk => hk.2) (.slice Ao46 t323.length co46)) (fun _ h_ => h_.1))));(case side6 => exact (Kd.R_reads' BQ.out).2.1);(case side7 => refine (Kd.R_reads' (e := 4) (base := w.heap.size) (ok := fun k_ => ((((((some k_ ≠ (.slice Ao27 t299.length co27 : Value).ownBlock ∧ some k_ ≠ (.slice Ao19 t287.length co19 : Value).ownBlock) ∧ some k_ ≠ (.slice Ao20 t290.length co20 : Value).ownBlock) ∧ some k_ ≠ (.slice Ao32 t307.length co32 : Value).ownBlock) ∧ some k_ ≠ (.slice Ao36 t310.length co36 : Value).ownBlock) ∧ some k_ ≠ (.slice Ao40 t317.length co40 : Value).ownBlock) ∧ some k_ ≠ (.slice Ao45 t320.length co45 : Value).ownBlock)) (n := t296.length) (c := co24) ?_).2.2;exact (by (with_reducible repeat (first|apply rA|apply rN|apply rD));exact (rM (rF (p := ⟨Ba, 2, none⟩) (rF (p := ⟨Ba, 1, none⟩) (rF (p := ⟨Ba, 0, none⟩) (rT Bz.out Bb.out (by decide)) (fun _ hk => hk.2) (.slice Ao40 t317.length co40)) (fun _ hk => hk.2) (.slice Ao45 t320.length co45)) (fun _ hk => hk.2) (.slice Ao46 t323.length co46)) (fun _ h_ => h_.1))));(case side8 => exact (Kd.R_reads' Bz.out).2.1);(case side9 => refine (Kd.R_reads' (e := 4) (base := w.heap.size) (ok := fun k_ => ((((((some k_ ≠ (.slice Ao24 t296.length co24 : Value).ownBlock ∧ some k_ ≠ (.slice Ao19 t287.length co19 : Value).ownBlock) ∧ some k_ ≠ (.slice Ao20 t290.length co20 : Value).ownBlock) ∧ some k_ ≠ (.slice Ao32 t307.length co32 : Value).ownBlock) ∧ some k_ ≠ (.slice Ao36 t310.length co36 : Value).ownBlock) ∧ some k_ ≠ (.slice Ao40 t317.length co40 : Value).ownBlock) ∧ some k_ ≠ (.slice Ao45 t320.length co45 : Value).ownBlock)) (n := t299.length) (c := co27) ?_).2.2;exact (by (with_reducible repeat (first|apply rA|apply rN|apply rD));exact (rM (rF (p := ⟨Ba, 2, none⟩) (rF (p := ⟨Ba, 1, none⟩) (rF (p := ⟨Ba, 0, none⟩) (rT BA.out Bb.out (by decide)) (fun _ hk => hk.2) (.slice Ao40 t317.length co40)) (fun _ hk => hk.2) (.slice Ao45 t320.length co45)) (fun _ hk => hk.2) (.slice Ao46 t323.length co46)) (fun _ h_ => h_.1))));(case side10 => exact (Kd.R_reads' BA.out).2.1);(case side11 => refine (Kd.R_reads' (e := 3) (base := w.heap.size) (ok := fun k_ => (((True ∧ some k_ ≠ (.slice Ao21 t293.length co21 : Value).ownBlock) ∧ some k_ ≠ (.slice Ao37 t313.length co37 : Value).ownBlock) ∧ some k_ ≠ (.slice Ao46 t323.length co46 : Value).ownBlock)) (n := t302.length) (c := co28) ?_).2.2;exact (by (with_reducible repeat (first|apply rA|apply rN|apply rD));exact (rM (rF (p := ⟨Ba, 2, none⟩) (rF (p := ⟨Ba, 1, none⟩) (rF (p := ⟨Ba, 0, none⟩) (rT BC.out Bb.out (by decide)) (fun _ hk => hk.2) (.slice Ao40 t317.length co40)) (fun _ hk => hk.2) (.slice Ao45 t320.length co45)) (fun _ hk => hk.2) (.slice Ao46 t323.length co46)) (fun _ h_ => h_.1))));(case side12 => exact (Kd.R_reads' BC.out).2.1);rintro e w64 ⟨rfl, hb⟩;refine ⟨_, rfl, ?_⟩;have n0_ := Am (rB (by (with_reducible repeat (first|apply rA|apply rN|apply rD));exact (rM (rF (p := ⟨Ba, 2, none⟩) (rF (p := ⟨Ba, 1, none⟩) (rF (p := ⟨Ba, 0, none⟩) (rT Bx.out Bb.out (by decide)) (fun _ hk => hk.2) (.slice Ao40 t317.length co40)) (fun _ hk => hk.2) (.slice Ao45 t320.length co45)) (fun _ hk => hk.2) (.slice Ao46 t323.length co46)) (fun _ h_ => h_.1))) hb);have n1_ := Am (rB (by (with_reducible repeat (first|apply rA|apply rN|apply rD));exact (rM (rF (p := ⟨Ba, 2, none⟩) (rF (p := ⟨Ba, 1, none⟩) (rF (p := ⟨Ba, 0, none⟩) (rT By.out Bb.out (by decide)) (fun _ hk => hk.2) (.slice Ao40 t317.length co40)) (fun _ hk => hk.2) (.slice Ao45 t320.length co45)) (fun _ hk => hk.2) (.slice Ao46 t323.length co46)) (fun _ h_ => h_.1))) hb);have n2_ := Am (rB (by (with_reducible repeat (first|apply rA|apply rN|apply rD));exact (rM (rF (p := ⟨Ba, 2, none⟩) (rF (p := ⟨Ba, 1, none⟩) (rF (p := ⟨Ba, 0, none⟩) (rT BB.out Bb.out (by decide)) (fun _ hk => hk.2) (.slice Ao40 t317.length co40)) (fun _ hk => hk.2) (.slice Ao45 t320.length co45)) (fun _ hk => hk.2) (.slice Ao46 t323.length co46)) (fun _ h_ => h_.1))) hb);have n3_ := Am (rB (by (with_reducible repeat (first|apply rA|apply rN|apply rD));exact (rM (rF (p := ⟨Ba, 2, none⟩) (rF (p := ⟨Ba, 1, none⟩) (rF (p := ⟨Ba, 0, none⟩) (rT Bz.out Bb.out (by decide)) (fun _ hk => hk.2) (.slice Ao40 t317.length co40)) (fun _ hk => hk.2) (.slice Ao45 t320.length co45)) (fun _ hk => hk.2) (.slice Ao46 t323.length co46)) (fun _ h_ => h_.1))) hb);have n4_ := Am (rB (by (with_reducible repeat (first|apply rA|apply rN|apply rD));exact (rM (rF (p := ⟨Ba, 2, none⟩) (rF (p := ⟨Ba, 1, none⟩) (rF (p := ⟨Ba, 0, none⟩) (rT BA.out Bb.out (by decide)) (fun _ hk => hk.2) (.slice Ao40 t317.length co40)) (fun _ hk => hk.2) (.slice Ao45 t320.length co45)) (fun _ hk => hk.2) (.slice Ao46 t323.length co46)) (fun _ h_ => h_.1))) hb);have n5_ := Am (rB (by (with_reducible repeat (first|apply rA|apply rN|apply rD));exact (rM (rF (p := ⟨Ba, 2, none⟩) (rF (p := ⟨Ba, 1, none⟩) (rF (p := ⟨Ba, 0, none⟩) (rT BC.out Bb.out (by decide)) (fun _ hk => hk.2) (.slice Ao40 t317.length co40)) (fun _ hk => hk.2) (.slice Ao45 t320.length co45)) (fun _ hk => hk.2) (.slice Ao46 t323.length co46)) (fun _ h_ => h_.1))) hb);have n6_ := Am (rB (by (with_reducible repeat (first|apply rA|apply rN|apply rD));exact (rM (rF (p := ⟨Ba, 2, none⟩) (rF (p := ⟨Ba, 1, none⟩) (rF (p := ⟨Ba, 0, none⟩) (rT BD.out Bb.out (by decide)) (fun _ hk => hk.2) (.slice Ao40 t317.length co40)) (fun _ hk => hk.2) (.slice Ao45 t320.length co45)) (fun _ hk => hk.2) (.slice Ao46 t323.length co46)) (fun _ h_ => h_.1))) hb);have n7_ := Am (rB (by (with_reducible repeat (first|apply rA|apply rN|apply rD));exact (rM (rF (p := ⟨Ba, 2, none⟩) (rF (p := ⟨Ba, 1, none⟩) (rF (p := ⟨Ba, 0, none⟩) (rT BE.out Bb.out (by decide)) (fun _ hk => hk.2) (.slice Ao40 t317.length co40)) (fun _ hk => hk.2) (.slice Ao45 t320.length co45)) (fun _ hk => hk.2) (.slice Ao46 t323.length co46)) (fun _ h_ => h_.1))) hb);have n8_ := Am (rB (by (with_reducible repeat (first|apply rA|apply rN|apply rD));exact (rM (rF (p := ⟨Ba, 2, none⟩) (rF (p := ⟨Ba, 1, none⟩) (rF (p := ⟨Ba, 0, none⟩) (rT BF.out Bb.out (by decide)) (fun _ hk => hk.2) (.slice Ao40 t317.length co40)) (fun _ hk => hk.2) (.slice Ao45 t320.length co45)) (fun _ hk => hk.2) (.slice Ao46 t323.length co46)) (fun _ h_ => h_.1))) hb);have n9_ := Am (rB (by (with_reducible repeat (first|apply rA|apply rN|apply rD));exact (rM (rF (p := ⟨Ba, 2, none⟩) (rF (p := ⟨Ba, 1, none⟩) (rF (p := ⟨Ba, 0, none⟩) (rT BO.out Bb.out (by decide)) (fun _ hk => hk.2) (.slice Ao40 t317.length co40)) (fun _ hk => hk.2) (.slice Ao45 t320.length co45)) (fun _ hk => hk.2) (.slice Ao46 t323.length co46)) (fun _ h_ => h_.1))) hb);have n10_ := Am (rB (by (with_reducible repeat (first|apply rA|apply rN|apply rD));exact (rM (rF (p := ⟨Ba, 2, none⟩) (rF (p := ⟨Ba, 1, none⟩) (rF (p := ⟨Ba, 0, none⟩) (rT BP.out Bb.out (by decide)) (fun _ hk => hk.2) (.slice Ao40 t317.length co40)) (fun _ hk => hk.2) (.slice Ao45 t320.length co45)) (fun _ hk => hk.2) (.slice Ao46 t323.length co46)) (fun _ h_ => h_.1))) hb);have n11_ := Am (rB (by (with_reducible repeat (first|apply rA|apply rN|apply rD));exact (rM (rF (p := ⟨Ba, 2, none⟩) (rF (p := ⟨Ba, 1, none⟩) (rF (p := ⟨Ba, 0, none⟩) (rT BQ.out Bb.out (by decide)) (fun _ hk => hk.2) (.slice Ao40 t317.length co40)) (fun _ hk => hk.2) (.slice Ao45 t320.length co45)) (fun _ hk => hk.2) (.slice Ao46 t323.length co46)) (fun _ h_ => h_.1))) hb);have n12_ := Am (bB (g := Bt) (o := .cells #[.slice A0_0 l0_0.length c0_0, .slice A0_1 l0_1.length c0_1, .slice A0_2 l0_2.length c0_2] 25 (0, 0)) (by (with_reducible repeat (first|refine bN ?_ _|refine bD ?_|refine bA ?_ _|refine blk_far ?_ BK.out _));exact Bg.out) hb);have n13_ := Am (bB (g := Bq) (o := .cells #[.slice Ao24 t296.length co24, .slice Ao27 t299.length co27, .slice Ao28 t302.length co28] 27 (0, 0)) (by (with_reducible repeat (first|refine bN ?_ _|refine bD ?_|refine bA ?_ _|refine blk_far ?_ BG.out _));exact Bd.out) hb);have n14_ := Am (bB (g := Bo) (o := .cells #[.slice Ao32 t307.length co32, .slice Ao36 t310.length co36, .slice Ao37 t313.length co37] 27 (0, 0)) (by (with_reducible repeat (first|refine bN ?_ _|refine bD ?_|refine bA ?_ _|refine blk_far ?_ BH.out _));exact Bl.out) hb);have n15_ := Am (bB (g := Ba) (o := .cells #[.slice Ao40 t317.length co40, .slice Ao45 t320.length co45, .slice Ao46 t323.length co46] 27 (0, 0)) (by (with_reducible repeat (first|refine bN ?_ _|refine bD ?_|refine bA ?_ _));refine blk_put (cs := #[.slice Ao40 t317.length co40, .slice Ao45 t320.length co45, .slice none 0 0]) ?_ 2 _ rfl;(with_reducible repeat (first|refine bN ?_ _|refine bD ?_|refine bA ?_ _));refine blk_put (cs := #[.slice Ao40 t317.length co40, .slice none 0 0, .slice none 0 0]) ?_ 1 _ rfl;(with_reducible repeat (first|refine bN ?_ _|refine bD ?_|refine bA ?_ _));refine blk_put (cs := #[.slice none 0 0, .slice none 0 0, .slice none 0 0]) ?_ 0 _ rfl;(with_reducible repeat (first|refine bN ?_ _|refine bD ?_|refine bA ?_ _));exact Bb.out) hb);have n16_ := Am (bP (by repeat (first|(with_reducible first|exact HB.out|apply oA|apply pN|apply o1|refine bS ?_ Bs.out|refine bS ?_ Bu.out|refine bS ?_ Bv.out|refine bS ?_ Bw.out)|exact HB.out)) hb);clear Bx By BB Bz BA BC BD BE BF BO BP BQ Bg Bd Bl Bb HB;revert n0_ n1_ n2_ n3_ n4_ n5_ n6_ n7_ n8_ n9_ n10_ n11_ n12_ n13_ n14_ n15_ n16_;intro Bx By BB Bz BA BC BD BE BF BO BP BQ Bg Bd Bl Bb HB;(try clear hb);(try clear hb2);(try clear hk);(try clear hi)))
  go_meet
  case rel => exact ⟨_, (true), (by first|rfl|(simp;done)|(simp [*];done)), H', ⟨by first|omega|exact Nat.le_refl _⟩, ⟨by (with_reducible repeat (first|apply rA|apply rN|apply rD));exact rM Bz.out (fun _ hk => ⟨hk.1.1.1.1.1.1, ⟨hk.1.1.1.2, ⟨hk.1.1.2, ⟨hk.1.2, hk.2⟩⟩⟩⟩)⟩, ⟨by (with_reducible repeat (first|apply rA|apply rN|apply rD));exact rM BA.out (fun _ hk => ⟨hk.1.1.1.1.1.1, ⟨hk.1.1.1.2, ⟨hk.1.1.2, ⟨hk.1.2, hk.2⟩⟩⟩⟩)⟩, ⟨by (with_reducible repeat (first|apply rA|apply rN|apply rD));exact rM BC.out (fun _ hk => ⟨hk.1.2, hk.2⟩)⟩, ⟨by (with_reducible repeat (first|apply rA|apply rN|apply rD));exact rM BD.out (fun _ hk => ⟨hk.1.1.1.2, ⟨hk.1.1.2, ⟨hk.1.1.1.1.1.1, ⟨hk.1.2, hk.2⟩⟩⟩⟩)⟩, ⟨by (with_reducible repeat (first|apply rA|apply rN|apply rD));exact rM BE.out (fun _ hk => ⟨hk.1.1.1.2, ⟨hk.1.1.2, ⟨hk.1.1.1.1.1.1, ⟨hk.1.2, hk.2⟩⟩⟩⟩)⟩, ⟨by (with_reducible repeat (first|apply rA|apply rN|apply rD));exact rM BF.out (fun _ hk => ⟨hk.1.2, hk.2⟩)⟩, ⟨by (with_reducible repeat (first|apply rA|apply rN|apply rD));exact rM BO.out (fun _ hk => ⟨hk.1.1.1.2, ⟨hk.1.1.2, ⟨hk.1.2, ⟨hk.2, hk.1.1.1.1.1.1⟩⟩⟩⟩)⟩, ⟨by (with_reducible repeat (first|apply rA|apply rN|apply rD));exact rM BP.out (fun _ hk => ⟨hk.1.1.1.2, ⟨hk.1.1.2, ⟨hk.1.2, ⟨hk.2, hk.1.1.1.1.1.1⟩⟩⟩⟩)⟩, ⟨by (with_reducible repeat (first|apply rA|apply rN|apply rD));exact rM BQ.out (fun _ hk => ⟨hk.1.2, hk.2⟩)⟩, ⟨by (with_reducible repeat (first|refine bN ?_ _|refine bD ?_|refine bA ?_ _));exact Bg.out⟩, ⟨by (with_reducible repeat (first|refine bN ?_ _|refine bD ?_|refine bA ?_ _));exact Bd.out⟩, ⟨by (with_reducible repeat (first|refine bN ?_ _|refine bD ?_|refine bA ?_ _));exact Bl.out⟩, ⟨by (with_reducible repeat (first|refine bN ?_ _|refine bD ?_|refine bA ?_ _));exact Bb.out⟩, ⟨by repeat (first|(with_reducible first|exact HB.out|apply oA|apply pN|apply o1|refine bS ?_ Bs.out|refine bS ?_ Bu.out|refine bS ?_ Bv.out|refine bS ?_ Bw.out)|exact HB.out)⟩⟩
 case rest =>
  clear HC13
  try clear c1
  try clear c2
  try clear p2
  try clear c3
  try clear c4
  try clear c5
  try clear c5b0
  try clear c6
  try clear c13
  try clear c15
  try clear c17
  try clear c25
  try clear c26
  try clear c33
  try clear c34
  try clear c41
  try clear c42
  try clear c43
  try clear c48
  try clear c49
  try clear c50
  try clear c51
  try clear c53
  try clear c54
  try clear c57
  try clear c58
  try clear c59
  try clear c61
  try clear c62
  try clear Dg
  try clear Dh
  try clear Di
  try clear Dm
  try clear Dn
  try clear Do
  try clear Ds
  try clear Dt
  try clear Du
  try clear Dy
  try clear Dz
  try clear DA
  try clear DE
  try clear DF
  try clear DG
  try clear DK
  try clear DL
  try clear DM
  try clear DQ
  try clear DR
  try clear DS
  try clear DW
  try clear DX
  try clear DY
  try clear D2
  try clear D3
  try clear D4
  try clear D8
  try clear D9
  try clear Fa
  try clear Fe
  try clear Ff
  try clear Fg
  try clear Dj
  try clear Dk
  try clear Dl
  try clear Dp
  try clear Dq
  try clear Dr
  try clear Dv
  try clear Dw
  try clear Dx
  try clear DB
  try clear DC
  try clear DD
  try clear DH
  try clear DI
  try clear DJ
  try clear DN
  try clear DO
  try clear DP
  try clear DT
  try clear DU
  try clear DV
  try clear DZ
  try clear D0
  try clear D1
  try clear D5
  try clear D6
  try clear D7
  try clear Fb
  try clear Fc
  try clear Fd
  try clear Fh
  try clear Fi
  try clear Fj
  obtain ⟨kq, x48_12, rfl, HA, Fk, Bm, Bn, Bp, Bi, Bj, Bk, Be, Bf, Bh, Bg, Bd, Bl, Bb, HB⟩ := hcut
  cases kq with
 |zero => exact absurd HA.out (by simp [laws_FnExactSigsSet.j0])
 |succ kj12 =>
   have H := HA.out
   clear HA
   simp only [laws_FnExactSigsSet.j0] at H
   by_cases c65 : x48_12 = true
   ·subst c65
    have H1 : (some false) = some r := by rw [if_pos rfl] at H;exact H
    clear H
    have H := H1
    clear H1
    exact absurd ((Option.some.inj H).trans hT_.out) (by decide)
   replace c65 := Bool.eq_false_iff.mpr c65
   subst c65
   have H1 : ((laws_toSigs.f kj12 l0_0 l0_1 l0_2).bind fun bt329 => ((laws_eqSigs.f kj12 t307 t310 t313 bt329.1 bt329.2.1 bt329.2.2).bind fun t338 => (if t338 = true then ((laws_markSigs.f kj12 t307 t310 t313 1).bind fun bt339 => (if bt339.1 < 0 then (laws_FnExactSigsSet.j1 kj12 a1 a2 t305 true l0_0 l0_1 l0_2 t296 t299 t302 t317 t320 t323) else ((laws_eqSigs.f kj12 t317 t320 t323 t296 t299 t302).bind fun t343 => (if t343 = true then (laws_FnExactSigsSet.j1 kj12 a1 a2 t305 (t326 != t305) l0_0 l0_1 l0_2 t296 t299 t302 t317 t320 t323) else (laws_FnExactSigsSet.j1 kj12 a1 a2 t305 true l0_0 l0_1 l0_2 t296 t299 t302 t317 t320 t323))))) else (some false)))) = some r := by rw [if_neg (show ¬ (false = true) by decide)] at H;exact H
   clear H
   have H := H1
   clear H1
   replace H := Option.bind_eq_some_iff.mp H
   obtain ⟨⟨t329, t332, t335⟩, A660, H⟩ := H
   replace H : ((laws_eqSigs.f kj12 t307 t310 t313 t329 t332 t335).bind fun t338 => (if t338 = true then ((laws_markSigs.f kj12 t307 t310 t313 1).bind fun bt339 => (if bt339.1 < 0 then (laws_FnExactSigsSet.j1 kj12 a1 a2 t305 true l0_0 l0_1 l0_2 t296 t299 t302 t317 t320 t323) else ((laws_eqSigs.f kj12 t317 t320 t323 t296 t299 t302).bind fun t343 => (if t343 = true then (laws_FnExactSigsSet.j1 kj12 a1 a2 t305 (t326 != t305) l0_0 l0_1 l0_2 t296 t299 t302 t317 t320 t323) else (laws_FnExactSigsSet.j1 kj12 a1 a2 t305 true l0_0 l0_1 l0_2 t296 t299 t302 t317 t320 t323))))) else (some false))) = some r := H
   have A66 := Am A660
   clear A660
   replace H := Option.bind_eq_some_iff.mp H
   obtain ⟨t338, A670, H⟩ := H
   replace H : (if t338 = true then ((laws_markSigs.f kj12 t307 t310 t313 1).bind fun bt339 => (if bt339.1 < 0 then (laws_FnExactSigsSet.j1 kj12 a1 a2 t305 true l0_0 l0_1 l0_2 t296 t299 t302 t317 t320 t323) else ((laws_eqSigs.f kj12 t317 t320 t323 t296 t299 t302).bind fun t343 => (if t343 = true then (laws_FnExactSigsSet.j1 kj12 a1 a2 t305 (t326 != t305) l0_0 l0_1 l0_2 t296 t299 t302 t317 t320 t323) else (laws_FnExactSigsSet.j1 kj12 a1 a2 t305 true l0_0 l0_1 l0_2 t296 t299 t302 t317 t320 t323))))) else (some false)) = some r := H
   have A67 := Am A670
   clear A670
   by_cases c68 : t338 = true
   rotate_left
   ·replace c68 := Bool.eq_false_iff.mpr c68
    subst c68
    have H1 : (some false) = some r := by rw [if_neg (show ¬ (false = true) by decide)] at H;exact H
    clear H
    have H := H1
    clear H1
    exact absurd ((Option.some.inj H).trans hT_.out) (by decide)

   subst c68
   have H1 : ((laws_markSigs.f kj12 t307 t310 t313 1).bind fun bt339 => (if bt339.1 < 0 then (laws_FnExactSigsSet.j1 kj12 a1 a2 t305 true l0_0 l0_1 l0_2 t296 t299 t302 t317 t320 t323) else ((laws_eqSigs.f kj12 t317 t320 t323 t296 t299 t302).bind fun t343 => (if t343 = true then (laws_FnExactSigsSet.j1 kj12 a1 a2 t305 (t326 != t305) l0_0 l0_1 l0_2 t296 t299 t302 t317 t320 t323) else (laws_FnExactSigsSet.j1 kj12 a1 a2 t305 true l0_0 l0_1 l0_2 t296 t299 t302 t317 t320 t323))))) = some r := by rw [if_pos rfl] at H;exact H
   clear H
   have H := H1
   clear H1
   replace H := Option.bind_eq_some_iff.mp H
   obtain ⟨⟨t339, t340, t341, t342⟩, A690, H⟩ := H
   replace H : (if t339 < 0 then (laws_FnExactSigsSet.j1 kj12 a1 a2 t305 true l0_0 l0_1 l0_2 t296 t299 t302 t317 t320 t323) else ((laws_eqSigs.f kj12 t317 t320 t323 t296 t299 t302).bind fun t343 => (if t343 = true then (laws_FnExactSigsSet.j1 kj12 a1 a2 t305 (t326 != t305) l0_0 l0_1 l0_2 t296 t299 t302 t317 t320 t323) else (laws_FnExactSigsSet.j1 kj12 a1 a2 t305 true l0_0 l0_1 l0_2 t296 t299 t302 t317 t320 t323)))) = some r := H
   have A69 := Am A690
   clear A690
   have HC70 := Am H
   clear H
   try go_wp2
   have n0_ := Am (rD Bm.out)
   have n1_ := Am (rD Bn.out)
   have n2_ := Am (rD Bp.out)
   have n3_ := Am (rD Bi.out)
   have n4_ := Am (rD Bj.out)
   have n5_ := Am (rD Bk.out)
   have n6_ := Am (rD Be.out)
   have n7_ := Am (rD Bf.out)
   have n8_ := Am (rD Bh.out)
   have n9_ := Am (bD Bg.out)
   have n10_ := Am (bD Bd.out)
   have n11_ := Am (bD Bl.out)
   have n12_ := Am (bD Bb.out)
   have n13_ := Am (o1 HB.out)
   clear Bm
   clear Bn
   clear Bp
   clear Bi
   clear Bj
   clear Bk
   clear Be
   clear Bf
   clear Bh
   clear Bg
   clear Bd
   clear Bl
   clear Bb
   clear HB
   have Bm := n0_
   have Bn := n1_
   have Bp := n2_
   have Bi := n3_
   have Bj := n4_
   have Bk := n5_
   have Be := n6_
   have Bf := n7_
   have Bh := n8_
   have Bg := n9_
   have Bd := n10_
   have Bl := n11_
   have Bb := n12_
   have HB := n13_
   clear n0_ n1_ n2_ n3_ n4_ n5_ n6_ n7_ n8_ n9_ n10_ n11_ n12_ n13_
   refine start_ (n := 5) (S := fun w' => w'.cell? ⟨Bo, 0, none⟩ = some (.slice Ao32 t307.length co32) ∧ w'.cell? ⟨Bo, 1, none⟩ = some (.slice Ao36 t310.length co36) ∧ w'.cell? ⟨Bo, 2, none⟩ = some (.slice Ao37 t313.length co37) ∧ w'.cell? ⟨Bt, 0, none⟩ = some (.slice A0_0 l0_0.length c0_0) ∧ w'.cell? ⟨Bt, 1, none⟩ = some (.slice A0_1 l0_1.length c0_1) ∧ w'.cell? ⟨Bt, 2, none⟩ = some (.slice A0_2 l0_2.length c0_2)) (ds := []) #[false,false,false,false,false] (by kernel_rfl) rfl rfl ⟨(bC Bl.out 0).trans rfl, (bC Bl.out 1).trans rfl, (bC Bl.out 2).trans rfl, (bC Bg.out 0).trans rfl, (bC Bg.out 1).trans rfl, (bC Bg.out 2).trans rfl⟩ (fun hHeld => ?_)
   generalize wc.drew = w71 at Bm Bn Bp Bi Bj Bk Be Bf Bh Bg Bd Bl Bb HB hHeld ⊢
   refine take_ (i := 0) (N := some 49) (v := ?_) (a' := ?_) #[true,false,false,false,false] rfl rfl (by kernel_rfl) (fun _ _ _ h => h) (Or.inl ⟨by rfl, ?_⟩) hHeld ?_ ?_
   rotate_left;(rintro w' ⟨s0, s1, s2, s3, s4, s5⟩;go_simp;with_reducible rfl)
   rotate_left;(simp only [Act.put,lA,lZ,lS,iw,jw];rfl)
   refine take_ (i := 1) (N := some 50) (v := ?_) (a' := ?_) #[true,true,false,false,false] rfl rfl (by kernel_rfl) (fun _ _ _ h => h) (Or.inl ⟨by rfl, ?_⟩) hHeld ?_ ?_
   rotate_left;(rintro w' ⟨s0, s1, s2, s3, s4, s5⟩;go_simp;with_reducible rfl)
   rotate_left;(simp only [Act.put,lA,lZ,lS,iw,jw];rfl)
   refine one_ (i := 2) (N := some 51) #[true,true,true,false,false] rfl rfl (by kernel_rfl) (by decide) (fun K hK => ?_)
   refine goes_ Try.func15 (by kernel_rfl) rfl #[.agg #[.slice A0_0 l0_0.length c0_0, .slice A0_1 l0_1.length c0_1, .slice A0_2 l0_2.length c0_2]] (by rfl) rfl rfl (by (try simp only [lM, lC, lN]);first|done|rfl|(simp only [lD, lT];rfl)) ?_
   with_reducible refine (laws_toSigs.calls kj12 _ _ l0_0 _ _ l0_1 _ _ l0_2 t329 t332 t335 _ ?side1 ?side2 ?side3 ?side4 ?side5 ?side6 A66.out).mono ?_
   (case side1 => repeat (first|exact (cB HR0_0.out HB.out)|(with_reducible refine cA ?_ _)|(with_reducible refine cN ?_ _)|(with_reducible refine cD ?_)))
   (case side2 => exact HC0_0.out)
   (case side3 => repeat (first|exact (cB HR0_1.out HB.out)|(with_reducible refine cA ?_ _)|(with_reducible refine cN ?_ _)|(with_reducible refine cD ?_)))
   (case side4 => exact HC0_1.out)
   (case side5 => repeat (first|exact (cB HR0_2.out HB.out)|(with_reducible refine cA ?_ _)|(with_reducible refine cN ?_ _)|(with_reducible refine cD ?_)))
   (case side6 => exact HC0_2.out)
   rintro e w72 ⟨v330, v333, v336, rfl, ho0, ho1, ho2, hb⟩
   refine ⟨_, rfl, ?_⟩
   have n0_ := Am (rM (Kd.R_told (Kd.R_told (Kd.R_old (rL Bm.out) hb) (Kd.R_base ho0)) (Kd.R_base ho1)) (fun _ h_ => h_.1))
   have n1_ := Am (rM (Kd.R_told (Kd.R_told (Kd.R_old (rL Bn.out) hb) (Kd.R_base ho0)) (Kd.R_base ho1)) (fun _ h_ => h_.1))
   have n2_ := Am (Kd.R_elder' (rL Bp.out) (Kd.R_base ho2) hb)
   have n3_ := Am (rM (Kd.R_told (Kd.R_told (Kd.R_old (rL Bi.out) hb) (Kd.R_base ho0)) (Kd.R_base ho1)) (fun _ h_ => h_.1))
   have n4_ := Am (rM (Kd.R_told (Kd.R_told (Kd.R_old (rL Bj.out) hb) (Kd.R_base ho0)) (Kd.R_base ho1)) (fun _ h_ => h_.1))
   have n5_ := Am (Kd.R_elder' (rL Bk.out) (Kd.R_base ho2) hb)
   have n6_ := Am (rM (Kd.R_told (Kd.R_told (Kd.R_old (rL Be.out) hb) (Kd.R_base ho0)) (Kd.R_base ho1)) (fun _ h_ => h_.1))
   have n7_ := Am (rM (Kd.R_told (Kd.R_told (Kd.R_old (rL Bf.out) hb) (Kd.R_base ho0)) (Kd.R_base ho1)) (fun _ h_ => h_.1))
   have n8_ := Am (Kd.R_elder' (rL Bh.out) (Kd.R_base ho2) hb)
   have n9_ := Am (Kd.R_lower (Kd.R_new' (Kd.R_new' (Kd.R_new' (Kd.R_new' (Kd.R_new' (Kd.R_new' ho0 (Kd.R_lt (rL Bm.out))) (Kd.R_lt (rL Bn.out))) (Kd.R_lt (rL Bi.out))) (Kd.R_lt (rL Bj.out))) (Kd.R_lt (rL Be.out))) (Kd.R_lt (rL Bf.out))) (bZ (by repeat (first|(with_reducible first|exact HB.out|apply oA|apply pN|apply o1|refine bS ?_ Bs.out|refine bS ?_ Bu.out|refine bS ?_ Bv.out|refine bS ?_ Bw.out)|exact HB.out))))
   have n10_ := Am (Kd.R_lower (Kd.R_new' (Kd.R_new' (Kd.R_new' (Kd.R_new' (Kd.R_new' (Kd.R_new' ho1 (Kd.R_lt (rL Bm.out))) (Kd.R_lt (rL Bn.out))) (Kd.R_lt (rL Bi.out))) (Kd.R_lt (rL Bj.out))) (Kd.R_lt (rL Be.out))) (Kd.R_lt (rL Bf.out))) (bZ (by repeat (first|(with_reducible first|exact HB.out|apply oA|apply pN|apply o1|refine bS ?_ Bs.out|refine bS ?_ Bu.out|refine bS ?_ Bv.out|refine bS ?_ Bw.out)|exact HB.out))))
   have n11_ := Am (Kd.R_lower (Kd.R_new' (Kd.R_new' (Kd.R_new' ho2 (Kd.R_lt (rL Bp.out))) (Kd.R_lt (rL Bk.out))) (Kd.R_lt (rL Bh.out))) (bZ (by repeat (first|(with_reducible first|exact HB.out|apply oA|apply pN|apply o1|refine bS ?_ Bs.out|refine bS ?_ Bu.out|refine bS ?_ Bv.out|refine bS ?_ Bw.out)|exact HB.out))))
   have n12_ := Am (bB (g := Bt) (o := .cells #[.slice A0_0 l0_0.length c0_0, .slice A0_1 l0_1.length c0_1, .slice A0_2 l0_2.length c0_2] 25 (0, 0)) (bL Bg.out) hb)
   have n13_ := Am (bB (g := Bq) (o := .cells #[.slice Ao24 t296.length co24, .slice Ao27 t299.length co27, .slice Ao28 t302.length co28] 27 (0, 0)) (bL Bd.out) hb)
   have n14_ := Am (bB (g := Bo) (o := .cells #[.slice Ao32 t307.length co32, .slice Ao36 t310.length co36, .slice Ao37 t313.length co37] 27 (0, 0)) (bL Bl.out) hb)
   have n15_ := Am (bB (g := Ba) (o := .cells #[.slice Ao40 t317.length co40, .slice Ao45 t320.length co45, .slice Ao46 t323.length co46] 27 (0, 0)) (bL Bb.out) hb)
   have n16_ := Am (bP (by repeat (first|(with_reducible first|exact HB.out|apply oA|apply pN|apply o1|refine bS ?_ Bs.out|refine bS ?_ Bu.out|refine bS ?_ Bv.out|refine bS ?_ Bw.out)|exact HB.out)) hb)
   clear Bm
   clear Bn
   clear Bp
   clear Bi
   clear Bj
   clear Bk
   clear Be
   clear Bf
   clear Bh
   clear Bg
   clear Bd
   clear Bl
   clear Bb
   clear HB
   have Bm := n0_
   have Bn := n1_
   have Bp := n2_
   have Bi := n3_
   have Bj := n4_
   have Bk := n5_
   have Be := n6_
   have Bf := n7_
   have Bh := n8_
   have BY := n9_
   have BZ := n10_
   have B0 := n11_
   have Bg := n12_
   have Bd := n13_
   have Bl := n14_
   have Bb := n15_
   have HB := n16_
   clear n0_ n1_ n2_ n3_ n4_ n5_ n6_ n7_ n8_ n9_ n10_ n11_ n12_ n13_ n14_ n15_ n16_
   (try clear hb)
   (try clear hb2)
   (try clear hk)
   (try clear hi)
   (try clear ho0)
   (try clear ho1)
   (try clear ho2)
   obtain ⟨Ao73, co73, eo73⟩ := Kd.R_slice BY.out
   (first|subst eo73|(injection eo73 with f1_ f2_ f3_;have f4_ := f1_.symm;have f5_ := f3_.symm;clear f1_ f2_ f3_;subst f4_;subst f5_))
   obtain ⟨Ao74, co74, eo74⟩ := Kd.R_slice BZ.out
   (first|subst eo74|(injection eo74 with f1_ f2_ f3_;have f4_ := f1_.symm;have f5_ := f3_.symm;clear f1_ f2_ f3_;subst f4_;subst f5_))
   obtain ⟨Ao75, co75, eo75⟩ := Kd.R_slice B0.out
   (first|subst eo75|(injection eo75 with f1_ f2_ f3_;have f4_ := f1_.symm;have f5_ := f3_.symm;clear f1_ f2_ f3_;subst f4_;subst f5_))
   refine hK.out _ _ ⟨(bC Bl.out 0).trans rfl, (bC Bl.out 1).trans rfl, (bC Bl.out 2).trans rfl, (bC Bg.out 0).trans rfl, (bC Bg.out 1).trans rfl, (bC Bg.out 2).trans rfl⟩ (fun hHeld => ?_)
   clear hK K
   refine norm_ (by show Act.put _ (some 51) _ = _;simp only [Act.put,lA,lZ,lS,iw,jw];rfl) ?_
   refine one_ (i := 3) (N := some 52) #[true,true,true,true,false] rfl rfl (by kernel_rfl) (by decide) (fun K hK => ?_)
   refine goes_ Try.func17 (by kernel_rfl) rfl #[.agg #[.slice Ao32 t307.length co32, .slice Ao36 t310.length co36, .slice Ao37 t313.length co37], .agg #[.slice Ao73 t329.length co73, .slice Ao74 t332.length co74, .slice Ao75 t335.length co75]] (by rfl) rfl rfl (by (try simp only [lM, lC, lN]);first|done|rfl|(simp only [lD, lT];rfl)) ?_
   with_reducible refine (laws_eqSigs.calls kj12 _ _ t307 _ _ t310 _ _ t313 _ _ t329 _ _ t332 _ _ t335 true _ ?side1 ?side2 ?side3 ?side4 ?side5 ?side6 ?side7 ?side8 ?side9 ?side10 ?side11 ?side12 A67.out).mono ?_
   (case side1 => repeat (first|exact (Kd.R_reads' Bi.out).2.2|(with_reducible refine cA ?_ _)|(with_reducible refine cN ?_ _)|(with_reducible refine cD ?_)))
   (case side2 => exact (Kd.R_reads' Bi.out).2.1)
   (case side3 => repeat (first|exact (Kd.R_reads' Bj.out).2.2|(with_reducible refine cA ?_ _)|(with_reducible refine cN ?_ _)|(with_reducible refine cD ?_)))
   (case side4 => exact (Kd.R_reads' Bj.out).2.1)
   (case side5 => repeat (first|exact (Kd.R_reads' Bk.out).2.2|(with_reducible refine cA ?_ _)|(with_reducible refine cN ?_ _)|(with_reducible refine cD ?_)))
   (case side6 => exact (Kd.R_reads' Bk.out).2.1)
   (case side7 => repeat (first|exact (Kd.R_reads' BY.out).2.2|(with_reducible refine cA ?_ _)|(with_reducible refine cN ?_ _)|(with_reducible refine cD ?_)))
   (case side8 => exact (Kd.R_reads' BY.out).2.1)
   (case side9 => repeat (first|exact (Kd.R_reads' BZ.out).2.2|(with_reducible refine cA ?_ _)|(with_reducible refine cN ?_ _)|(with_reducible refine cD ?_)))
   (case side10 => exact (Kd.R_reads' BZ.out).2.1)
   (case side11 => repeat (first|exact (Kd.R_reads' B0.out).2.2|(with_reducible refine cA ?_ _)|(with_reducible refine cN ?_ _)|(with_reducible refine cD ?_)))
   (case side12 => exact (Kd.R_reads' B0.out).2.1)
   rintro e w76 ⟨rfl, hb⟩
   refine ⟨_, rfl, ?_⟩
   have n0_ := Am (rB (rL Bm.out) hb)
   have n1_ := Am (rB (rL Bn.out) hb)
   have n2_ := Am (rB (rL Bp.out) hb)
   have n3_ := Am (rB (rL Bi.out) hb)
   have n4_ := Am (rB (rL Bj.out) hb)
   have n5_ := Am (rB (rL Bk.out) hb)
   have n6_ := Am (rB (rL Be.out) hb)
   have n7_ := Am (rB (rL Bf.out) hb)
   have n8_ := Am (rB (rL Bh.out) hb)
   have n9_ := Am (rB (rL BY.out) hb)
   have n10_ := Am (rB (rL BZ.out) hb)
   have n11_ := Am (rB (rL B0.out) hb)
   have n12_ := Am (bB (g := Bt) (o := .cells #[.slice A0_0 l0_0.length c0_0, .slice A0_1 l0_1.length c0_1, .slice A0_2 l0_2.length c0_2] 25 (0, 0)) (bL Bg.out) hb)
   have n13_ := Am (bB (g := Bq) (o := .cells #[.slice Ao24 t296.length co24, .slice Ao27 t299.length co27, .slice Ao28 t302.length co28] 27 (0, 0)) (bL Bd.out) hb)
   have n14_ := Am (bB (g := Bo) (o := .cells #[.slice Ao32 t307.length co32, .slice Ao36 t310.length co36, .slice Ao37 t313.length co37] 27 (0, 0)) (bL Bl.out) hb)
   have n15_ := Am (bB (g := Ba) (o := .cells #[.slice Ao40 t317.length co40, .slice Ao45 t320.length co45, .slice Ao46 t323.length co46] 27 (0, 0)) (bL Bb.out) hb)
   have n16_ := Am (bP (by repeat (first|(with_reducible first|exact HB.out|apply oA|apply pN|apply o1|refine bS ?_ Bs.out|refine bS ?_ Bu.out|refine bS ?_ Bv.out|refine bS ?_ Bw.out)|exact HB.out)) hb)
   clear Bm
   clear Bn
   clear Bp
   clear Bi
   clear Bj
   clear Bk
   clear Be
   clear Bf
   clear Bh
   clear BY
   clear BZ
   clear B0
   clear Bg
   clear Bd
   clear Bl
   clear Bb
   clear HB
   have Bm := n0_
   have Bn := n1_
   have Bp := n2_
   have Bi := n3_
   have Bj := n4_
   have Bk := n5_
   have Be := n6_
   have Bf := n7_
   have Bh := n8_
   have BY := n9_
   have BZ := n10_
   have B0 := n11_
   have Bg := n12_
   have Bd := n13_
   have Bl := n14_
   have Bb := n15_
   have HB := n16_
   clear n0_ n1_ n2_ n3_ n4_ n5_ n6_ n7_ n8_ n9_ n10_ n11_ n12_ n13_ n14_ n15_ n16_
   (try clear hb)
   (try clear hb2)
   (try clear hk)
   (try clear hi)
   refine hK.out _ _ ⟨(bC Bl.out 0).trans rfl, (bC Bl.out 1).trans rfl, (bC Bl.out 2).trans rfl, (bC Bg.out 0).trans rfl, (bC Bg.out 1).trans rfl, (bC Bg.out 2).trans rfl⟩ (fun hHeld => ?_)
   clear hK K
   refine norm_ (by show Act.put _ (some 52) _ = _;simp only [Act.put,lA,lZ,lS,iw,jw];rfl) ?_
   refine pure_ (i := 4) (N := some 53) (v := ?_) (a' := ?_) #[true,true,true,true,true] rfl rfl (by kernel_rfl) (fun _ _ _ h => h) (Or.inl ⟨by rfl, ?_⟩) ?_ ?_
   rotate_left;(intro w';go_simp;with_reducible rfl)
   rotate_left;(simp only [Act.put,lA,lZ,lS,iw,jw];rfl)
   refine done_ (by kernel_rfl) ?_
   have Mb := Db.out
   have Mc := B9.out
   have Md := BW.out
   have Me := BJ.out
   have Mf := BH.out
   have Mg := BX.out
   have Fl : w76.cell? ⟨Bo, 0, none⟩ = some (.slice Ao32 t307.length co32) := (bC Bl.out 0).trans rfl
   have Fm : w76.cell? ⟨Bo, 1, none⟩ = some (.slice Ao36 t310.length co36) := (bC Bl.out 1).trans rfl
   have Fn : w76.cell? ⟨Bo, 2, none⟩ = some (.slice Ao37 t313.length co37) := (bC Bl.out 2).trans rfl
   have Fo := bF Bl.out 0
   have Fp := bF Bl.out 1
   have Fq := bF Bl.out 2
   go_upto_region 14 with (first|((with_reducible refine gate_callee (f := 18) rfl ?_);refine goesL_ (some 56) rfl rfl Try.func18 (by kernel_rfl) rfl #[.agg #[.slice Ao32 t307.length co32, .slice Ao36 t310.length co36, .slice Ao37 t313.length co37], .int .i64 1] rfl (by (try simp only [lM, lC, lN]);first|done|rfl|(simp only [lD, lT];rfl)) ?_;(with_reducible refine (laws_markSigs.calls kj12 (fun k_ => some k_ = (.slice Ao32 t307.length co32 : Value).ownBlock) (.slice Ao32 t307.length co32) t307 (fun k_ => some k_ = (.slice Ao36 t310.length co36 : Value).ownBlock) (.slice Ao36 t310.length co36) t310 (fun k_ => some k_ = (.slice Ao37 t313.length co37 : Value).ownBlock) (.slice Ao37 t313.length co37) t313 1 t339 t340 t341 t342 w _ ?side1 ?side2 ?side3 ?side4 ?side5 ?side6 A69.out).mono ?_);(case side1 => repeat (first|(with_reducible first|exact HB.out|apply oA|apply pN|apply o1|refine bS ?_ Bs.out|refine bS ?_ Bu.out|refine bS ?_ Bv.out|refine bS ?_ Bw.out)|exact HB.out));(case side2 => exact Kd.R_tight rfl Bi.out);(case side3 => exact fun k_ e_ => (Bi.out.1 k_ e_.symm).1.1.2.2.1);(case side4 => exact Kd.R_tight rfl Bj.out);(case side5 => exact fun k_ e_ => (Bj.out.1 k_ e_.symm).1.1.2.2.1);(case side6 => exact Kd.R_tight rfl Bk.out);rintro e w81 ⟨rfl, hy0, hy1, hy2, hb, hkp⟩;refine ⟨_, rfl, ?_⟩;have n0_ := Am (rM (ok' := fun k_ => some k_ ≠ (.slice Ao27 t299.length co27 : Value).ownBlock ∧ some k_ ≠ (.slice Ao32 t307.length co32 : Value).ownBlock ∧ some k_ ≠ (.slice Ao36 t310.length co36 : Value).ownBlock ∧ some k_ ≠ (.slice Ao40 t317.length co40 : Value).ownBlock ∧ some k_ ≠ (.slice Ao45 t320.length co45 : Value).ownBlock ∧ some k_ ≠ (.slice Ao73 t329.length co73 : Value).ownBlock ∧ some k_ ≠ (.slice Ao74 t332.length co74 : Value).ownBlock) (Kd.R_keptB ((Kd.R_apart' Bm.out (Kd.R_typed Bk.out) (by decide))) hkp (fun k_ hk_ hs_ => Or.elim hs_ (fun e_ => (hk_.1.1.1.2.1) e_) (fun e_ => Or.elim e_ (fun e_ => (hk_.1.1.1.2.2.1) e_) (fun e_ => (hk_.2) e_)))) (fun k_ hk_ => ⟨hk_.1.1.1.1.1, hk_.1.1.1.1.2.1, hk_.1.1.1.1.2.2.1, hk_.1.1.1.1.2.2.2.1, hk_.1.1.1.1.2.2.2.2, hk_.1.1.1.2, hk_.1.1.2⟩));have n1_ := Am (rM (ok' := fun k_ => some k_ ≠ (.slice Ao24 t296.length co24 : Value).ownBlock ∧ some k_ ≠ (.slice Ao32 t307.length co32 : Value).ownBlock ∧ some k_ ≠ (.slice Ao36 t310.length co36 : Value).ownBlock ∧ some k_ ≠ (.slice Ao40 t317.length co40 : Value).ownBlock ∧ some k_ ≠ (.slice Ao45 t320.length co45 : Value).ownBlock ∧ some k_ ≠ (.slice Ao73 t329.length co73 : Value).ownBlock ∧ some k_ ≠ (.slice Ao74 t332.length co74 : Value).ownBlock) (Kd.R_keptB ((Kd.R_apart' Bn.out (Kd.R_typed Bk.out) (by decide))) hkp (fun k_ hk_ hs_ => Or.elim hs_ (fun e_ => (hk_.1.1.1.2.1) e_) (fun e_ => Or.elim e_ (fun e_ => (hk_.1.1.1.2.2.1) e_) (fun e_ => (hk_.2) e_)))) (fun k_ hk_ => ⟨hk_.1.1.1.1.1, hk_.1.1.1.1.2.1, hk_.1.1.1.1.2.2.1, hk_.1.1.1.1.2.2.2.1, hk_.1.1.1.1.2.2.2.2, hk_.1.1.1.2, hk_.1.1.2⟩));have n2_ := Am (rM (ok' := fun k_ => some k_ ≠ (.slice Ao37 t313.length co37 : Value).ownBlock ∧ some k_ ≠ (.slice Ao46 t323.length co46 : Value).ownBlock ∧ some k_ ≠ (.slice Ao75 t335.length co75 : Value).ownBlock) (Kd.R_keptB ((Kd.R_apart' (Kd.R_apart' Bp.out (Kd.R_typed Bi.out) (by decide)) (Kd.R_typed Bj.out) (by decide))) hkp (fun k_ hk_ hs_ => Or.elim hs_ (fun e_ => (hk_.1.2) e_) (fun e_ => Or.elim e_ (fun e_ => (hk_.2) e_) (fun e_ => (hk_.1.1.1.1) e_)))) (fun k_ hk_ => ⟨hk_.1.1.1.1.1, hk_.1.1.1.1.2, hk_.1.1.1.2⟩));have n3_ := Am (Kd.R_reok rfl hy0 (fun k_ e_ => Bi.out.1 k_ e_));have n4_ := Am (Kd.R_reok rfl hy1 (fun k_ e_ => Bj.out.1 k_ e_));have n5_ := Am (Kd.R_reok rfl hy2 (fun k_ e_ => Bk.out.1 k_ e_));have n6_ := Am (rM (ok' := fun k_ => some k_ ≠ (.slice Ao24 t296.length co24 : Value).ownBlock ∧ some k_ ≠ (.slice Ao27 t299.length co27 : Value).ownBlock ∧ some k_ ≠ (.slice Ao32 t307.length co32 : Value).ownBlock ∧ some k_ ≠ (.slice Ao36 t310.length co36 : Value).ownBlock ∧ some k_ ≠ (.slice Ao45 t320.length co45 : Value).ownBlock ∧ some k_ ≠ (.slice Ao73 t329.length co73 : Value).ownBlock ∧ some k_ ≠ (.slice Ao74 t332.length co74 : Value).ownBlock) (Kd.R_keptB ((Kd.R_apart' Be.out (Kd.R_typed Bk.out) (by decide))) hkp (fun k_ hk_ hs_ => Or.elim hs_ (fun e_ => (hk_.1.1.1.2.2.1) e_) (fun e_ => Or.elim e_ (fun e_ => (hk_.1.1.1.2.2.2.1) e_) (fun e_ => (hk_.2) e_)))) (fun k_ hk_ => ⟨hk_.1.1.1.1.1, hk_.1.1.1.1.2.1, hk_.1.1.1.1.2.2.1, hk_.1.1.1.1.2.2.2.1, hk_.1.1.1.1.2.2.2.2, hk_.1.1.1.2, hk_.1.1.2⟩));have n7_ := Am (rM (ok' := fun k_ => some k_ ≠ (.slice Ao24 t296.length co24 : Value).ownBlock ∧ some k_ ≠ (.slice Ao27 t299.length co27 : Value).ownBlock ∧ some k_ ≠ (.slice Ao32 t307.length co32 : Value).ownBlock ∧ some k_ ≠ (.slice Ao36 t310.length co36 : Value).ownBlock ∧ some k_ ≠ (.slice Ao40 t317.length co40 : Value).ownBlock ∧ some k_ ≠ (.slice Ao73 t329.length co73 : Value).ownBlock ∧ some k_ ≠ (.slice Ao74 t332.length co74 : Value).ownBlock) (Kd.R_keptB ((Kd.R_apart' Bf.out (Kd.R_typed Bk.out) (by decide))) hkp (fun k_ hk_ hs_ => Or.elim hs_ (fun e_ => (hk_.1.1.1.2.2.1) e_) (fun e_ => Or.elim e_ (fun e_ => (hk_.1.1.1.2.2.2.1) e_) (fun e_ => (hk_.2) e_)))) (fun k_ hk_ => ⟨hk_.1.1.1.1.1, hk_.1.1.1.1.2.1, hk_.1.1.1.1.2.2.1, hk_.1.1.1.1.2.2.2.1, hk_.1.1.1.1.2.2.2.2, hk_.1.1.1.2, hk_.1.1.2⟩));have n8_ := Am (rM (ok' := fun k_ => some k_ ≠ (.slice Ao28 t302.length co28 : Value).ownBlock ∧ some k_ ≠ (.slice Ao37 t313.length co37 : Value).ownBlock ∧ some k_ ≠ (.slice Ao75 t335.length co75 : Value).ownBlock) (Kd.R_keptB ((Kd.R_apart' (Kd.R_apart' Bh.out (Kd.R_typed Bi.out) (by decide)) (Kd.R_typed Bj.out) (by decide))) hkp (fun k_ hk_ hs_ => Or.elim hs_ (fun e_ => (hk_.1.2) e_) (fun e_ => Or.elim e_ (fun e_ => (hk_.2) e_) (fun e_ => (hk_.1.1.1.2) e_)))) (fun k_ hk_ => ⟨hk_.1.1.1.1.1, hk_.1.1.1.1.2, hk_.1.1.1.2⟩));have n9_ := Am (blk_kept (bL Bg.out) hkp (fun hs_ => Or.elim hs_ (fun e_ => (fun e_ => (Kd.R_ne Bi.out Bg.out (by decide)) e_) e_) (fun e_ => Or.elim e_ (fun e_ => (fun e_ => (Kd.R_ne Bj.out Bg.out (by decide)) e_) e_) (fun e_ => (fun e_ => (Kd.R_ne Bk.out Bg.out (by decide)) e_) e_))));have n10_ := Am (blk_kept (bL Bd.out) hkp (fun hs_ => Or.elim hs_ (fun e_ => (fun e_ => (Kd.R_ne Bi.out Bd.out (by decide)) e_) e_) (fun e_ => Or.elim e_ (fun e_ => (fun e_ => (Kd.R_ne Bj.out Bd.out (by decide)) e_) e_) (fun e_ => (fun e_ => (Kd.R_ne Bk.out Bd.out (by decide)) e_) e_))));have n11_ := Am (blk_kept (bL Bl.out) hkp (fun hs_ => Or.elim hs_ (fun e_ => (fun e_ => (Kd.R_ne Bi.out Bl.out (by decide)) e_) e_) (fun e_ => Or.elim e_ (fun e_ => (fun e_ => (Kd.R_ne Bj.out Bl.out (by decide)) e_) e_) (fun e_ => (fun e_ => (Kd.R_ne Bk.out Bl.out (by decide)) e_) e_))));have n12_ := Am (blk_kept (bL Bb.out) hkp (fun hs_ => Or.elim hs_ (fun e_ => (fun e_ => (Kd.R_ne Bi.out Bb.out (by decide)) e_) e_) (fun e_ => Or.elim e_ (fun e_ => (fun e_ => (Kd.R_ne Bj.out Bb.out (by decide)) e_) e_) (fun e_ => (fun e_ => (Kd.R_ne Bk.out Bb.out (by decide)) e_) e_))));have n13_ := Am (rM (ok' := fun k_ => some k_ ≠ (.slice Ao24 t296.length co24 : Value).ownBlock ∧ some k_ ≠ (.slice Ao27 t299.length co27 : Value).ownBlock ∧ some k_ ≠ (.slice Ao32 t307.length co32 : Value).ownBlock ∧ some k_ ≠ (.slice Ao36 t310.length co36 : Value).ownBlock ∧ some k_ ≠ (.slice Ao40 t317.length co40 : Value).ownBlock ∧ some k_ ≠ (.slice Ao45 t320.length co45 : Value).ownBlock ∧ some k_ ≠ (.slice Ao74 t332.length co74 : Value).ownBlock) (Kd.R_keptB ((Kd.R_apart' BY.out (Kd.R_typed Bk.out) (by decide))) hkp (fun k_ hk_ hs_ => Or.elim hs_ (fun e_ => (hk_.1.1.1.1.2) e_) (fun e_ => Or.elim e_ (fun e_ => (hk_.1.1.1.2) e_) (fun e_ => (hk_.2) e_)))) (fun k_ hk_ => ⟨hk_.1.1.1.1.1.1.1.2, hk_.1.1.1.1.1.1.2, hk_.1.1.1.1.1.2, hk_.1.1.1.1.2, hk_.1.1.1.2, hk_.1.1.2, hk_.1.1.1.1.1.1.1.1⟩));have n14_ := Am (rM (ok' := fun k_ => some k_ ≠ (.slice Ao24 t296.length co24 : Value).ownBlock ∧ some k_ ≠ (.slice Ao27 t299.length co27 : Value).ownBlock ∧ some k_ ≠ (.slice Ao32 t307.length co32 : Value).ownBlock ∧ some k_ ≠ (.slice Ao36 t310.length co36 : Value).ownBlock ∧ some k_ ≠ (.slice Ao40 t317.length co40 : Value).ownBlock ∧ some k_ ≠ (.slice Ao45 t320.length co45 : Value).ownBlock ∧ some k_ ≠ (.slice Ao73 t329.length co73 : Value).ownBlock) (Kd.R_keptB ((Kd.R_apart' BZ.out (Kd.R_typed Bk.out) (by decide))) hkp (fun k_ hk_ hs_ => Or.elim hs_ (fun e_ => (hk_.1.1.1.1.2) e_) (fun e_ => Or.elim e_ (fun e_ => (hk_.1.1.1.2) e_) (fun e_ => (hk_.2) e_)))) (fun k_ hk_ => ⟨hk_.1.1.1.1.1.1.1.2, hk_.1.1.1.1.1.1.2, hk_.1.1.1.1.1.2, hk_.1.1.1.1.2, hk_.1.1.1.2, hk_.1.1.2, hk_.1.1.1.1.1.1.1.1⟩));have n15_ := Am (rM (ok' := fun k_ => some k_ ≠ (.slice Ao28 t302.length co28 : Value).ownBlock ∧ some k_ ≠ (.slice Ao37 t313.length co37 : Value).ownBlock ∧ some k_ ≠ (.slice Ao46 t323.length co46 : Value).ownBlock) (Kd.R_keptB ((Kd.R_apart' (Kd.R_apart' B0.out (Kd.R_typed Bi.out) (by decide)) (Kd.R_typed Bj.out) (by decide))) hkp (fun k_ hk_ hs_ => Or.elim hs_ (fun e_ => (hk_.1.2) e_) (fun e_ => Or.elim e_ (fun e_ => (hk_.2) e_) (fun e_ => (hk_.1.1.1.2) e_)))) (fun k_ hk_ => ⟨hk_.1.1.1.1.1.2, hk_.1.1.1.1.2, hk_.1.1.1.2⟩));have n16_ := Am (hb);clear Bm Bn Bp Bi Bj Bk Be Bf Bh Bg Bd Bl Bb BY BZ B0 HB;revert n0_ n1_ n2_ n3_ n4_ n5_ n6_ n7_ n8_ n9_ n10_ n11_ n12_ n13_ n14_ n15_ n16_;intro Bm Bn Bp Bi Bj Bk Be Bf Bh Bg Bd Bl Bb BY BZ B0 HB;(try clear hb);(try clear hkp);(try clear hy0);(try clear hy1);(try clear hy2)))
   (try simp only [Act.put, lA, lZ, lS])
   go_cut [69] (fun v69 wc => ∃ (kq : Nat) (x69_69 : Bool), v69 = .bool x69_69 ∧ Aside0 (laws_FnExactSigsSet.j1 kq a1 a2 t305 x69_69 l0_0 l0_1 l0_2 t296 t299 t302 t317 t320 t323 = some r) ∧ Aside0 (kq ≤ kj12) ∧ Aside0 (Kd.R Kd.bool 4 wc w.heap.size (fun k_ => some k_ ≠ ((.slice Ao27 t299.length co27) : Value).ownBlock ∧ some k_ ≠ ((.slice Ao32 t307.length co32) : Value).ownBlock ∧ some k_ ≠ ((.slice Ao36 t310.length co36) : Value).ownBlock ∧ some k_ ≠ ((.slice Ao40 t317.length co40) : Value).ownBlock ∧ some k_ ≠ ((.slice Ao45 t320.length co45) : Value).ownBlock) (.slice Ao24 t296.length co24) t296) ∧ Aside0 (Kd.R Kd.bool 4 wc w.heap.size (fun k_ => some k_ ≠ ((.slice Ao24 t296.length co24) : Value).ownBlock ∧ some k_ ≠ ((.slice Ao32 t307.length co32) : Value).ownBlock ∧ some k_ ≠ ((.slice Ao36 t310.length co36) : Value).ownBlock ∧ some k_ ≠ ((.slice Ao40 t317.length co40) : Value).ownBlock ∧ some k_ ≠ ((.slice Ao45 t320.length co45) : Value).ownBlock) (.slice Ao27 t299.length co27) t299) ∧ Aside0 (Kd.R (Kd.int .i64) 3 wc w.heap.size (fun k_ => some k_ ≠ ((.slice Ao37 t313.length co37) : Value).ownBlock ∧ some k_ ≠ ((.slice Ao46 t323.length co46) : Value).ownBlock) (.slice Ao28 t302.length co28) t302) ∧ Aside0 (Kd.R Kd.bool 4 wc w.heap.size (fun k_ => some k_ ≠ ((.slice Ao24 t296.length co24) : Value).ownBlock ∧ some k_ ≠ ((.slice Ao27 t299.length co27) : Value).ownBlock ∧ some k_ ≠ ((.slice Ao36 t310.length co36) : Value).ownBlock ∧ some k_ ≠ ((.slice Ao40 t317.length co40) : Value).ownBlock ∧ some k_ ≠ ((.slice Ao45 t320.length co45) : Value).ownBlock) (.slice Ao32 t307.length co32) t340) ∧ Aside0 (Kd.R Kd.bool 4 wc w.heap.size (fun k_ => some k_ ≠ ((.slice Ao24 t296.length co24) : Value).ownBlock ∧ some k_ ≠ ((.slice Ao27 t299.length co27) : Value).ownBlock ∧ some k_ ≠ ((.slice Ao32 t307.length co32) : Value).ownBlock ∧ some k_ ≠ ((.slice Ao40 t317.length co40) : Value).ownBlock ∧ some k_ ≠ ((.slice Ao45 t320.length co45) : Value).ownBlock) (.slice Ao36 t310.length co36) t341) ∧ Aside0 (Kd.R (Kd.int .i64) 3 wc w.heap.size (fun k_ => some k_ ≠ ((.slice Ao28 t302.length co28) : Value).ownBlock ∧ some k_ ≠ ((.slice Ao46 t323.length co46) : Value).ownBlock) (.slice Ao37 t313.length co37) t342) ∧ Aside0 (Kd.R Kd.bool 4 wc w.heap.size (fun k_ => some k_ ≠ ((.slice Ao24 t296.length co24) : Value).ownBlock ∧ some k_ ≠ ((.slice Ao27 t299.length co27) : Value).ownBlock ∧ some k_ ≠ ((.slice Ao32 t307.length co32) : Value).ownBlock ∧ some k_ ≠ ((.slice Ao36 t310.length co36) : Value).ownBlock ∧ some k_ ≠ ((.slice Ao45 t320.length co45) : Value).ownBlock) (.slice Ao40 t317.length co40) t317) ∧ Aside0 (Kd.R Kd.bool 4 wc w.heap.size (fun k_ => some k_ ≠ ((.slice Ao24 t296.length co24) : Value).ownBlock ∧ some k_ ≠ ((.slice Ao27 t299.length co27) : Value).ownBlock ∧ some k_ ≠ ((.slice Ao32 t307.length co32) : Value).ownBlock ∧ some k_ ≠ ((.slice Ao36 t310.length co36) : Value).ownBlock ∧ some k_ ≠ ((.slice Ao40 t317.length co40) : Value).ownBlock) (.slice Ao45 t320.length co45) t320) ∧ Aside0 (Kd.R (Kd.int .i64) 3 wc w.heap.size (fun k_ => some k_ ≠ ((.slice Ao28 t302.length co28) : Value).ownBlock ∧ some k_ ≠ ((.slice Ao37 t313.length co37) : Value).ownBlock) (.slice Ao46 t323.length co46) t323) ∧ Aside0 (wc.heap[Bt]? = some (.cells #[(.slice A0_0 l0_0.length c0_0), (.slice A0_1 l0_1.length c0_1), (.slice A0_2 l0_2.length c0_2)] 25 (0, 0))) ∧ Aside0 (wc.heap[Bq]? = some (.cells #[(.slice Ao24 t296.length co24), (.slice Ao27 t299.length co27), (.slice Ao28 t302.length co28)] 27 (0, 0))) ∧ Aside0 (wc.heap[Bo]? = some (.cells #[(.slice Ao32 t307.length co32), (.slice Ao36 t310.length co36), (.slice Ao37 t313.length co37)] 27 (0, 0))) ∧ Aside0 (wc.heap[Ba]? = some (.cells #[(.slice Ao40 t317.length co40), (.slice Ao45 t320.length co45), (.slice Ao46 t323.length co46)] 27 (0, 0))) ∧ Aside0 (Below w.heap.size w wc))
   case first =>
    have H := HC70.out
    clear HC70
    by_cases c82 : t339 < 0
    ·rw [if_pos c82] at H
     have c82b0 : decide (t339 < 0) = true := decide_eq_true c82
     clear c82
     (first|rw [c82b0]|(simp only [i64_w, i32_w];rw [c82b0])|skip)
     have H' := Am H
     clear H
     go_wp2
     go_meet
     case rel => exact ⟨_, (true), (by first|rfl|(simp;done)|(simp [*];done)), H', ⟨by have := Fk.out;first|omega|exact Nat.le_refl _⟩, ⟨by (with_reducible repeat (first|apply rA|apply rN|apply rD));exact rM Bm.out (fun _ hk => ⟨hk.1, ⟨hk.2.1, ⟨hk.2.2.1, ⟨hk.2.2.2.1, hk.2.2.2.2.1⟩⟩⟩⟩)⟩, ⟨by (with_reducible repeat (first|apply rA|apply rN|apply rD));exact rM Bn.out (fun _ hk => ⟨hk.1, ⟨hk.2.1, ⟨hk.2.2.1, ⟨hk.2.2.2.1, hk.2.2.2.2.1⟩⟩⟩⟩)⟩, ⟨by (with_reducible repeat (first|apply rA|apply rN|apply rD));exact rM Bp.out (fun _ hk => ⟨hk.1, hk.2.1⟩)⟩, ⟨by (with_reducible repeat (first|apply rA|apply rN|apply rD));exact rM Bi.out (fun _ hk => ⟨hk.1.1.1, ⟨hk.1.1.2.1, ⟨hk.1.1.2.2.1, ⟨hk.1.1.2.2.2.1, hk.1.1.2.2.2.2⟩⟩⟩⟩)⟩, ⟨by (with_reducible repeat (first|apply rA|apply rN|apply rD));exact rM Bj.out (fun _ hk => ⟨hk.1.1.1, ⟨hk.1.1.2.1, ⟨hk.1.1.2.2.1, ⟨hk.1.1.2.2.2.1, hk.1.1.2.2.2.2⟩⟩⟩⟩)⟩, ⟨by (with_reducible repeat (first|apply rA|apply rN|apply rD));exact rM Bk.out (fun _ hk => ⟨hk.1.1, hk.1.2⟩)⟩, ⟨by (with_reducible repeat (first|apply rA|apply rN|apply rD));exact rM Be.out (fun _ hk => ⟨hk.1, ⟨hk.2.1, ⟨hk.2.2.1, ⟨hk.2.2.2.1, hk.2.2.2.2.1⟩⟩⟩⟩)⟩, ⟨by (with_reducible repeat (first|apply rA|apply rN|apply rD));exact rM Bf.out (fun _ hk => ⟨hk.1, ⟨hk.2.1, ⟨hk.2.2.1, ⟨hk.2.2.2.1, hk.2.2.2.2.1⟩⟩⟩⟩)⟩, ⟨by (with_reducible repeat (first|apply rA|apply rN|apply rD));exact rM Bh.out (fun _ hk => ⟨hk.1, hk.2.1⟩)⟩, ⟨by (with_reducible repeat (first|refine bN ?_ _|refine bD ?_|refine bA ?_ _));exact Bg.out⟩, ⟨by (with_reducible repeat (first|refine bN ?_ _|refine bD ?_|refine bA ?_ _));exact Bd.out⟩, ⟨by (with_reducible repeat (first|refine bN ?_ _|refine bD ?_|refine bA ?_ _));exact Bl.out⟩, ⟨by (with_reducible repeat (first|refine bN ?_ _|refine bD ?_|refine bA ?_ _));exact Bb.out⟩, ⟨by repeat (first|(with_reducible first|exact HB.out|apply oA|apply pN|apply o1|refine bS ?_ Bs.out|refine bS ?_ Bu.out|refine bS ?_ Bv.out|refine bS ?_ Bw.out)|exact HB.out)⟩⟩
    rw [if_neg c82] at H
    have c82b0 : decide (t339 < 0) = false := decide_eq_false c82
    clear c82
    (first|rw [c82b0]|(simp only [i64_w, i32_w];rw [c82b0])|skip)
    replace H := Option.bind_eq_some_iff.mp H
    obtain ⟨t343, A830, H⟩ := H
    replace H : (if t343 = true then (laws_FnExactSigsSet.j1 kj12 a1 a2 t305 (t326 != t305) l0_0 l0_1 l0_2 t296 t299 t302 t317 t320 t323) else (laws_FnExactSigsSet.j1 kj12 a1 a2 t305 true l0_0 l0_1 l0_2 t296 t299 t302 t317 t320 t323)) = some r := H
    have A83 := Am A830
    clear A830
    by_cases c84 : t343 = true
    ·subst c84
     have H1 : (laws_FnExactSigsSet.j1 kj12 a1 a2 t305 (t326 != t305) l0_0 l0_1 l0_2 t296 t299 t302 t317 t320 t323) = some r := by rw [if_pos rfl] at H;exact H
     clear H
     have H := H1
     clear H1
     have H' := Am H
     clear H
     have Mh := B1.out
     have Mi := BK.out
     have Mj := BL.out
     have Mk := BG.out
     have Ml := BX.out
     have Mm := BH.out
     have Fr : w81.cell? ⟨Ba, 0, none⟩ = some (.slice Ao40 t317.length co40) := (bC Bb.out 0).trans rfl
     have Fs : w81.cell? ⟨Ba, 1, none⟩ = some (.slice Ao45 t320.length co45) := (bC Bb.out 1).trans rfl
     have Ft : w81.cell? ⟨Ba, 2, none⟩ = some (.slice Ao46 t323.length co46) := (bC Bb.out 2).trans rfl
     have Fu := bF Bb.out 0
     have Fv := bF Bb.out 1
     have Fw := bF Bb.out 2
     have Mn := BV.out
     have Mo := BI.out
     have Mp := BJ.out
     have Mq := BW.out
     have Fx : w81.cell? ⟨Bq, 0, none⟩ = some (.slice Ao24 t296.length co24) := (bC Bd.out 0).trans rfl
     have Fy : w81.cell? ⟨Bq, 1, none⟩ = some (.slice Ao27 t299.length co27) := (bC Bd.out 1).trans rfl
     have Fz : w81.cell? ⟨Bq, 2, none⟩ = some (.slice Ao28 t302.length co28) := (bC Bd.out 2).trans rfl
     have FA := bF Bd.out 0
     have FB := bF Bd.out 1
     have FC := bF Bd.out 2
     go_wp2_with (first|(go_at_call 17;(with_reducible refine (laws_eqSigs.calls kj12 _ _ t317 _ _ t320 _ _ t323 _ _ t296 _ _ t299 _ _ t302 true _ ?side1 ?side2 ?side3 ?side4 ?side5 ?side6 ?side7 ?side8 ?side9 ?side10 ?side11 ?side12 A83.out).mono ?_);(case side1 => repeat (first|exact (Kd.R_reads' Be.out).2.2|(with_reducible refine cA ?_ _)|(with_reducible refine cN ?_ _)|(with_reducible refine cD ?_)));(case side2 => exact (Kd.R_reads' Be.out).2.1);(case side3 => repeat (first|exact (Kd.R_reads' Bf.out).2.2|(with_reducible refine cA ?_ _)|(with_reducible refine cN ?_ _)|(with_reducible refine cD ?_)));(case side4 => exact (Kd.R_reads' Bf.out).2.1);(case side5 => repeat (first|exact (Kd.R_reads' Bh.out).2.2|(with_reducible refine cA ?_ _)|(with_reducible refine cN ?_ _)|(with_reducible refine cD ?_)));(case side6 => exact (Kd.R_reads' Bh.out).2.1);(case side7 => repeat (first|exact (Kd.R_reads' Bm.out).2.2|(with_reducible refine cA ?_ _)|(with_reducible refine cN ?_ _)|(with_reducible refine cD ?_)));(case side8 => exact (Kd.R_reads' Bm.out).2.1);(case side9 => repeat (first|exact (Kd.R_reads' Bn.out).2.2|(with_reducible refine cA ?_ _)|(with_reducible refine cN ?_ _)|(with_reducible refine cD ?_)));(case side10 => exact (Kd.R_reads' Bn.out).2.1);(case side11 => repeat (first|exact (Kd.R_reads' Bp.out).2.2|(with_reducible refine cA ?_ _)|(with_reducible refine cN ?_ _)|(with_reducible refine cD ?_)));(case side12 => exact (Kd.R_reads' Bp.out).2.1);rintro e w92 ⟨rfl, hb⟩;have n0_ := Am (rB (rL Bm.out) hb);have n1_ := Am (rB (rL Bn.out) hb);have n2_ := Am (rB (rL Bp.out) hb);have n3_ := Am (rB (rL Bi.out) hb);have n4_ := Am (rB (rL Bj.out) hb);have n5_ := Am (rB (rL Bk.out) hb);have n6_ := Am (rB (rL Be.out) hb);have n7_ := Am (rB (rL Bf.out) hb);have n8_ := Am (rB (rL Bh.out) hb);have n9_ := Am (rB (rL BY.out) hb);have n10_ := Am (rB (rL BZ.out) hb);have n11_ := Am (rB (rL B0.out) hb);have n12_ := Am (bB (g := Bt) (o := .cells #[.slice A0_0 l0_0.length c0_0, .slice A0_1 l0_1.length c0_1, .slice A0_2 l0_2.length c0_2] 25 (0, 0)) (bL Bg.out) hb);have n13_ := Am (bB (g := Bq) (o := .cells #[.slice Ao24 t296.length co24, .slice Ao27 t299.length co27, .slice Ao28 t302.length co28] 27 (0, 0)) (bL Bd.out) hb);have n14_ := Am (bB (g := Bo) (o := .cells #[.slice Ao32 t307.length co32, .slice Ao36 t310.length co36, .slice Ao37 t313.length co37] 27 (0, 0)) (bL Bl.out) hb);have n15_ := Am (bB (g := Ba) (o := .cells #[.slice Ao40 t317.length co40, .slice Ao45 t320.length co45, .slice Ao46 t323.length co46] 27 (0, 0)) (bL Bb.out) hb);have n16_ := Am (bP (by repeat (first|(with_reducible first|exact HB.out|apply oA|apply pN|apply o1|refine bS ?_ Bs.out|refine bS ?_ Bu.out|refine bS ?_ Bv.out|refine bS ?_ Bw.out)|exact HB.out)) hb);clear Bm Bn Bp Bi Bj Bk Be Bf Bh BY BZ B0 Bg Bd Bl Bb HB;revert n0_ n1_ n2_ n3_ n4_ n5_ n6_ n7_ n8_ n9_ n10_ n11_ n12_ n13_ n14_ n15_ n16_;intro Bm Bn Bp Bi Bj Bk Be Bf Bh BY BZ B0 Bg Bd Bl Bb HB;(try clear hb);(try clear hb2);(try clear hk);(try clear hi)))
     go_meet
     case rel => exact ⟨_, ((t326 != t305)), (by first|rfl|(simp;done)|(simp [*];done)), H', ⟨by have := Fk.out;first|omega|exact Nat.le_refl _⟩, ⟨by (with_reducible repeat (first|apply rA|apply rN|apply rD));exact rM Bm.out (fun _ hk => ⟨hk.1, ⟨hk.2.1, ⟨hk.2.2.1, ⟨hk.2.2.2.1, hk.2.2.2.2.1⟩⟩⟩⟩)⟩, ⟨by (with_reducible repeat (first|apply rA|apply rN|apply rD));exact rM Bn.out (fun _ hk => ⟨hk.1, ⟨hk.2.1, ⟨hk.2.2.1, ⟨hk.2.2.2.1, hk.2.2.2.2.1⟩⟩⟩⟩)⟩, ⟨by (with_reducible repeat (first|apply rA|apply rN|apply rD));exact rM Bp.out (fun _ hk => ⟨hk.1, hk.2.1⟩)⟩, ⟨by (with_reducible repeat (first|apply rA|apply rN|apply rD));exact rM Bi.out (fun _ hk => ⟨hk.1.1.1, ⟨hk.1.1.2.1, ⟨hk.1.1.2.2.1, ⟨hk.1.1.2.2.2.1, hk.1.1.2.2.2.2⟩⟩⟩⟩)⟩, ⟨by (with_reducible repeat (first|apply rA|apply rN|apply rD));exact rM Bj.out (fun _ hk => ⟨hk.1.1.1, ⟨hk.1.1.2.1, ⟨hk.1.1.2.2.1, ⟨hk.1.1.2.2.2.1, hk.1.1.2.2.2.2⟩⟩⟩⟩)⟩, ⟨by (with_reducible repeat (first|apply rA|apply rN|apply rD));exact rM Bk.out (fun _ hk => ⟨hk.1.1, hk.1.2⟩)⟩, ⟨by (with_reducible repeat (first|apply rA|apply rN|apply rD));exact rM Be.out (fun _ hk => ⟨hk.1, ⟨hk.2.1, ⟨hk.2.2.1, ⟨hk.2.2.2.1, hk.2.2.2.2.1⟩⟩⟩⟩)⟩, ⟨by (with_reducible repeat (first|apply rA|apply rN|apply rD));exact rM Bf.out (fun _ hk => ⟨hk.1, ⟨hk.2.1, ⟨hk.2.2.1, ⟨hk.2.2.2.1, hk.2.2.2.2.1⟩⟩⟩⟩)⟩, ⟨by (with_reducible repeat (first|apply rA|apply rN|apply rD));exact rM Bh.out (fun _ hk => ⟨hk.1, hk.2.1⟩)⟩, ⟨by (with_reducible repeat (first|refine bN ?_ _|refine bD ?_|refine bA ?_ _));exact Bg.out⟩, ⟨by (with_reducible repeat (first|refine bN ?_ _|refine bD ?_|refine bA ?_ _));exact Bd.out⟩, ⟨by (with_reducible repeat (first|refine bN ?_ _|refine bD ?_|refine bA ?_ _));exact Bl.out⟩, ⟨by (with_reducible repeat (first|refine bN ?_ _|refine bD ?_|refine bA ?_ _));exact Bb.out⟩, ⟨by repeat (first|(with_reducible first|exact HB.out|apply oA|apply pN|apply o1|refine bS ?_ Bs.out|refine bS ?_ Bu.out|refine bS ?_ Bv.out|refine bS ?_ Bw.out)|exact HB.out)⟩⟩
    replace c84 := Bool.eq_false_iff.mpr c84
    subst c84
    have H1 : (laws_FnExactSigsSet.j1 kj12 a1 a2 t305 true l0_0 l0_1 l0_2 t296 t299 t302 t317 t320 t323) = some r := by rw [if_neg (show ¬ (false = true) by decide)] at H;exact H
    clear H
    have H := H1
    clear H1
    have H' := Am H
    clear H
    have Mr := B1.out
    have Ms := BK.out
    have Mt := BL.out
    have Mu := BG.out
    have Mv := BX.out
    have Mw := BH.out
    have FD : w81.cell? ⟨Ba, 0, none⟩ = some (.slice Ao40 t317.length co40) := (bC Bb.out 0).trans rfl
    have FE : w81.cell? ⟨Ba, 1, none⟩ = some (.slice Ao45 t320.length co45) := (bC Bb.out 1).trans rfl
    have FF : w81.cell? ⟨Ba, 2, none⟩ = some (.slice Ao46 t323.length co46) := (bC Bb.out 2).trans rfl
    have FG := bF Bb.out 0
    have FH := bF Bb.out 1
    have FI := bF Bb.out 2
    have Mx := BV.out
    have My := BI.out
    have Mz := BJ.out
    have MA := BW.out
    have FJ : w81.cell? ⟨Bq, 0, none⟩ = some (.slice Ao24 t296.length co24) := (bC Bd.out 0).trans rfl
    have FK : w81.cell? ⟨Bq, 1, none⟩ = some (.slice Ao27 t299.length co27) := (bC Bd.out 1).trans rfl
    have FL : w81.cell? ⟨Bq, 2, none⟩ = some (.slice Ao28 t302.length co28) := (bC Bd.out 2).trans rfl
    have FM := bF Bd.out 0
    have FN := bF Bd.out 1
    have FO := bF Bd.out 2
    go_wp2_with (first|(go_at_call 17;(with_reducible refine (laws_eqSigs.calls kj12 _ _ t317 _ _ t320 _ _ t323 _ _ t296 _ _ t299 _ _ t302 false _ ?side1 ?side2 ?side3 ?side4 ?side5 ?side6 ?side7 ?side8 ?side9 ?side10 ?side11 ?side12 A83.out).mono ?_);(case side1 => repeat (first|exact (Kd.R_reads' Be.out).2.2|(with_reducible refine cA ?_ _)|(with_reducible refine cN ?_ _)|(with_reducible refine cD ?_)));(case side2 => exact (Kd.R_reads' Be.out).2.1);(case side3 => repeat (first|exact (Kd.R_reads' Bf.out).2.2|(with_reducible refine cA ?_ _)|(with_reducible refine cN ?_ _)|(with_reducible refine cD ?_)));(case side4 => exact (Kd.R_reads' Bf.out).2.1);(case side5 => repeat (first|exact (Kd.R_reads' Bh.out).2.2|(with_reducible refine cA ?_ _)|(with_reducible refine cN ?_ _)|(with_reducible refine cD ?_)));(case side6 => exact (Kd.R_reads' Bh.out).2.1);(case side7 => repeat (first|exact (Kd.R_reads' Bm.out).2.2|(with_reducible refine cA ?_ _)|(with_reducible refine cN ?_ _)|(with_reducible refine cD ?_)));(case side8 => exact (Kd.R_reads' Bm.out).2.1);(case side9 => repeat (first|exact (Kd.R_reads' Bn.out).2.2|(with_reducible refine cA ?_ _)|(with_reducible refine cN ?_ _)|(with_reducible refine cD ?_)));(case side10 => exact (Kd.R_reads' Bn.out).2.1);(case side11 => repeat (first|exact (Kd.R_reads' Bp.out).2.2|(with_reducible refine cA ?_ _)|(with_reducible refine cN ?_ _)|(with_reducible refine cD ?_)));(case side12 => exact (Kd.R_reads' Bp.out).2.1);rintro e w100 ⟨rfl, hb⟩;have n0_ := Am (rB (rL Bm.out) hb);have n1_ := Am (rB (rL Bn.out) hb);have n2_ := Am (rB (rL Bp.out) hb);have n3_ := Am (rB (rL Bi.out) hb);have n4_ := Am (rB (rL Bj.out) hb);have n5_ := Am (rB (rL Bk.out) hb);have n6_ := Am (rB (rL Be.out) hb);have n7_ := Am (rB (rL Bf.out) hb);have n8_ := Am (rB (rL Bh.out) hb);have n9_ := Am (rB (rL BY.out) hb);have n10_ := Am (rB (rL BZ.out) hb);have n11_ := Am (rB (rL B0.out) hb);have n12_ := Am (bB (g := Bt) (o := .cells #[.slice A0_0 l0_0.length c0_0, .slice A0_1 l0_1.length c0_1, .slice A0_2 l0_2.length c0_2] 25 (0, 0)) (bL Bg.out) hb);have n13_ := Am (bB (g := Bq) (o := .cells #[.slice Ao24 t296.length co24, .slice Ao27 t299.length co27, .slice Ao28 t302.length co28] 27 (0, 0)) (bL Bd.out) hb);have n14_ := Am (bB (g := Bo) (o := .cells #[.slice Ao32 t307.length co32, .slice Ao36 t310.length co36, .slice Ao37 t313.length co37] 27 (0, 0)) (bL Bl.out) hb);have n15_ := Am (bB (g := Ba) (o := .cells #[.slice Ao40 t317.length co40, .slice Ao45 t320.length co45, .slice Ao46 t323.length co46] 27 (0, 0)) (bL Bb.out) hb);have n16_ := Am (bP (by repeat (first|(with_reducible first|exact HB.out|apply oA|apply pN|apply o1|refine bS ?_ Bs.out|refine bS ?_ Bu.out|refine bS ?_ Bv.out|refine bS ?_ Bw.out)|exact HB.out)) hb);clear Bm Bn Bp Bi Bj Bk Be Bf Bh BY BZ B0 Bg Bd Bl Bb HB;revert n0_ n1_ n2_ n3_ n4_ n5_ n6_ n7_ n8_ n9_ n10_ n11_ n12_ n13_ n14_ n15_ n16_;intro Bm Bn Bp Bi Bj Bk Be Bf Bh BY BZ B0 Bg Bd Bl Bb HB;(try clear hb);(try clear hb2);(try clear hk);(try clear hi)))
    go_meet
    case rel => exact ⟨_, (true), (by first|rfl|(simp;done)|(simp [*];done)), H', ⟨by have := Fk.out;first|omega|exact Nat.le_refl _⟩, ⟨by (with_reducible repeat (first|apply rA|apply rN|apply rD));exact rM Bm.out (fun _ hk => ⟨hk.1, ⟨hk.2.1, ⟨hk.2.2.1, ⟨hk.2.2.2.1, hk.2.2.2.2.1⟩⟩⟩⟩)⟩, ⟨by (with_reducible repeat (first|apply rA|apply rN|apply rD));exact rM Bn.out (fun _ hk => ⟨hk.1, ⟨hk.2.1, ⟨hk.2.2.1, ⟨hk.2.2.2.1, hk.2.2.2.2.1⟩⟩⟩⟩)⟩, ⟨by (with_reducible repeat (first|apply rA|apply rN|apply rD));exact rM Bp.out (fun _ hk => ⟨hk.1, hk.2.1⟩)⟩, ⟨by (with_reducible repeat (first|apply rA|apply rN|apply rD));exact rM Bi.out (fun _ hk => ⟨hk.1.1.1, ⟨hk.1.1.2.1, ⟨hk.1.1.2.2.1, ⟨hk.1.1.2.2.2.1, hk.1.1.2.2.2.2⟩⟩⟩⟩)⟩, ⟨by (with_reducible repeat (first|apply rA|apply rN|apply rD));exact rM Bj.out (fun _ hk => ⟨hk.1.1.1, ⟨hk.1.1.2.1, ⟨hk.1.1.2.2.1, ⟨hk.1.1.2.2.2.1, hk.1.1.2.2.2.2⟩⟩⟩⟩)⟩, ⟨by (with_reducible repeat (first|apply rA|apply rN|apply rD));exact rM Bk.out (fun _ hk => ⟨hk.1.1, hk.1.2⟩)⟩, ⟨by (with_reducible repeat (first|apply rA|apply rN|apply rD));exact rM Be.out (fun _ hk => ⟨hk.1, ⟨hk.2.1, ⟨hk.2.2.1, ⟨hk.2.2.2.1, hk.2.2.2.2.1⟩⟩⟩⟩)⟩, ⟨by (with_reducible repeat (first|apply rA|apply rN|apply rD));exact rM Bf.out (fun _ hk => ⟨hk.1, ⟨hk.2.1, ⟨hk.2.2.1, ⟨hk.2.2.2.1, hk.2.2.2.2.1⟩⟩⟩⟩)⟩, ⟨by (with_reducible repeat (first|apply rA|apply rN|apply rD));exact rM Bh.out (fun _ hk => ⟨hk.1, hk.2.1⟩)⟩, ⟨by (with_reducible repeat (first|refine bN ?_ _|refine bD ?_|refine bA ?_ _));exact Bg.out⟩, ⟨by (with_reducible repeat (first|refine bN ?_ _|refine bD ?_|refine bA ?_ _));exact Bd.out⟩, ⟨by (with_reducible repeat (first|refine bN ?_ _|refine bD ?_|refine bA ?_ _));exact Bl.out⟩, ⟨by (with_reducible repeat (first|refine bN ?_ _|refine bD ?_|refine bA ?_ _));exact Bb.out⟩, ⟨by repeat (first|(with_reducible first|exact HB.out|apply oA|apply pN|apply o1|refine bS ?_ Bs.out|refine bS ?_ Bu.out|refine bS ?_ Bv.out|refine bS ?_ Bw.out)|exact HB.out)⟩⟩
   case rest =>
    clear HC70
    try clear c1
    try clear c2
    try clear p2
    try clear c3
    try clear c4
    try clear c5
    try clear c5b0
    try clear c6
    try clear c7
    try clear c8
    try clear c9
    try clear c13
    try clear c15
    try clear c17
    try clear c18
    try clear c25
    try clear c26
    try clear c33
    try clear c34
    try clear c41
    try clear c42
    try clear c43
    try clear c48
    try clear c49
    try clear c50
    try clear c51
    try clear c53
    try clear c54
    try clear c57
    try clear c58
    try clear c59
    try clear c61
    try clear c62
    try clear c65
    try clear c68
    try clear c77
    try clear c78
    try clear c79
    try clear c82
    try clear c82b0
    try clear c84
    try clear c85
    try clear c86
    try clear c87
    try clear c89
    try clear c90
    try clear c93
    try clear c94
    try clear c95
    try clear c97
    try clear c98
    try clear Dg
    try clear Dh
    try clear Di
    try clear Dm
    try clear Dn
    try clear Do
    try clear Ds
    try clear Dt
    try clear Du
    try clear Dy
    try clear Dz
    try clear DA
    try clear DE
    try clear DF
    try clear DG
    try clear DK
    try clear DL
    try clear DM
    try clear DQ
    try clear DR
    try clear DS
    try clear DW
    try clear DX
    try clear DY
    try clear D2
    try clear D3
    try clear D4
    try clear D8
    try clear D9
    try clear Fa
    try clear Fe
    try clear Ff
    try clear Fg
    try clear Fl
    try clear Fm
    try clear Fn
    try clear Fr
    try clear Fs
    try clear Ft
    try clear Fx
    try clear Fy
    try clear Fz
    try clear FD
    try clear FE
    try clear FF
    try clear FJ
    try clear FK
    try clear FL
    try clear Dj
    try clear Dk
    try clear Dl
    try clear Dp
    try clear Dq
    try clear Dr
    try clear Dv
    try clear Dw
    try clear Dx
    try clear DB
    try clear DC
    try clear DD
    try clear DH
    try clear DI
    try clear DJ
    try clear DN
    try clear DO
    try clear DP
    try clear DT
    try clear DU
    try clear DV
    try clear DZ
    try clear D0
    try clear D1
    try clear D5
    try clear D6
    try clear D7
    try clear Fb
    try clear Fc
    try clear Fd
    try clear Fh
    try clear Fi
    try clear Fj
    try clear Fo
    try clear Fp
    try clear Fq
    try clear Fu
    try clear Fv
    try clear Fw
    try clear FA
    try clear FB
    try clear FC
    try clear FG
    try clear FH
    try clear FI
    try clear FM
    try clear FN
    try clear FO
    try clear p2
    obtain ⟨kq, x69_69, rfl, HA, GC, Bm, Bn, Bp, Bi, Bj, Bk, Be, Bf, Bh, Bg, Bd, Bl, Bb, HB⟩ := hcut
    have hl317000_69 := (Kd.R_reads' Bi.out).1
    rw [hl317000_69] at Bi
    (try simp only [hl317000_69])
    (try simp only [hl317000_69] at Bg)
    (try simp only [hl317000_69] at Bd)
    (try simp only [hl317000_69] at Bl)
    (try simp only [hl317000_69] at Bb)
    (try simp only [hl317000_69] at Bm)
    (try simp only [hl317000_69] at Bn)
    (try simp only [hl317000_69] at Bp)
    (try simp only [hl317000_69] at Bj)
    (try simp only [hl317000_69] at Bk)
    (try simp only [hl317000_69] at Be)
    (try simp only [hl317000_69] at Bf)
    (try simp only [hl317000_69] at Bh)
    have hl317001_69 := (Kd.R_reads' Bj.out).1
    rw [hl317001_69] at Bj
    (try simp only [hl317001_69])
    (try simp only [hl317001_69] at Bg)
    (try simp only [hl317001_69] at Bd)
    (try simp only [hl317001_69] at Bl)
    (try simp only [hl317001_69] at Bb)
    (try simp only [hl317001_69] at Bm)
    (try simp only [hl317001_69] at Bn)
    (try simp only [hl317001_69] at Bp)
    (try simp only [hl317001_69] at Bi)
    (try simp only [hl317001_69] at Bk)
    (try simp only [hl317001_69] at Be)
    (try simp only [hl317001_69] at Bf)
    (try simp only [hl317001_69] at Bh)
    have hl317002_69 := (Kd.R_reads' Bk.out).1
    rw [hl317002_69] at Bk
    (try simp only [hl317002_69])
    (try simp only [hl317002_69] at Bg)
    (try simp only [hl317002_69] at Bd)
    (try simp only [hl317002_69] at Bl)
    (try simp only [hl317002_69] at Bb)
    (try simp only [hl317002_69] at Bm)
    (try simp only [hl317002_69] at Bn)
    (try simp only [hl317002_69] at Bp)
    (try simp only [hl317002_69] at Bi)
    (try simp only [hl317002_69] at Bj)
    (try simp only [hl317002_69] at Be)
    (try simp only [hl317002_69] at Bf)
    (try simp only [hl317002_69] at Bh)
    cases kq with
   |zero => exact absurd HA.out (by simp [laws_FnExactSigsSet.j1])
   |succ kj69 =>
     have H := HA.out
     clear HA
     simp only [laws_FnExactSigsSet.j1] at H
     by_cases c101 : x69_69 = true
     ·subst c101
      have H1 : (some false) = some r := by rw [if_pos rfl] at H;exact H
      clear H
      have H := H1
      clear H1
      exact absurd ((Option.some.inj H).trans hT_.out) (by decide)
     replace c101 := Bool.eq_false_iff.mpr c101
     subst c101
     have H1 : ((laws_markSigs.f kj69 t317 t320 t323 1).bind fun bt344 => ((laws_heldSigs.f kj69 bt344.2.1 bt344.2.2.1 bt344.2.2.2 1).bind fun t348 => (if t348 < 0 then (some false) else (if t348 = bt344.1 then ((laws_toSigs.f kj69 l0_0 l0_1 l0_2).bind fun bt349 => ((impl_SigsSet.f kj69 bt349.1 bt349.2.1 bt349.2.2 a1 a2).bind fun bt358 => ((laws_eqSigs.f kj69 bt358.1 bt358.2.1 bt358.2.2.1 t296 t299 t302).bind fun t369 => (if t369 = true then (laws_FnExactSigsSet.j2 kj69 bt344.1 (bt358.2.2.2 != t305) bt344.2.1 bt344.2.2.1 bt344.2.2.2) else (laws_FnExactSigsSet.j2 kj69 bt344.1 true bt344.2.1 bt344.2.2.1 bt344.2.2.2))))) else (some false))))) = some r := by rw [if_neg (show ¬ (false = true) by decide)] at H;exact H
     clear H
     have H := H1
     clear H1
     replace H := Option.bind_eq_some_iff.mp H
     obtain ⟨⟨t344, t345, t346, t347⟩, A1020, H⟩ := H
     replace H : ((laws_heldSigs.f kj69 t345 t346 t347 1).bind fun t348 => (if t348 < 0 then (some false) else (if t348 = t344 then ((laws_toSigs.f kj69 l0_0 l0_1 l0_2).bind fun bt349 => ((impl_SigsSet.f kj69 bt349.1 bt349.2.1 bt349.2.2 a1 a2).bind fun bt358 => ((laws_eqSigs.f kj69 bt358.1 bt358.2.1 bt358.2.2.1 t296 t299 t302).bind fun t369 => (if t369 = true then (laws_FnExactSigsSet.j2 kj69 t344 (bt358.2.2.2 != t305) t345 t346 t347) else (laws_FnExactSigsSet.j2 kj69 t344 true t345 t346 t347))))) else (some false)))) = some r := H
     have A102 := Am A1020
     clear A1020
     replace H := Option.bind_eq_some_iff.mp H
     obtain ⟨t348, A1030, H⟩ := H
     replace H : (if t348 < 0 then (some false) else (if t348 = t344 then ((laws_toSigs.f kj69 l0_0 l0_1 l0_2).bind fun bt349 => ((impl_SigsSet.f kj69 bt349.1 bt349.2.1 bt349.2.2 a1 a2).bind fun bt358 => ((laws_eqSigs.f kj69 bt358.1 bt358.2.1 bt358.2.2.1 t296 t299 t302).bind fun t369 => (if t369 = true then (laws_FnExactSigsSet.j2 kj69 t344 (bt358.2.2.2 != t305) t345 t346 t347) else (laws_FnExactSigsSet.j2 kj69 t344 true t345 t346 t347))))) else (some false))) = some r := H
     have A103 := Am A1030
     clear A1030
     by_cases c104 : t348 < 0
     ·rw [if_pos c104] at H
      have c104b0 : decide (t348 < 0) = true := decide_eq_true c104
      clear c104
      exact absurd ((Option.some.inj H).trans hT_.out) (by decide)
     rw [if_neg c104] at H
     have c104b0 : decide (t348 < 0) = false := decide_eq_false c104
     clear c104
     by_cases c105 : t348 = t344
     rotate_left
     ·rw [if_neg c105] at H
      have c105b0 : (t348 == t344) = false := beq_eq_false_iff_ne.mpr c105
      have c105b1 : (t348 != t344) = true := bne_iff_ne.mpr c105
      exact absurd ((Option.some.inj H).trans hT_.out) (by decide)
     rw [if_pos c105] at H
     have c105b0 : (t348 == t344) = true := beq_iff_eq.mpr c105
     have c105b1 : (t348 != t344) = false := bne_eq_false_iff_eq.mpr c105
     clear c105
     replace H := Option.bind_eq_some_iff.mp H
     obtain ⟨⟨t349, t352, t355⟩, A1060, H⟩ := H
     replace H : ((impl_SigsSet.f kj69 t349 t352 t355 a1 a2).bind fun bt358 => ((laws_eqSigs.f kj69 bt358.1 bt358.2.1 bt358.2.2.1 t296 t299 t302).bind fun t369 => (if t369 = true then (laws_FnExactSigsSet.j2 kj69 t344 (bt358.2.2.2 != t305) t345 t346 t347) else (laws_FnExactSigsSet.j2 kj69 t344 true t345 t346 t347)))) = some r := H
     have A106 := Am A1060
     clear A1060
     replace H := Option.bind_eq_some_iff.mp H
     obtain ⟨⟨t358, t361, t364, t367⟩, A1070, H⟩ := H
     replace H : ((laws_eqSigs.f kj69 t358 t361 t364 t296 t299 t302).bind fun t369 => (if t369 = true then (laws_FnExactSigsSet.j2 kj69 t344 (t367 != t305) t345 t346 t347) else (laws_FnExactSigsSet.j2 kj69 t344 true t345 t346 t347))) = some r := H
     have A107 := Am A1070
     clear A1070
     have HC108 := Am H
     clear H
     have GK := B1.out
     have GL := BK.out
     have GM := BL.out
     have GN := BG.out
     have GO := BX.out
     have GP := BH.out
     have FP : wc.cell? ⟨Ba, 0, none⟩ = some (.slice Ao40 t317.length co40) := (bC Bb.out 0).trans rfl
     have FQ : wc.cell? ⟨Ba, 1, none⟩ = some (.slice Ao45 t320.length co45) := (bC Bb.out 1).trans rfl
     have FR : wc.cell? ⟨Ba, 2, none⟩ = some (.slice Ao46 t323.length co46) := (bC Bb.out 2).trans rfl
     have FS := bF Bb.out 0
     have FT := bF Bb.out 1
     have FU := bF Bb.out 2
     go_upto_region 25 with (first|((with_reducible refine gate_callee (f := 18) rfl ?_);refine goesL_ (some 72) rfl rfl Try.func18 (by kernel_rfl) rfl #[.agg #[.slice Ao40 t317.length co40, .slice Ao45 t320.length co45, .slice Ao46 t323.length co46], .int .i64 1] rfl (by (try simp only [lM, lC, lN]);first|done|rfl|(simp only [lD, lT];rfl)) ?_;(with_reducible refine (laws_markSigs.calls kj69 (fun k_ => some k_ = (.slice Ao40 t317.length co40 : Value).ownBlock) (.slice Ao40 t317.length co40) t317 (fun k_ => some k_ = (.slice Ao45 t320.length co45 : Value).ownBlock) (.slice Ao45 t320.length co45) t320 (fun k_ => some k_ = (.slice Ao46 t323.length co46 : Value).ownBlock) (.slice Ao46 t323.length co46) t323 1 t344 t345 t346 t347 w _ ?side1 ?side2 ?side3 ?side4 ?side5 ?side6 A102.out).mono ?_);(case side1 => repeat (first|(with_reducible first|exact HB.out|apply oA|apply pN|apply o1|refine bS ?_ Bs.out|refine bS ?_ Bu.out|refine bS ?_ Bv.out|refine bS ?_ Bw.out)|exact HB.out));(case side2 => exact Kd.R_tight rfl Be.out);(case side3 => exact fun k_ e_ => (Be.out.1 k_ e_.symm).2.2.2.2);(case side4 => exact Kd.R_tight rfl Bf.out);(case side5 => exact fun k_ e_ => (Bf.out.1 k_ e_.symm).2.2.2.2);(case side6 => exact Kd.R_tight rfl Bh.out);rintro e w113 ⟨rfl, hy0, hy1, hy2, hb, hkp⟩;refine ⟨_, rfl, ?_⟩;have n0_ := Am (rM (ok' := fun k_ => some k_ ≠ (.slice Ao27 t299.length co27 : Value).ownBlock ∧ some k_ ≠ (.slice Ao32 t340.length co32 : Value).ownBlock ∧ some k_ ≠ (.slice Ao36 t341.length co36 : Value).ownBlock ∧ some k_ ≠ (.slice Ao40 t317.length co40 : Value).ownBlock ∧ some k_ ≠ (.slice Ao45 t320.length co45 : Value).ownBlock) (Kd.R_keptB ((Kd.R_apart' Bm.out (Kd.R_typed Bh.out) (by decide))) hkp (fun k_ hk_ hs_ => Or.elim hs_ (fun e_ => (hk_.1.2.2.2.1) e_) (fun e_ => Or.elim e_ (fun e_ => (hk_.1.2.2.2.2) e_) (fun e_ => (hk_.2) e_)))) (fun k_ hk_ => ⟨hk_.1.1.1, hk_.1.1.2.1, hk_.1.1.2.2.1, hk_.1.1.2.2.2.1, hk_.1.1.2.2.2.2⟩));have n1_ := Am (rM (ok' := fun k_ => some k_ ≠ (.slice Ao24 t296.length co24 : Value).ownBlock ∧ some k_ ≠ (.slice Ao32 t340.length co32 : Value).ownBlock ∧ some k_ ≠ (.slice Ao36 t341.length co36 : Value).ownBlock ∧ some k_ ≠ (.slice Ao40 t317.length co40 : Value).ownBlock ∧ some k_ ≠ (.slice Ao45 t320.length co45 : Value).ownBlock) (Kd.R_keptB ((Kd.R_apart' Bn.out (Kd.R_typed Bh.out) (by decide))) hkp (fun k_ hk_ hs_ => Or.elim hs_ (fun e_ => (hk_.1.2.2.2.1) e_) (fun e_ => Or.elim e_ (fun e_ => (hk_.1.2.2.2.2) e_) (fun e_ => (hk_.2) e_)))) (fun k_ hk_ => ⟨hk_.1.1.1, hk_.1.1.2.1, hk_.1.1.2.2.1, hk_.1.1.2.2.2.1, hk_.1.1.2.2.2.2⟩));have n2_ := Am (rM (ok' := fun k_ => some k_ ≠ (.slice Ao37 t342.length co37 : Value).ownBlock ∧ some k_ ≠ (.slice Ao46 t323.length co46 : Value).ownBlock) (Kd.R_keptB ((Kd.R_apart' (Kd.R_apart' Bp.out (Kd.R_typed Be.out) (by decide)) (Kd.R_typed Bf.out) (by decide))) hkp (fun k_ hk_ hs_ => Or.elim hs_ (fun e_ => (hk_.1.2) e_) (fun e_ => Or.elim e_ (fun e_ => (hk_.2) e_) (fun e_ => (hk_.1.1.2) e_)))) (fun k_ hk_ => ⟨hk_.1.1.1.1, hk_.1.1.1.2⟩));have n3_ := Am (rM (ok' := fun k_ => some k_ ≠ (.slice Ao24 t296.length co24 : Value).ownBlock ∧ some k_ ≠ (.slice Ao27 t299.length co27 : Value).ownBlock ∧ some k_ ≠ (.slice Ao36 t341.length co36 : Value).ownBlock ∧ some k_ ≠ (.slice Ao40 t317.length co40 : Value).ownBlock ∧ some k_ ≠ (.slice Ao45 t320.length co45 : Value).ownBlock) (Kd.R_keptB ((Kd.R_apart' Bi.out (Kd.R_typed Bh.out) (by decide))) hkp (fun k_ hk_ hs_ => Or.elim hs_ (fun e_ => (hk_.1.2.2.2.1) e_) (fun e_ => Or.elim e_ (fun e_ => (hk_.1.2.2.2.2) e_) (fun e_ => (hk_.2) e_)))) (fun k_ hk_ => ⟨hk_.1.1.1, hk_.1.1.2.1, hk_.1.1.2.2.1, hk_.1.1.2.2.2.1, hk_.1.1.2.2.2.2⟩));have n4_ := Am (rM (ok' := fun k_ => some k_ ≠ (.slice Ao24 t296.length co24 : Value).ownBlock ∧ some k_ ≠ (.slice Ao27 t299.length co27 : Value).ownBlock ∧ some k_ ≠ (.slice Ao32 t340.length co32 : Value).ownBlock ∧ some k_ ≠ (.slice Ao40 t317.length co40 : Value).ownBlock ∧ some k_ ≠ (.slice Ao45 t320.length co45 : Value).ownBlock) (Kd.R_keptB ((Kd.R_apart' Bj.out (Kd.R_typed Bh.out) (by decide))) hkp (fun k_ hk_ hs_ => Or.elim hs_ (fun e_ => (hk_.1.2.2.2.1) e_) (fun e_ => Or.elim e_ (fun e_ => (hk_.1.2.2.2.2) e_) (fun e_ => (hk_.2) e_)))) (fun k_ hk_ => ⟨hk_.1.1.1, hk_.1.1.2.1, hk_.1.1.2.2.1, hk_.1.1.2.2.2.1, hk_.1.1.2.2.2.2⟩));have n5_ := Am (rM (ok' := fun k_ => some k_ ≠ (.slice Ao28 t302.length co28 : Value).ownBlock ∧ some k_ ≠ (.slice Ao46 t323.length co46 : Value).ownBlock) (Kd.R_keptB ((Kd.R_apart' (Kd.R_apart' Bk.out (Kd.R_typed Be.out) (by decide)) (Kd.R_typed Bf.out) (by decide))) hkp (fun k_ hk_ hs_ => Or.elim hs_ (fun e_ => (hk_.1.2) e_) (fun e_ => Or.elim e_ (fun e_ => (hk_.2) e_) (fun e_ => (hk_.1.1.2) e_)))) (fun k_ hk_ => ⟨hk_.1.1.1.1, hk_.1.1.1.2⟩));have n6_ := Am (Kd.R_reok rfl hy0 (fun k_ e_ => Be.out.1 k_ e_));have n7_ := Am (Kd.R_reok rfl hy1 (fun k_ e_ => Bf.out.1 k_ e_));have n8_ := Am (Kd.R_reok rfl hy2 (fun k_ e_ => Bh.out.1 k_ e_));have n9_ := Am (blk_kept (bL Bg.out) hkp (fun hs_ => Or.elim hs_ (fun e_ => (fun e_ => (Kd.R_ne Be.out Bg.out (by decide)) e_) e_) (fun e_ => Or.elim e_ (fun e_ => (fun e_ => (Kd.R_ne Bf.out Bg.out (by decide)) e_) e_) (fun e_ => (fun e_ => (Kd.R_ne Bh.out Bg.out (by decide)) e_) e_))));have n10_ := Am (blk_kept (bL Bd.out) hkp (fun hs_ => Or.elim hs_ (fun e_ => (fun e_ => (Kd.R_ne Be.out Bd.out (by decide)) e_) e_) (fun e_ => Or.elim e_ (fun e_ => (fun e_ => (Kd.R_ne Bf.out Bd.out (by decide)) e_) e_) (fun e_ => (fun e_ => (Kd.R_ne Bh.out Bd.out (by decide)) e_) e_))));have n11_ := Am (blk_kept (bL Bl.out) hkp (fun hs_ => Or.elim hs_ (fun e_ => (fun e_ => (Kd.R_ne Be.out Bl.out (by decide)) e_) e_) (fun e_ => Or.elim e_ (fun e_ => (fun e_ => (Kd.R_ne Bf.out Bl.out (by decide)) e_) e_) (fun e_ => (fun e_ => (Kd.R_ne Bh.out Bl.out (by decide)) e_) e_))));have n12_ := Am (blk_kept (bL Bb.out) hkp (fun hs_ => Or.elim hs_ (fun e_ => (fun e_ => (Kd.R_ne Be.out Bb.out (by decide)) e_) e_) (fun e_ => Or.elim e_ (fun e_ => (fun e_ => (Kd.R_ne Bf.out Bb.out (by decide)) e_) e_) (fun e_ => (fun e_ => (Kd.R_ne Bh.out Bb.out (by decide)) e_) e_))));have n13_ := Am (hb);clear Bm Bn Bp Bi Bj Bk Be Bf Bh Bg Bd Bl Bb HB;revert n0_ n1_ n2_ n3_ n4_ n5_ n6_ n7_ n8_ n9_ n10_ n11_ n12_ n13_;intro Bm Bn Bp Bi Bj Bk Be Bf Bh Bg Bd Bl Bb HB;(try clear hb);(try clear hkp);(try clear hy0);(try clear hy1);(try clear hy2);have FV : w113.cell? ⟨Ba, 0, none⟩ = some (.slice Ao40 t317.length co40) := (bC Bb.out 0).trans rfl;have FW : w113.cell? ⟨Ba, 1, none⟩ = some (.slice Ao45 t320.length co45) := (bC Bb.out 1).trans rfl;have FX : w113.cell? ⟨Ba, 2, none⟩ = some (.slice Ao46 t323.length co46) := (bC Bb.out 2).trans rfl;have FY := bF Bb.out 0;have FZ := bF Bb.out 1;have F0 := bF Bb.out 2)|((with_reducible refine gate_callee (f := 19) rfl ?_);refine goesL_ (some 75) rfl rfl Try.func19 (by kernel_rfl) rfl #[.agg #[.slice Ao40 t345.length co40, .slice Ao45 t346.length co45, .slice Ao46 t347.length co46], .int .i64 1] rfl (by (try simp only [lM, lC, lN]);first|done|(rw [show t345.length = t317.length from (Kd.R_reads' Be.out).1.symm, show t346.length = t320.length from (Kd.R_reads' Bf.out).1.symm, show t347.length = t323.length from (Kd.R_reads' Bh.out).1.symm] <;> rfl)|rfl|(simp only [lD, lT];rfl)) ?_;(with_reducible refine (laws_heldSigs.calls kj69 _ _ t345 _ _ t346 _ _ t347 1 t348 _ ?side1 ?side2 ?side3 ?side4 ?side5 ?side6 A103.out).mono ?_);(case side1 => repeat (first|exact (Kd.R_reads' Be.out).2.2|(with_reducible refine cA ?_ _)|(with_reducible refine cN ?_ _)|(with_reducible refine cD ?_)));(case side2 => rw [show t345.length = t317.length from (Kd.R_reads' Be.out).1.symm];exact (Kd.R_reads' Be.out).2.1);(case side3 => repeat (first|exact (Kd.R_reads' Bf.out).2.2|(with_reducible refine cA ?_ _)|(with_reducible refine cN ?_ _)|(with_reducible refine cD ?_)));(case side4 => rw [show t346.length = t320.length from (Kd.R_reads' Bf.out).1.symm];exact (Kd.R_reads' Bf.out).2.1);(case side5 => repeat (first|exact (Kd.R_reads' Bh.out).2.2|(with_reducible refine cA ?_ _)|(with_reducible refine cN ?_ _)|(with_reducible refine cD ?_)));(case side6 => rw [show t347.length = t323.length from (Kd.R_reads' Bh.out).1.symm];exact (Kd.R_reads' Bh.out).2.1);rintro e w115 ⟨rfl, hb⟩;refine ⟨_, rfl, ?_⟩;have n0_ := Am (rB (rL Bm.out) hb);have n1_ := Am (rB (rL Bn.out) hb);have n2_ := Am (rB (rL Bp.out) hb);have n3_ := Am (rB (rL Bi.out) hb);have n4_ := Am (rB (rL Bj.out) hb);have n5_ := Am (rB (rL Bk.out) hb);have n6_ := Am (rB (rL Be.out) hb);have n7_ := Am (rB (rL Bf.out) hb);have n8_ := Am (rB (rL Bh.out) hb);have n9_ := Am (bB (g := Bt) (o := .cells #[.slice A0_0 l0_0.length c0_0, .slice A0_1 l0_1.length c0_1, .slice A0_2 l0_2.length c0_2] 25 (0, 0)) (bL Bg.out) hb);have n10_ := Am (bB (g := Bq) (o := .cells #[.slice Ao24 t296.length co24, .slice Ao27 t299.length co27, .slice Ao28 t302.length co28] 27 (0, 0)) (bL Bd.out) hb);have n11_ := Am (bB (g := Bo) (o := .cells #[.slice Ao32 t340.length co32, .slice Ao36 t341.length co36, .slice Ao37 t342.length co37] 27 (0, 0)) (bL Bl.out) hb);have n12_ := Am (bB (g := Ba) (o := .cells #[.slice Ao40 t317.length co40, .slice Ao45 t320.length co45, .slice Ao46 t323.length co46] 27 (0, 0)) (bL Bb.out) hb);have n13_ := Am (bP (by repeat (first|(with_reducible first|exact HB.out|apply oA|apply pN|apply o1|refine bS ?_ Bs.out|refine bS ?_ Bu.out|refine bS ?_ Bv.out|refine bS ?_ Bw.out)|exact HB.out)) hb);clear Bm Bn Bp Bi Bj Bk Be Bf Bh Bg Bd Bl Bb HB;revert n0_ n1_ n2_ n3_ n4_ n5_ n6_ n7_ n8_ n9_ n10_ n11_ n12_ n13_;intro Bm Bn Bp Bi Bj Bk Be Bf Bh Bg Bd Bl Bb HB;(try clear hb);(try clear hb2);(try clear hk);(try clear hi);have GQ := BI.out;have GR := BV.out;have GS := B9.out;have GT := Db.out;have F1 : w115.cell? ⟨Bt, 0, none⟩ = some (.slice A0_0 l0_0.length c0_0) := (bC Bg.out 0).trans rfl;have F2 : w115.cell? ⟨Bt, 1, none⟩ = some (.slice A0_1 l0_1.length c0_1) := (bC Bg.out 1).trans rfl;have F3 : w115.cell? ⟨Bt, 2, none⟩ = some (.slice A0_2 l0_2.length c0_2) := (bC Bg.out 2).trans rfl;have F4 := bF Bg.out 0;have F5 := bF Bg.out 1;have F6 := bF Bg.out 2)|((with_reducible refine gate_callee (f := 15) rfl ?_);refine goesL_ (some 83) rfl rfl Try.func15 (by kernel_rfl) rfl #[.agg #[.slice A0_0 l0_0.length c0_0, .slice A0_1 l0_1.length c0_1, .slice A0_2 l0_2.length c0_2]] rfl (by (try simp only [lM, lC, lN]);first|done|rfl|(simp only [lD, lT];rfl)) ?_;(with_reducible refine (laws_toSigs.calls kj69 _ _ l0_0 _ _ l0_1 _ _ l0_2 t349 t352 t355 _ ?side1 ?side2 ?side3 ?side4 ?side5 ?side6 A106.out).mono ?_);(case side1 => repeat (first|exact (cB HR0_0.out HB.out)|(with_reducible refine cA ?_ _)|(with_reducible refine cN ?_ _)|(with_reducible refine cD ?_)));(case side2 => exact HC0_0.out);(case side3 => repeat (first|exact (cB HR0_1.out HB.out)|(with_reducible refine cA ?_ _)|(with_reducible refine cN ?_ _)|(with_reducible refine cD ?_)));(case side4 => exact HC0_1.out);(case side5 => repeat (first|exact (cB HR0_2.out HB.out)|(with_reducible refine cA ?_ _)|(with_reducible refine cN ?_ _)|(with_reducible refine cD ?_)));(case side6 => exact HC0_2.out);rintro e w119 ⟨v350, v353, v356, rfl, ho0, ho1, ho2, hb⟩;refine ⟨_, rfl, ?_⟩;have n0_ := Am (rM (Kd.R_told (Kd.R_told (Kd.R_old (rL Bm.out) hb) (Kd.R_base ho0)) (Kd.R_base ho1)) (fun _ h_ => h_.1));have n1_ := Am (rM (Kd.R_told (Kd.R_told (Kd.R_old (rL Bn.out) hb) (Kd.R_base ho0)) (Kd.R_base ho1)) (fun _ h_ => h_.1));have n2_ := Am (Kd.R_elder' (rL Bp.out) (Kd.R_base ho2) hb);have n3_ := Am (rM (Kd.R_told (Kd.R_told (Kd.R_old (rL Bi.out) hb) (Kd.R_base ho0)) (Kd.R_base ho1)) (fun _ h_ => h_.1));have n4_ := Am (rM (Kd.R_told (Kd.R_told (Kd.R_old (rL Bj.out) hb) (Kd.R_base ho0)) (Kd.R_base ho1)) (fun _ h_ => h_.1));have n5_ := Am (Kd.R_elder' (rL Bk.out) (Kd.R_base ho2) hb);have n6_ := Am (rM (Kd.R_told (Kd.R_told (Kd.R_old (rL Be.out) hb) (Kd.R_base ho0)) (Kd.R_base ho1)) (fun _ h_ => h_.1));have n7_ := Am (rM (Kd.R_told (Kd.R_told (Kd.R_old (rL Bf.out) hb) (Kd.R_base ho0)) (Kd.R_base ho1)) (fun _ h_ => h_.1));have n8_ := Am (Kd.R_elder' (rL Bh.out) (Kd.R_base ho2) hb);have n9_ := Am (Kd.R_lower (Kd.R_new' (Kd.R_new' (Kd.R_new' (Kd.R_new' (Kd.R_new' (Kd.R_new' ho0 (Kd.R_lt (rL Bm.out))) (Kd.R_lt (rL Bn.out))) (Kd.R_lt (rL Bi.out))) (Kd.R_lt (rL Bj.out))) (Kd.R_lt (rL Be.out))) (Kd.R_lt (rL Bf.out))) (bZ (by repeat (first|(with_reducible first|exact HB.out|apply oA|apply pN|apply o1|refine bS ?_ Bs.out|refine bS ?_ Bu.out|refine bS ?_ Bv.out|refine bS ?_ Bw.out)|exact HB.out))));have n10_ := Am (Kd.R_lower (Kd.R_new' (Kd.R_new' (Kd.R_new' (Kd.R_new' (Kd.R_new' (Kd.R_new' ho1 (Kd.R_lt (rL Bm.out))) (Kd.R_lt (rL Bn.out))) (Kd.R_lt (rL Bi.out))) (Kd.R_lt (rL Bj.out))) (Kd.R_lt (rL Be.out))) (Kd.R_lt (rL Bf.out))) (bZ (by repeat (first|(with_reducible first|exact HB.out|apply oA|apply pN|apply o1|refine bS ?_ Bs.out|refine bS ?_ Bu.out|refine bS ?_ Bv.out|refine bS ?_ Bw.out)|exact HB.out))));have n11_ := Am (Kd.R_lower (Kd.R_new' (Kd.R_new' (Kd.R_new' ho2 (Kd.R_lt (rL Bp.out))) (Kd.R_lt (rL Bk.out))) (Kd.R_lt (rL Bh.out))) (bZ (by repeat (first|(with_reducible first|exact HB.out|apply oA|apply pN|apply o1|refine bS ?_ Bs.out|refine bS ?_ Bu.out|refine bS ?_ Bv.out|refine bS ?_ Bw.out)|exact HB.out))));have n12_ := Am (bB (g := Bt) (o := .cells #[.slice A0_0 l0_0.length c0_0, .slice A0_1 l0_1.length c0_1, .slice A0_2 l0_2.length c0_2] 25 (0, 0)) (bL Bg.out) hb);have n13_ := Am (bB (g := Bq) (o := .cells #[.slice Ao24 t296.length co24, .slice Ao27 t299.length co27, .slice Ao28 t302.length co28] 27 (0, 0)) (bL Bd.out) hb);have n14_ := Am (bB (g := Bo) (o := .cells #[.slice Ao32 t340.length co32, .slice Ao36 t341.length co36, .slice Ao37 t342.length co37] 27 (0, 0)) (bL Bl.out) hb);have n15_ := Am (bB (g := Ba) (o := .cells #[.slice Ao40 t317.length co40, .slice Ao45 t320.length co45, .slice Ao46 t323.length co46] 27 (0, 0)) (bL Bb.out) hb);have n16_ := Am (bP (by repeat (first|(with_reducible first|exact HB.out|apply oA|apply pN|apply o1|refine bS ?_ Bs.out|refine bS ?_ Bu.out|refine bS ?_ Bv.out|refine bS ?_ Bw.out)|exact HB.out)) hb);clear Bm Bn Bp Bi Bj Bk Be Bf Bh Bg Bd Bl Bb HB;revert n0_ n1_ n2_ n3_ n4_ n5_ n6_ n7_ n8_ n9_ n10_ n11_ n12_ n13_ n14_ n15_ n16_;intro Bm Bn Bp Bi Bj Bk Be Bf Bh BM BN BR Bg Bd Bl Bb HB;(try clear hb);(try clear hb2);(try clear hk);(try clear hi);(try clear ho0);(try clear ho1);(try clear ho2);obtain ⟨Ao120, co120, eo120⟩ := Kd.R_slice BM.out;subst eo120;obtain ⟨Ao121, co121, eo121⟩ := Kd.R_slice BN.out;subst eo121;obtain ⟨Ao122, co122, eo122⟩ := Kd.R_slice BR.out;subst eo122)|((with_reducible refine gate_callee (f := 26) rfl ?_);refine goesL_ (some 86) rfl rfl Try.func26 (by kernel_rfl) rfl #[.agg #[.slice Ao120 t349.length co120, .slice Ao121 t352.length co121, .slice Ao122 t355.length co122], .int .i64 a1, .int .i64 a2] rfl (by (try simp only [lM, lC, lN]);first|done|rfl|(simp only [lD, lT];rfl)) ?_;(with_reducible refine (impl_SigsSet.calls kj69 _ _ t349 _ _ t352 _ _ t355 a1 a2 t358 t361 t364 t367 _ ?side1 ?side2 ?side3 ?side4 ?side5 ?side6 A107.out).mono ?_);(case side1 => repeat (first|exact (Kd.R_reads' BM.out).2.2|(with_reducible refine cA ?_ _)|(with_reducible refine cN ?_ _)|(with_reducible refine cD ?_)));(case side2 => exact (Kd.R_reads' BM.out).2.1);(case side3 => repeat (first|exact (Kd.R_reads' BN.out).2.2|(with_reducible refine cA ?_ _)|(with_reducible refine cN ?_ _)|(with_reducible refine cD ?_)));(case side4 => exact (Kd.R_reads' BN.out).2.1);(case side5 => repeat (first|exact (Kd.R_reads' BR.out).2.2|(with_reducible refine cA ?_ _)|(with_reducible refine cN ?_ _)|(with_reducible refine cD ?_)));(case side6 => exact (Kd.R_reads' BR.out).2.1);rintro e w123 ⟨v359, v362, v365, rfl, ho0, ho1, ho2, hb⟩;refine ⟨_, rfl, ?_⟩;have n0_ := Am (rM (Kd.R_told (Kd.R_told (Kd.R_old (rL Bm.out) hb) (Kd.R_base ho0)) (Kd.R_base ho1)) (fun _ h_ => h_.1));have n1_ := Am (rM (Kd.R_told (Kd.R_told (Kd.R_old (rL Bn.out) hb) (Kd.R_base ho0)) (Kd.R_base ho1)) (fun _ h_ => h_.1));have n2_ := Am (Kd.R_elder' (rL Bp.out) (Kd.R_base ho2) hb);have n3_ := Am (rM (Kd.R_told (Kd.R_told (Kd.R_old (rL Bi.out) hb) (Kd.R_base ho0)) (Kd.R_base ho1)) (fun _ h_ => h_.1));have n4_ := Am (rM (Kd.R_told (Kd.R_told (Kd.R_old (rL Bj.out) hb) (Kd.R_base ho0)) (Kd.R_base ho1)) (fun _ h_ => h_.1));have n5_ := Am (Kd.R_elder' (rL Bk.out) (Kd.R_base ho2) hb);have n6_ := Am (rM (Kd.R_told (Kd.R_told (Kd.R_old (rL Be.out) hb) (Kd.R_base ho0)) (Kd.R_base ho1)) (fun _ h_ => h_.1));have n7_ := Am (rM (Kd.R_told (Kd.R_told (Kd.R_old (rL Bf.out) hb) (Kd.R_base ho0)) (Kd.R_base ho1)) (fun _ h_ => h_.1));have n8_ := Am (Kd.R_elder' (rL Bh.out) (Kd.R_base ho2) hb);have n9_ := Am (rM (Kd.R_told (Kd.R_told (Kd.R_old (rL BM.out) hb) (Kd.R_base ho0)) (Kd.R_base ho1)) (fun _ h_ => h_.1));have n10_ := Am (rM (Kd.R_told (Kd.R_told (Kd.R_old (rL BN.out) hb) (Kd.R_base ho0)) (Kd.R_base ho1)) (fun _ h_ => h_.1));have n11_ := Am (Kd.R_elder' (rL BR.out) (Kd.R_base ho2) hb);have n12_ := Am (Kd.R_lower (Kd.R_new' (Kd.R_new' (Kd.R_new' (Kd.R_new' (Kd.R_new' (Kd.R_new' (Kd.R_new' (Kd.R_new' ho0 (Kd.R_lt (rL Bm.out))) (Kd.R_lt (rL Bn.out))) (Kd.R_lt (rL Bi.out))) (Kd.R_lt (rL Bj.out))) (Kd.R_lt (rL Be.out))) (Kd.R_lt (rL Bf.out))) (Kd.R_lt (rL BM.out))) (Kd.R_lt (rL BN.out))) (bZ (by repeat (first|(with_reducible first|exact HB.out|apply oA|apply pN|apply o1|refine bS ?_ Bs.out|refine bS ?_ Bu.out|refine bS ?_ Bv.out|refine bS ?_ Bw.out)|exact HB.out))));have n13_ := Am (Kd.R_lower (Kd.R_new' (Kd.R_new' (Kd.R_new' (Kd.R_new' (Kd.R_new' (Kd.R_new' (Kd.R_new' (Kd.R_new' ho1 (Kd.R_lt (rL Bm.out))) (Kd.R_lt (rL Bn.out))) (Kd.R_lt (rL Bi.out))) (Kd.R_lt (rL Bj.out))) (Kd.R_lt (rL Be.out))) (Kd.R_lt (rL Bf.out))) (Kd.R_lt (rL BM.out))) (Kd.R_lt (rL BN.out))) (bZ (by repeat (first|(with_reducible first|exact HB.out|apply oA|apply pN|apply o1|refine bS ?_ Bs.out|refine bS ?_ Bu.out|refine bS ?_ Bv.out|refine bS ?_ Bw.out)|exact HB.out))));have n14_ := Am (Kd.R_lower (Kd.R_new' (Kd.R_new' (Kd.R_new' (Kd.R_new' ho2 (Kd.R_lt (rL Bp.out))) (Kd.R_lt (rL Bk.out))) (Kd.R_lt (rL Bh.out))) (Kd.R_lt (rL BR.out))) (bZ (by repeat (first|(with_reducible first|exact HB.out|apply oA|apply pN|apply o1|refine bS ?_ Bs.out|refine bS ?_ Bu.out|refine bS ?_ Bv.out|refine bS ?_ Bw.out)|exact HB.out))));have n15_ := Am (bB (g := Bt) (o := .cells #[.slice A0_0 l0_0.length c0_0, .slice A0_1 l0_1.length c0_1, .slice A0_2 l0_2.length c0_2] 25 (0, 0)) (bL Bg.out) hb);have n16_ := Am (bB (g := Bq) (o := .cells #[.slice Ao24 t296.length co24, .slice Ao27 t299.length co27, .slice Ao28 t302.length co28] 27 (0, 0)) (bL Bd.out) hb);have n17_ := Am (bB (g := Bo) (o := .cells #[.slice Ao32 t340.length co32, .slice Ao36 t341.length co36, .slice Ao37 t342.length co37] 27 (0, 0)) (bL Bl.out) hb);have n18_ := Am (bB (g := Ba) (o := .cells #[.slice Ao40 t317.length co40, .slice Ao45 t320.length co45, .slice Ao46 t323.length co46] 27 (0, 0)) (bL Bb.out) hb);have n19_ := Am (bP (by repeat (first|(with_reducible first|exact HB.out|apply oA|apply pN|apply o1|refine bS ?_ Bs.out|refine bS ?_ Bu.out|refine bS ?_ Bv.out|refine bS ?_ Bw.out)|exact HB.out)) hb);clear Bm Bn Bp Bi Bj Bk Be Bf Bh BM BN BR Bg Bd Bl Bb HB;revert n0_ n1_ n2_ n3_ n4_ n5_ n6_ n7_ n8_ n9_ n10_ n11_ n12_ n13_ n14_ n15_ n16_ n17_ n18_ n19_;intro Bm Bn Bp Bi Bj Bk Be Bf Bh BM BN BR BS BT BU Bg Bd Bl Bb HB;(try clear hb);(try clear hb2);(try clear hk);(try clear hi);(try clear ho0);(try clear ho1);(try clear ho2))|((with_reducible refine gate_dst (N := 16) rfl ?_);refine box_event ?hg (N := 16) ?hd (cs := #[.slice none 0 0, .slice none 0 0, .slice none 0 0]) (t := 27) ?hr ?_;(case hd => rfl);(case hg => rfl);(case hr => first|(go_simp;done)|(go_simp;rfl));intro Bc hg w124 hbox hb;have n0_ := Am (rB (rL Bm.out) hb);have n1_ := Am (rB (rL Bn.out) hb);have n2_ := Am (rB (rL Bp.out) hb);have n3_ := Am (rB (rL Bi.out) hb);have n4_ := Am (rB (rL Bj.out) hb);have n5_ := Am (rB (rL Bk.out) hb);have n6_ := Am (rB (rL Be.out) hb);have n7_ := Am (rB (rL Bf.out) hb);have n8_ := Am (rB (rL Bh.out) hb);have n9_ := Am (rB (rL BM.out) hb);have n10_ := Am (rB (rL BN.out) hb);have n11_ := Am (rB (rL BR.out) hb);have n12_ := Am (rB (rL BS.out) hb);have n13_ := Am (rB (rL BT.out) hb);have n14_ := Am (rB (rL BU.out) hb);have n15_ := Am (bB (g := Bt) (o := .cells #[.slice A0_0 l0_0.length c0_0, .slice A0_1 l0_1.length c0_1, .slice A0_2 l0_2.length c0_2] 25 (0, 0)) (bL Bg.out) hb);have n16_ := Am (bB (g := Bq) (o := .cells #[.slice Ao24 t296.length co24, .slice Ao27 t299.length co27, .slice Ao28 t302.length co28] 27 (0, 0)) (bL Bd.out) hb);have n17_ := Am (bB (g := Bo) (o := .cells #[.slice Ao32 t340.length co32, .slice Ao36 t341.length co36, .slice Ao37 t342.length co37] 27 (0, 0)) (bL Bl.out) hb);have n18_ := Am (bB (g := Ba) (o := .cells #[.slice Ao40 t317.length co40, .slice Ao45 t320.length co45, .slice Ao46 t323.length co46] 27 (0, 0)) (bL Bb.out) hb);have n19_ := Am (bP (by repeat (first|(with_reducible first|exact HB.out|apply oA|apply pN|apply o1|refine bS ?_ Bs.out|refine bS ?_ Bu.out|refine bS ?_ Bv.out|refine bS ?_ Bw.out)|exact HB.out)) hb);have n20_ := Am (hbox);have n21_ := Am ((by rw [hg];exact (bZ (by repeat (first|(with_reducible first|exact HB.out|apply oA|apply pN|apply o1|refine bS ?_ Bs.out|refine bS ?_ Bu.out|refine bS ?_ Bv.out|refine bS ?_ Bw.out)|exact HB.out))) : w.heap.size ≤ Bc));have n22_ := Am ((by rw [hg];exact (bZ (by repeat (first|(with_reducible first|exact HB.out|apply oA|apply pN|apply o1|refine bS ?_ Bs.out|refine bS ?_ Bu.out|refine bS ?_ Bv.out|refine bS ?_ Bw.out)|exact HB.out))) : w.heap.size ≤ Bc));have n23_ := Am ((by rw [hg];exact Nat.ne_of_lt (blk_lt (g := Bt) (o := .cells #[.slice A0_0 l0_0.length c0_0, .slice A0_1 l0_1.length c0_1, .slice A0_2 l0_2.length c0_2] 25 (0, 0)) (bL Bg.out)) : Bt ≠ Bc));have n24_ := Am ((by rw [hg];exact Nat.ne_of_gt (blk_lt (g := Bt) (o := .cells #[.slice A0_0 l0_0.length c0_0, .slice A0_1 l0_1.length c0_1, .slice A0_2 l0_2.length c0_2] 25 (0, 0)) (bL Bg.out)) : Bc ≠ Bt));have n25_ := Am ((by rw [hg];exact Nat.ne_of_lt (blk_lt (g := Bq) (o := .cells #[.slice Ao24 t296.length co24, .slice Ao27 t299.length co27, .slice Ao28 t302.length co28] 27 (0, 0)) (bL Bd.out)) : Bq ≠ Bc));have n26_ := Am ((by rw [hg];exact Nat.ne_of_gt (blk_lt (g := Bq) (o := .cells #[.slice Ao24 t296.length co24, .slice Ao27 t299.length co27, .slice Ao28 t302.length co28] 27 (0, 0)) (bL Bd.out)) : Bc ≠ Bq));have n27_ := Am ((by rw [hg];exact Nat.ne_of_lt (blk_lt (g := Bo) (o := .cells #[.slice Ao32 t340.length co32, .slice Ao36 t341.length co36, .slice Ao37 t342.length co37] 27 (0, 0)) (bL Bl.out)) : Bo ≠ Bc));have n28_ := Am ((by rw [hg];exact Nat.ne_of_gt (blk_lt (g := Bo) (o := .cells #[.slice Ao32 t340.length co32, .slice Ao36 t341.length co36, .slice Ao37 t342.length co37] 27 (0, 0)) (bL Bl.out)) : Bc ≠ Bo));have n29_ := Am ((by rw [hg];exact Nat.ne_of_lt (blk_lt (g := Ba) (o := .cells #[.slice Ao40 t317.length co40, .slice Ao45 t320.length co45, .slice Ao46 t323.length co46] 27 (0, 0)) (bL Bb.out)) : Ba ≠ Bc));have n30_ := Am ((by rw [hg];exact Nat.ne_of_gt (blk_lt (g := Ba) (o := .cells #[.slice Ao40 t317.length co40, .slice Ao45 t320.length co45, .slice Ao46 t323.length co46] 27 (0, 0)) (bL Bb.out)) : Bc ≠ Ba));clear Bm Bn Bp Bi Bj Bk Be Bf Bh BM BN BR BS BT BU Bg Bd Bl Bb HB;revert n0_ n1_ n2_ n3_ n4_ n5_ n6_ n7_ n8_ n9_ n10_ n11_ n12_ n13_ n14_ n15_ n16_ n17_ n18_ n19_ n20_ n21_ n22_ n23_ n24_ n25_ n26_ n27_ n28_ n29_ n30_;intro Bm Bn Bp Bi Bj Bk Be Bf Bh BM BN BR BS BT BU Bg Bd Bl Bb HB Br MB Df B6 Dc B7 Dd B8 De B2 Da;clear hb hbox hg;obtain ⟨Ao125, co125, eo125⟩ := Kd.R_slice BS.out;subst eo125;have GU := Dc.out;have GV := B6.out;have GW := Dd.out;have GX := B7.out;have GY := De.out;have GZ := B8.out;have G0 := Da.out;have G1 := B2.out;have F7 : w124.cell? ⟨Bc, 0, none⟩ = some (.slice none 0 0) := (bC Br.out 0).trans rfl;have F8 : w124.cell? ⟨Bc, 1, none⟩ = some (.slice none 0 0) := (bC Br.out 1).trans rfl;have F9 : w124.cell? ⟨Bc, 2, none⟩ = some (.slice none 0 0) := (bC Br.out 2).trans rfl;have Ga := bF Br.out 0;have Gb := bF Br.out 1;have Gc := bF Br.out 2;obtain ⟨Ao131, co131, eo131⟩ := Kd.R_slice BT.out;subst eo131;obtain ⟨Ao132, co132, eo132⟩ := Kd.R_slice BU.out;subst eo132))
     (try simp only [Act.put, lA, lZ, lS])
     go_cut [97] (fun v97 wc => ∃ (kq : Nat) (x97_107 : Bool), v97 = .bool x97_107 ∧ Aside0 (laws_FnExactSigsSet.j2 kq t344 x97_107 t345 t346 t347 = some r) ∧ Aside0 (kq ≤ kj69) ∧ Aside0 (Kd.R Kd.bool 4 wc w.heap.size (fun k_ => some k_ ≠ ((.slice Ao27 t299.length co27) : Value).ownBlock ∧ some k_ ≠ ((.slice Ao32 t340.length co32) : Value).ownBlock ∧ some k_ ≠ ((.slice Ao36 t341.length co36) : Value).ownBlock ∧ some k_ ≠ ((.slice Ao40 t317.length co40) : Value).ownBlock ∧ some k_ ≠ ((.slice Ao45 t320.length co45) : Value).ownBlock ∧ some k_ ≠ ((.slice Ao125 t358.length co125) : Value).ownBlock ∧ some k_ ≠ ((.slice Ao131 t361.length co131) : Value).ownBlock) (.slice Ao24 t296.length co24) t296) ∧ Aside0 (Kd.R Kd.bool 4 wc w.heap.size (fun k_ => some k_ ≠ ((.slice Ao24 t296.length co24) : Value).ownBlock ∧ some k_ ≠ ((.slice Ao32 t340.length co32) : Value).ownBlock ∧ some k_ ≠ ((.slice Ao36 t341.length co36) : Value).ownBlock ∧ some k_ ≠ ((.slice Ao40 t317.length co40) : Value).ownBlock ∧ some k_ ≠ ((.slice Ao45 t320.length co45) : Value).ownBlock ∧ some k_ ≠ ((.slice Ao125 t358.length co125) : Value).ownBlock ∧ some k_ ≠ ((.slice Ao131 t361.length co131) : Value).ownBlock) (.slice Ao27 t299.length co27) t299) ∧ Aside0 (Kd.R (Kd.int .i64) 3 wc w.heap.size (fun k_ => some k_ ≠ ((.slice Ao37 t342.length co37) : Value).ownBlock ∧ some k_ ≠ ((.slice Ao46 t323.length co46) : Value).ownBlock ∧ some k_ ≠ ((.slice Ao132 t364.length co132) : Value).ownBlock) (.slice Ao28 t302.length co28) t302) ∧ Aside0 (Kd.R Kd.bool 4 wc w.heap.size (fun k_ => some k_ ≠ ((.slice Ao24 t296.length co24) : Value).ownBlock ∧ some k_ ≠ ((.slice Ao27 t299.length co27) : Value).ownBlock ∧ some k_ ≠ ((.slice Ao36 t341.length co36) : Value).ownBlock ∧ some k_ ≠ ((.slice Ao40 t317.length co40) : Value).ownBlock ∧ some k_ ≠ ((.slice Ao45 t320.length co45) : Value).ownBlock ∧ some k_ ≠ ((.slice Ao125 t358.length co125) : Value).ownBlock ∧ some k_ ≠ ((.slice Ao131 t361.length co131) : Value).ownBlock) (.slice Ao32 t340.length co32) t340) ∧ Aside0 (Kd.R Kd.bool 4 wc w.heap.size (fun k_ => some k_ ≠ ((.slice Ao24 t296.length co24) : Value).ownBlock ∧ some k_ ≠ ((.slice Ao27 t299.length co27) : Value).ownBlock ∧ some k_ ≠ ((.slice Ao32 t340.length co32) : Value).ownBlock ∧ some k_ ≠ ((.slice Ao40 t317.length co40) : Value).ownBlock ∧ some k_ ≠ ((.slice Ao45 t320.length co45) : Value).ownBlock ∧ some k_ ≠ ((.slice Ao125 t358.length co125) : Value).ownBlock ∧ some k_ ≠ ((.slice Ao131 t361.length co131) : Value).ownBlock) (.slice Ao36 t341.length co36) t341) ∧ Aside0 (Kd.R (Kd.int .i64) 3 wc w.heap.size (fun k_ => some k_ ≠ ((.slice Ao28 t302.length co28) : Value).ownBlock ∧ some k_ ≠ ((.slice Ao46 t323.length co46) : Value).ownBlock ∧ some k_ ≠ ((.slice Ao132 t364.length co132) : Value).ownBlock) (.slice Ao37 t342.length co37) t342) ∧ Aside0 (Kd.R Kd.bool 4 wc w.heap.size (fun k_ => some k_ ≠ ((.slice Ao24 t296.length co24) : Value).ownBlock ∧ some k_ ≠ ((.slice Ao27 t299.length co27) : Value).ownBlock ∧ some k_ ≠ ((.slice Ao32 t340.length co32) : Value).ownBlock ∧ some k_ ≠ ((.slice Ao36 t341.length co36) : Value).ownBlock ∧ some k_ ≠ ((.slice Ao45 t320.length co45) : Value).ownBlock ∧ some k_ ≠ ((.slice Ao125 t358.length co125) : Value).ownBlock ∧ some k_ ≠ ((.slice Ao131 t361.length co131) : Value).ownBlock) (.slice Ao40 t317.length co40) t345) ∧ Aside0 (Kd.R Kd.bool 4 wc w.heap.size (fun k_ => some k_ ≠ ((.slice Ao24 t296.length co24) : Value).ownBlock ∧ some k_ ≠ ((.slice Ao27 t299.length co27) : Value).ownBlock ∧ some k_ ≠ ((.slice Ao32 t340.length co32) : Value).ownBlock ∧ some k_ ≠ ((.slice Ao36 t341.length co36) : Value).ownBlock ∧ some k_ ≠ ((.slice Ao40 t317.length co40) : Value).ownBlock ∧ some k_ ≠ ((.slice Ao125 t358.length co125) : Value).ownBlock ∧ some k_ ≠ ((.slice Ao131 t361.length co131) : Value).ownBlock) (.slice Ao45 t320.length co45) t346) ∧ Aside0 (Kd.R (Kd.int .i64) 3 wc w.heap.size (fun k_ => some k_ ≠ ((.slice Ao28 t302.length co28) : Value).ownBlock ∧ some k_ ≠ ((.slice Ao37 t342.length co37) : Value).ownBlock ∧ some k_ ≠ ((.slice Ao132 t364.length co132) : Value).ownBlock) (.slice Ao46 t323.length co46) t347) ∧ Aside0 (Kd.R Kd.bool 4 wc w.heap.size (fun k_ => some k_ ≠ ((.slice Ao24 t296.length co24) : Value).ownBlock ∧ some k_ ≠ ((.slice Ao27 t299.length co27) : Value).ownBlock ∧ some k_ ≠ ((.slice Ao32 t340.length co32) : Value).ownBlock ∧ some k_ ≠ ((.slice Ao36 t341.length co36) : Value).ownBlock ∧ some k_ ≠ ((.slice Ao40 t317.length co40) : Value).ownBlock ∧ some k_ ≠ ((.slice Ao45 t320.length co45) : Value).ownBlock ∧ some k_ ≠ ((.slice Ao131 t361.length co131) : Value).ownBlock) (.slice Ao125 t358.length co125) t358) ∧ Aside0 (Kd.R Kd.bool 4 wc w.heap.size (fun k_ => some k_ ≠ ((.slice Ao24 t296.length co24) : Value).ownBlock ∧ some k_ ≠ ((.slice Ao27 t299.length co27) : Value).ownBlock ∧ some k_ ≠ ((.slice Ao32 t340.length co32) : Value).ownBlock ∧ some k_ ≠ ((.slice Ao36 t341.length co36) : Value).ownBlock ∧ some k_ ≠ ((.slice Ao40 t317.length co40) : Value).ownBlock ∧ some k_ ≠ ((.slice Ao45 t320.length co45) : Value).ownBlock ∧ some k_ ≠ ((.slice Ao125 t358.length co125) : Value).ownBlock) (.slice Ao131 t361.length co131) t361) ∧ Aside0 (Kd.R (Kd.int .i64) 3 wc w.heap.size (fun k_ => some k_ ≠ ((.slice Ao28 t302.length co28) : Value).ownBlock ∧ some k_ ≠ ((.slice Ao37 t342.length co37) : Value).ownBlock ∧ some k_ ≠ ((.slice Ao46 t323.length co46) : Value).ownBlock) (.slice Ao132 t364.length co132) t364) ∧ Aside0 (wc.heap[Bt]? = some (.cells #[(.slice A0_0 l0_0.length c0_0), (.slice A0_1 l0_1.length c0_1), (.slice A0_2 l0_2.length c0_2)] 25 (0, 0))) ∧ Aside0 (wc.heap[Bq]? = some (.cells #[(.slice Ao24 t296.length co24), (.slice Ao27 t299.length co27), (.slice Ao28 t302.length co28)] 27 (0, 0))) ∧ Aside0 (wc.heap[Bo]? = some (.cells #[(.slice Ao32 t340.length co32), (.slice Ao36 t341.length co36), (.slice Ao37 t342.length co37)] 27 (0, 0))) ∧ Aside0 (wc.heap[Ba]? = some (.cells #[(.slice Ao40 t317.length co40), (.slice Ao45 t320.length co45), (.slice Ao46 t323.length co46)] 27 (0, 0))) ∧ Aside0 (wc.heap[Bc]? = some (.cells #[(.slice Ao125 t358.length co125), (.slice Ao131 t361.length co131), (.slice Ao132 t364.length co132)] 27 (0, 0))) ∧ Aside0 (Below w.heap.size w wc))
     case first =>
      have H := HC108.out
      clear HC108
      replace H := Option.bind_eq_some_iff.mp H
      obtain ⟨t369, A1330, H⟩ := H
      replace H : (if t369 = true then (laws_FnExactSigsSet.j2 kj69 t344 (t367 != t305) t345 t346 t347) else (laws_FnExactSigsSet.j2 kj69 t344 true t345 t346 t347)) = some r := H
      have A133 := Am A1330
      clear A1330
      by_cases c134 : t369 = true
      ·subst c134
       have H1 : (laws_FnExactSigsSet.j2 kj69 t344 (t367 != t305) t345 t346 t347) = some r := by rw [if_pos rfl] at H;exact H
       clear H
       have H := H1
       clear H1
       have H' := Am H
       clear H
       have G2 := Dc.out
       have G3 := B6.out
       have G4 := Dd.out
       have G5 := B7.out
       have G6 := De.out
       have G7 := B8.out
       have G8 := Da.out
       have G9 := B2.out
       have Gd : w124.cell? ⟨Bc, 0, none⟩ = some (.slice none 0 0) := (bC Br.out 0).trans rfl
       have Ge : w124.cell? ⟨Bc, 1, none⟩ = some (.slice none 0 0) := (bC Br.out 1).trans rfl
       have Gf : w124.cell? ⟨Bc, 2, none⟩ = some (.slice none 0 0) := (bC Br.out 2).trans rfl
       have Gg := bF Br.out 0
       have Gh := bF Br.out 1
       have Gi := bF Br.out 2
       have Ja := BV.out
       have Jb := BI.out
       have Jc := BJ.out
       have Jd := BW.out
       have Je := BG.out
       have Jf := BL.out
       have Gj : w124.cell? ⟨Bq, 0, none⟩ = some (.slice Ao24 t296.length co24) := (bC Bd.out 0).trans rfl
       have Gk : w124.cell? ⟨Bq, 1, none⟩ = some (.slice Ao27 t299.length co27) := (bC Bd.out 1).trans rfl
       have Gl : w124.cell? ⟨Bq, 2, none⟩ = some (.slice Ao28 t302.length co28) := (bC Bd.out 2).trans rfl
       have Gm := bF Bd.out 0
       have Gn := bF Bd.out 1
       have Gp := bF Bd.out 2
       go_wp2_with (first|((with_reducible refine gate_callee (f := 17) rfl ?_);refine goesL_ (some 91) rfl rfl Try.func17 (by kernel_rfl) rfl #[.agg #[.slice Ao125 t358.length co125, .slice Ao131 t361.length co131, .slice Ao132 t364.length co132], .agg #[.slice Ao24 t296.length co24, .slice Ao27 t299.length co27, .slice Ao28 t302.length co28]] rfl (by (try simp only [lM, lC, lN]);first|done|rfl|(simp only [lD, lT];rfl)) ?_;(with_reducible refine (laws_eqSigs.calls kj69 _ _ t358 _ _ t361 _ _ t364 _ _ t296 _ _ t299 _ _ t302 true _ ?side1 ?side2 ?side3 ?side4 ?side5 ?side6 ?side7 ?side8 ?side9 ?side10 ?side11 ?side12 A133.out).mono ?_);(case side1 => refine (Kd.R_reads' (e := 4) (base := w.heap.size) (ok := fun k_ => ((((((((some k_ ≠ (.slice Ao131 t361.length co131 : Value).ownBlock ∧ some k_ ≠ (.slice Ao24 t296.length co24 : Value).ownBlock) ∧ some k_ ≠ (.slice Ao27 t299.length co27 : Value).ownBlock) ∧ some k_ ≠ (.slice Ao32 t340.length co32 : Value).ownBlock) ∧ some k_ ≠ (.slice Ao36 t341.length co36 : Value).ownBlock) ∧ some k_ ≠ (.slice Ao40 t317.length co40 : Value).ownBlock) ∧ some k_ ≠ (.slice Ao45 t320.length co45 : Value).ownBlock) ∧ some k_ ≠ (.slice Ao120 t349.length co120 : Value).ownBlock) ∧ some k_ ≠ (.slice Ao121 t352.length co121 : Value).ownBlock)) (n := t358.length) (c := co125) ?_).2.2;exact (by (with_reducible repeat (first|apply rA|apply rN|apply rD));exact (rM (rF (p := ⟨Bc, 2, none⟩) (rF (p := ⟨Bc, 1, none⟩) (rF (p := ⟨Bc, 0, none⟩) (rT BS.out Br.out (by decide)) (fun _ hk => hk.2) (.slice Ao125 t358.length co125)) (fun _ hk => hk.2) (.slice Ao131 t361.length co131)) (fun _ hk => hk.2) (.slice Ao132 t364.length co132)) (fun _ h_ => h_.1))));(case side2 => exact (Kd.R_reads' BS.out).2.1);(case side3 => refine (Kd.R_reads' (e := 4) (base := w.heap.size) (ok := fun k_ => ((((((((some k_ ≠ (.slice Ao125 t358.length co125 : Value).ownBlock ∧ some k_ ≠ (.slice Ao24 t296.length co24 : Value).ownBlock) ∧ some k_ ≠ (.slice Ao27 t299.length co27 : Value).ownBlock) ∧ some k_ ≠ (.slice Ao32 t340.length co32 : Value).ownBlock) ∧ some k_ ≠ (.slice Ao36 t341.length co36 : Value).ownBlock) ∧ some k_ ≠ (.slice Ao40 t317.length co40 : Value).ownBlock) ∧ some k_ ≠ (.slice Ao45 t320.length co45 : Value).ownBlock) ∧ some k_ ≠ (.slice Ao120 t349.length co120 : Value).ownBlock) ∧ some k_ ≠ (.slice Ao121 t352.length co121 : Value).ownBlock)) (n := t361.length) (c := co131) ?_).2.2;exact (by (with_reducible repeat (first|apply rA|apply rN|apply rD));exact (rM (rF (p := ⟨Bc, 2, none⟩) (rF (p := ⟨Bc, 1, none⟩) (rF (p := ⟨Bc, 0, none⟩) (rT BT.out Br.out (by decide)) (fun _ hk => hk.2) (.slice Ao125 t358.length co125)) (fun _ hk => hk.2) (.slice Ao131 t361.length co131)) (fun _ hk => hk.2) (.slice Ao132 t364.length co132)) (fun _ h_ => h_.1))));(case side4 => exact (Kd.R_reads' BT.out).2.1);(case side5 => refine (Kd.R_reads' (e := 3) (base := w.heap.size) (ok := fun k_ => ((((True ∧ some k_ ≠ (.slice Ao28 t302.length co28 : Value).ownBlock) ∧ some k_ ≠ (.slice Ao37 t342.length co37 : Value).ownBlock) ∧ some k_ ≠ (.slice Ao46 t323.length co46 : Value).ownBlock) ∧ some k_ ≠ (.slice Ao122 t355.length co122 : Value).ownBlock)) (n := t364.length) (c := co132) ?_).2.2;exact (by (with_reducible repeat (first|apply rA|apply rN|apply rD));exact (rM (rF (p := ⟨Bc, 2, none⟩) (rF (p := ⟨Bc, 1, none⟩) (rF (p := ⟨Bc, 0, none⟩) (rT BU.out Br.out (by decide)) (fun _ hk => hk.2) (.slice Ao125 t358.length co125)) (fun _ hk => hk.2) (.slice Ao131 t361.length co131)) (fun _ hk => hk.2) (.slice Ao132 t364.length co132)) (fun _ h_ => h_.1))));(case side6 => exact (Kd.R_reads' BU.out).2.1);(case side7 => refine (Kd.R_reads' (e := 4) (base := w.heap.size) (ok := fun k_ => (((((some k_ ≠ (.slice Ao27 t299.length co27 : Value).ownBlock ∧ (some k_ ≠ (.slice Ao32 t340.length co32 : Value).ownBlock ∧ (some k_ ≠ (.slice Ao36 t341.length co36 : Value).ownBlock ∧ (some k_ ≠ (.slice Ao40 t317.length co40 : Value).ownBlock ∧ some k_ ≠ (.slice Ao45 t320.length co45 : Value).ownBlock)))) ∧ some k_ ≠ (.slice Ao120 t349.length co120 : Value).ownBlock) ∧ some k_ ≠ (.slice Ao121 t352.length co121 : Value).ownBlock) ∧ some k_ ≠ (.slice Ao125 t358.length co125 : Value).ownBlock) ∧ some k_ ≠ (.slice Ao131 t361.length co131 : Value).ownBlock)) (n := t296.length) (c := co24) ?_).2.2;exact (by (with_reducible repeat (first|apply rA|apply rN|apply rD));exact (rM (rF (p := ⟨Bc, 2, none⟩) (rF (p := ⟨Bc, 1, none⟩) (rF (p := ⟨Bc, 0, none⟩) (rT Bm.out Br.out (by decide)) (fun _ hk => hk.2) (.slice Ao125 t358.length co125)) (fun _ hk => hk.2) (.slice Ao131 t361.length co131)) (fun _ hk => hk.2) (.slice Ao132 t364.length co132)) (fun _ h_ => h_.1))));(case side8 => exact (Kd.R_reads' Bm.out).2.1);(case side9 => refine (Kd.R_reads' (e := 4) (base := w.heap.size) (ok := fun k_ => (((((some k_ ≠ (.slice Ao24 t296.length co24 : Value).ownBlock ∧ (some k_ ≠ (.slice Ao32 t340.length co32 : Value).ownBlock ∧ (some k_ ≠ (.slice Ao36 t341.length co36 : Value).ownBlock ∧ (some k_ ≠ (.slice Ao40 t317.length co40 : Value).ownBlock ∧ some k_ ≠ (.slice Ao45 t320.length co45 : Value).ownBlock)))) ∧ some k_ ≠ (.slice Ao120 t349.length co120 : Value).ownBlock) ∧ some k_ ≠ (.slice Ao121 t352.length co121 : Value).ownBlock) ∧ some k_ ≠ (.slice Ao125 t358.length co125 : Value).ownBlock) ∧ some k_ ≠ (.slice Ao131 t361.length co131 : Value).ownBlock)) (n := t299.length) (c := co27) ?_).2.2;exact (by (with_reducible repeat (first|apply rA|apply rN|apply rD));exact (rM (rF (p := ⟨Bc, 2, none⟩) (rF (p := ⟨Bc, 1, none⟩) (rF (p := ⟨Bc, 0, none⟩) (rT Bn.out Br.out (by decide)) (fun _ hk => hk.2) (.slice Ao125 t358.length co125)) (fun _ hk => hk.2) (.slice Ao131 t361.length co131)) (fun _ hk => hk.2) (.slice Ao132 t364.length co132)) (fun _ h_ => h_.1))));(case side10 => exact (Kd.R_reads' Bn.out).2.1);(case side11 => refine (Kd.R_reads' (e := 3) (base := w.heap.size) (ok := fun k_ => (((some k_ ≠ (.slice Ao37 t342.length co37 : Value).ownBlock ∧ some k_ ≠ (.slice Ao46 t323.length co46 : Value).ownBlock) ∧ some k_ ≠ (.slice Ao122 t355.length co122 : Value).ownBlock) ∧ some k_ ≠ (.slice Ao132 t364.length co132 : Value).ownBlock)) (n := t302.length) (c := co28) ?_).2.2;exact (by (with_reducible repeat (first|apply rA|apply rN|apply rD));exact (rM (rF (p := ⟨Bc, 2, none⟩) (rF (p := ⟨Bc, 1, none⟩) (rF (p := ⟨Bc, 0, none⟩) (rT Bp.out Br.out (by decide)) (fun _ hk => hk.2) (.slice Ao125 t358.length co125)) (fun _ hk => hk.2) (.slice Ao131 t361.length co131)) (fun _ hk => hk.2) (.slice Ao132 t364.length co132)) (fun _ h_ => h_.1))));(case side12 => exact (Kd.R_reads' Bp.out).2.1);rintro e w144 ⟨rfl, hb⟩;refine ⟨_, rfl, ?_⟩;have n0_ := Am (rB (by (with_reducible repeat (first|apply rA|apply rN|apply rD));exact (rM (rF (p := ⟨Bc, 2, none⟩) (rF (p := ⟨Bc, 1, none⟩) (rF (p := ⟨Bc, 0, none⟩) (rT Bm.out Br.out (by decide)) (fun _ hk => hk.2) (.slice Ao125 t358.length co125)) (fun _ hk => hk.2) (.slice Ao131 t361.length co131)) (fun _ hk => hk.2) (.slice Ao132 t364.length co132)) (fun _ h_ => h_.1))) hb);have n1_ := Am (rB (by (with_reducible repeat (first|apply rA|apply rN|apply rD));exact (rM (rF (p := ⟨Bc, 2, none⟩) (rF (p := ⟨Bc, 1, none⟩) (rF (p := ⟨Bc, 0, none⟩) (rT Bn.out Br.out (by decide)) (fun _ hk => hk.2) (.slice Ao125 t358.length co125)) (fun _ hk => hk.2) (.slice Ao131 t361.length co131)) (fun _ hk => hk.2) (.slice Ao132 t364.length co132)) (fun _ h_ => h_.1))) hb);have n2_ := Am (rB (by (with_reducible repeat (first|apply rA|apply rN|apply rD));exact (rM (rF (p := ⟨Bc, 2, none⟩) (rF (p := ⟨Bc, 1, none⟩) (rF (p := ⟨Bc, 0, none⟩) (rT Bp.out Br.out (by decide)) (fun _ hk => hk.2) (.slice Ao125 t358.length co125)) (fun _ hk => hk.2) (.slice Ao131 t361.length co131)) (fun _ hk => hk.2) (.slice Ao132 t364.length co132)) (fun _ h_ => h_.1))) hb);have n3_ := Am (rB (by (with_reducible repeat (first|apply rA|apply rN|apply rD));exact (rM (rF (p := ⟨Bc, 2, none⟩) (rF (p := ⟨Bc, 1, none⟩) (rF (p := ⟨Bc, 0, none⟩) (rT Bi.out Br.out (by decide)) (fun _ hk => hk.2) (.slice Ao125 t358.length co125)) (fun _ hk => hk.2) (.slice Ao131 t361.length co131)) (fun _ hk => hk.2) (.slice Ao132 t364.length co132)) (fun _ h_ => h_.1))) hb);have n4_ := Am (rB (by (with_reducible repeat (first|apply rA|apply rN|apply rD));exact (rM (rF (p := ⟨Bc, 2, none⟩) (rF (p := ⟨Bc, 1, none⟩) (rF (p := ⟨Bc, 0, none⟩) (rT Bj.out Br.out (by decide)) (fun _ hk => hk.2) (.slice Ao125 t358.length co125)) (fun _ hk => hk.2) (.slice Ao131 t361.length co131)) (fun _ hk => hk.2) (.slice Ao132 t364.length co132)) (fun _ h_ => h_.1))) hb);have n5_ := Am (rB (by (with_reducible repeat (first|apply rA|apply rN|apply rD));exact (rM (rF (p := ⟨Bc, 2, none⟩) (rF (p := ⟨Bc, 1, none⟩) (rF (p := ⟨Bc, 0, none⟩) (rT Bk.out Br.out (by decide)) (fun _ hk => hk.2) (.slice Ao125 t358.length co125)) (fun _ hk => hk.2) (.slice Ao131 t361.length co131)) (fun _ hk => hk.2) (.slice Ao132 t364.length co132)) (fun _ h_ => h_.1))) hb);have n6_ := Am (rB (by (with_reducible repeat (first|apply rA|apply rN|apply rD));exact (rM (rF (p := ⟨Bc, 2, none⟩) (rF (p := ⟨Bc, 1, none⟩) (rF (p := ⟨Bc, 0, none⟩) (rT Be.out Br.out (by decide)) (fun _ hk => hk.2) (.slice Ao125 t358.length co125)) (fun _ hk => hk.2) (.slice Ao131 t361.length co131)) (fun _ hk => hk.2) (.slice Ao132 t364.length co132)) (fun _ h_ => h_.1))) hb);have n7_ := Am (rB (by (with_reducible repeat (first|apply rA|apply rN|apply rD));exact (rM (rF (p := ⟨Bc, 2, none⟩) (rF (p := ⟨Bc, 1, none⟩) (rF (p := ⟨Bc, 0, none⟩) (rT Bf.out Br.out (by decide)) (fun _ hk => hk.2) (.slice Ao125 t358.length co125)) (fun _ hk => hk.2) (.slice Ao131 t361.length co131)) (fun _ hk => hk.2) (.slice Ao132 t364.length co132)) (fun _ h_ => h_.1))) hb);have n8_ := Am (rB (by (with_reducible repeat (first|apply rA|apply rN|apply rD));exact (rM (rF (p := ⟨Bc, 2, none⟩) (rF (p := ⟨Bc, 1, none⟩) (rF (p := ⟨Bc, 0, none⟩) (rT Bh.out Br.out (by decide)) (fun _ hk => hk.2) (.slice Ao125 t358.length co125)) (fun _ hk => hk.2) (.slice Ao131 t361.length co131)) (fun _ hk => hk.2) (.slice Ao132 t364.length co132)) (fun _ h_ => h_.1))) hb);have n9_ := Am (rB (by (with_reducible repeat (first|apply rA|apply rN|apply rD));exact (rM (rF (p := ⟨Bc, 2, none⟩) (rF (p := ⟨Bc, 1, none⟩) (rF (p := ⟨Bc, 0, none⟩) (rT BM.out Br.out (by decide)) (fun _ hk => hk.2) (.slice Ao125 t358.length co125)) (fun _ hk => hk.2) (.slice Ao131 t361.length co131)) (fun _ hk => hk.2) (.slice Ao132 t364.length co132)) (fun _ h_ => h_.1))) hb);have n10_ := Am (rB (by (with_reducible repeat (first|apply rA|apply rN|apply rD));exact (rM (rF (p := ⟨Bc, 2, none⟩) (rF (p := ⟨Bc, 1, none⟩) (rF (p := ⟨Bc, 0, none⟩) (rT BN.out Br.out (by decide)) (fun _ hk => hk.2) (.slice Ao125 t358.length co125)) (fun _ hk => hk.2) (.slice Ao131 t361.length co131)) (fun _ hk => hk.2) (.slice Ao132 t364.length co132)) (fun _ h_ => h_.1))) hb);have n11_ := Am (rB (by (with_reducible repeat (first|apply rA|apply rN|apply rD));exact (rM (rF (p := ⟨Bc, 2, none⟩) (rF (p := ⟨Bc, 1, none⟩) (rF (p := ⟨Bc, 0, none⟩) (rT BR.out Br.out (by decide)) (fun _ hk => hk.2) (.slice Ao125 t358.length co125)) (fun _ hk => hk.2) (.slice Ao131 t361.length co131)) (fun _ hk => hk.2) (.slice Ao132 t364.length co132)) (fun _ h_ => h_.1))) hb);have n12_ := Am (rB (by (with_reducible repeat (first|apply rA|apply rN|apply rD));exact (rM (rF (p := ⟨Bc, 2, none⟩) (rF (p := ⟨Bc, 1, none⟩) (rF (p := ⟨Bc, 0, none⟩) (rT BS.out Br.out (by decide)) (fun _ hk => hk.2) (.slice Ao125 t358.length co125)) (fun _ hk => hk.2) (.slice Ao131 t361.length co131)) (fun _ hk => hk.2) (.slice Ao132 t364.length co132)) (fun _ h_ => h_.1))) hb);have n13_ := Am (rB (by (with_reducible repeat (first|apply rA|apply rN|apply rD));exact (rM (rF (p := ⟨Bc, 2, none⟩) (rF (p := ⟨Bc, 1, none⟩) (rF (p := ⟨Bc, 0, none⟩) (rT BT.out Br.out (by decide)) (fun _ hk => hk.2) (.slice Ao125 t358.length co125)) (fun _ hk => hk.2) (.slice Ao131 t361.length co131)) (fun _ hk => hk.2) (.slice Ao132 t364.length co132)) (fun _ h_ => h_.1))) hb);have n14_ := Am (rB (by (with_reducible repeat (first|apply rA|apply rN|apply rD));exact (rM (rF (p := ⟨Bc, 2, none⟩) (rF (p := ⟨Bc, 1, none⟩) (rF (p := ⟨Bc, 0, none⟩) (rT BU.out Br.out (by decide)) (fun _ hk => hk.2) (.slice Ao125 t358.length co125)) (fun _ hk => hk.2) (.slice Ao131 t361.length co131)) (fun _ hk => hk.2) (.slice Ao132 t364.length co132)) (fun _ h_ => h_.1))) hb);have n15_ := Am (bB (g := Bt) (o := .cells #[.slice A0_0 l0_0.length c0_0, .slice A0_1 l0_1.length c0_1, .slice A0_2 l0_2.length c0_2] 25 (0, 0)) (by (with_reducible repeat (first|refine bN ?_ _|refine bD ?_|refine bA ?_ _|refine blk_far ?_ B6.out _));exact Bg.out) hb);have n16_ := Am (bB (g := Bq) (o := .cells #[.slice Ao24 t296.length co24, .slice Ao27 t299.length co27, .slice Ao28 t302.length co28] 27 (0, 0)) (by (with_reducible repeat (first|refine bN ?_ _|refine bD ?_|refine bA ?_ _|refine blk_far ?_ B7.out _));exact Bd.out) hb);have n17_ := Am (bB (g := Bo) (o := .cells #[.slice Ao32 t340.length co32, .slice Ao36 t341.length co36, .slice Ao37 t342.length co37] 27 (0, 0)) (by (with_reducible repeat (first|refine bN ?_ _|refine bD ?_|refine bA ?_ _|refine blk_far ?_ B8.out _));exact Bl.out) hb);have n18_ := Am (bB (g := Ba) (o := .cells #[.slice Ao40 t317.length co40, .slice Ao45 t320.length co45, .slice Ao46 t323.length co46] 27 (0, 0)) (by (with_reducible repeat (first|refine bN ?_ _|refine bD ?_|refine bA ?_ _|refine blk_far ?_ B2.out _));exact Bb.out) hb);have n19_ := Am (bB (g := Bc) (o := .cells #[.slice Ao125 t358.length co125, .slice Ao131 t361.length co131, .slice Ao132 t364.length co132] 27 (0, 0)) (by (with_reducible repeat (first|refine bN ?_ _|refine bD ?_|refine bA ?_ _));refine blk_put (cs := #[.slice Ao125 t358.length co125, .slice Ao131 t361.length co131, .slice none 0 0]) ?_ 2 _ rfl;(with_reducible repeat (first|refine bN ?_ _|refine bD ?_|refine bA ?_ _));refine blk_put (cs := #[.slice Ao125 t358.length co125, .slice none 0 0, .slice none 0 0]) ?_ 1 _ rfl;(with_reducible repeat (first|refine bN ?_ _|refine bD ?_|refine bA ?_ _));refine blk_put (cs := #[.slice none 0 0, .slice none 0 0, .slice none 0 0]) ?_ 0 _ rfl;(with_reducible repeat (first|refine bN ?_ _|refine bD ?_|refine bA ?_ _));exact Br.out) hb);have n20_ := Am (bP (by repeat (first|(with_reducible first|exact HB.out|apply oA|apply pN|apply o1|refine bS ?_ Bs.out|refine bS ?_ Bu.out|refine bS ?_ Bv.out|refine bS ?_ Bw.out|refine bS ?_ Df.out)|exact HB.out)) hb);clear Bm Bn Bp Bi Bj Bk Be Bf Bh BM BN BR BS BT BU Bg Bd Bl Bb Br HB;revert n0_ n1_ n2_ n3_ n4_ n5_ n6_ n7_ n8_ n9_ n10_ n11_ n12_ n13_ n14_ n15_ n16_ n17_ n18_ n19_ n20_;intro Bm Bn Bp Bi Bj Bk Be Bf Bh BM BN BR BS BT BU Bg Bd Bl Bb Br HB;(try clear hb);(try clear hb2);(try clear hk);(try clear hi)))
       go_meet
       case rel => exact ⟨_, ((t367 != t305)), (by first|rfl|(simp;done)|(simp [*];done)), H', ⟨by have := Fk.out;have := GC.out;first|omega|exact Nat.le_refl _⟩, ⟨by (try simp only [hl317000_69]);(try simp only [hl317001_69]);(try simp only [hl317002_69]);(with_reducible repeat (first|apply rA|apply rN|apply rD));exact rM Bm.out (fun _ hk => ⟨hk.1.1.1.1.1, ⟨hk.1.1.1.1.2.1, ⟨hk.1.1.1.1.2.2.1, ⟨hk.1.1.1.1.2.2.2.1, ⟨hk.1.1.1.1.2.2.2.2, ⟨hk.1.2, hk.2⟩⟩⟩⟩⟩⟩)⟩, ⟨by (try simp only [hl317000_69]);(try simp only [hl317001_69]);(try simp only [hl317002_69]);(with_reducible repeat (first|apply rA|apply rN|apply rD));exact rM Bn.out (fun _ hk => ⟨hk.1.1.1.1.1, ⟨hk.1.1.1.1.2.1, ⟨hk.1.1.1.1.2.2.1, ⟨hk.1.1.1.1.2.2.2.1, ⟨hk.1.1.1.1.2.2.2.2, ⟨hk.1.2, hk.2⟩⟩⟩⟩⟩⟩)⟩, ⟨by (try simp only [hl317000_69]);(try simp only [hl317001_69]);(try simp only [hl317002_69]);(with_reducible repeat (first|apply rA|apply rN|apply rD));exact rM Bp.out (fun _ hk => ⟨hk.1.1.1, ⟨hk.1.1.2, hk.2⟩⟩)⟩, ⟨by (try simp only [hl317000_69]);(try simp only [hl317001_69]);(try simp only [hl317002_69]);(with_reducible repeat (first|apply rA|apply rN|apply rD));exact rM Bi.out (fun _ hk => ⟨hk.1.1.1.1.1, ⟨hk.1.1.1.1.2.1, ⟨hk.1.1.1.1.2.2.1, ⟨hk.1.1.1.1.2.2.2.1, ⟨hk.1.1.1.1.2.2.2.2, ⟨hk.1.2, hk.2⟩⟩⟩⟩⟩⟩)⟩, ⟨by (try simp only [hl317000_69]);(try simp only [hl317001_69]);(try simp only [hl317002_69]);(with_reducible repeat (first|apply rA|apply rN|apply rD));exact rM Bj.out (fun _ hk => ⟨hk.1.1.1.1.1, ⟨hk.1.1.1.1.2.1, ⟨hk.1.1.1.1.2.2.1, ⟨hk.1.1.1.1.2.2.2.1, ⟨hk.1.1.1.1.2.2.2.2, ⟨hk.1.2, hk.2⟩⟩⟩⟩⟩⟩)⟩, ⟨by (try simp only [hl317000_69]);(try simp only [hl317001_69]);(try simp only [hl317002_69]);(with_reducible repeat (first|apply rA|apply rN|apply rD));exact rM Bk.out (fun _ hk => ⟨hk.1.1.1, ⟨hk.1.1.2, hk.2⟩⟩)⟩, ⟨by (try simp only [hl317000_69]);(try simp only [hl317001_69]);(try simp only [hl317002_69]);(with_reducible repeat (first|apply rA|apply rN|apply rD));exact rM Be.out (fun _ hk => ⟨hk.1.1.1.1.1, ⟨hk.1.1.1.1.2.1, ⟨hk.1.1.1.1.2.2.1, ⟨hk.1.1.1.1.2.2.2.1, ⟨hk.1.1.1.1.2.2.2.2, ⟨hk.1.2, hk.2⟩⟩⟩⟩⟩⟩)⟩, ⟨by (try simp only [hl317000_69]);(try simp only [hl317001_69]);(try simp only [hl317002_69]);(with_reducible repeat (first|apply rA|apply rN|apply rD));exact rM Bf.out (fun _ hk => ⟨hk.1.1.1.1.1, ⟨hk.1.1.1.1.2.1, ⟨hk.1.1.1.1.2.2.1, ⟨hk.1.1.1.1.2.2.2.1, ⟨hk.1.1.1.1.2.2.2.2, ⟨hk.1.2, hk.2⟩⟩⟩⟩⟩⟩)⟩, ⟨by (try simp only [hl317000_69]);(try simp only [hl317001_69]);(try simp only [hl317002_69]);(with_reducible repeat (first|apply rA|apply rN|apply rD));exact rM Bh.out (fun _ hk => ⟨hk.1.1.1, ⟨hk.1.1.2, hk.2⟩⟩)⟩, ⟨by (try simp only [hl317000_69]);(try simp only [hl317001_69]);(try simp only [hl317002_69]);(with_reducible repeat (first|apply rA|apply rN|apply rD));exact rM BS.out (fun _ hk => ⟨hk.1.1.1.1.1.1.1.2, ⟨hk.1.1.1.1.1.1.2, ⟨hk.1.1.1.1.1.2, ⟨hk.1.1.1.1.2, ⟨hk.1.1.1.2, ⟨hk.1.1.2, hk.1.1.1.1.1.1.1.1⟩⟩⟩⟩⟩⟩)⟩, ⟨by (try simp only [hl317000_69]);(try simp only [hl317001_69]);(try simp only [hl317002_69]);(with_reducible repeat (first|apply rA|apply rN|apply rD));exact rM BT.out (fun _ hk => ⟨hk.1.1.1.1.1.1.1.2, ⟨hk.1.1.1.1.1.1.2, ⟨hk.1.1.1.1.1.2, ⟨hk.1.1.1.1.2, ⟨hk.1.1.1.2, ⟨hk.1.1.2, hk.1.1.1.1.1.1.1.1⟩⟩⟩⟩⟩⟩)⟩, ⟨by (try simp only [hl317000_69]);(try simp only [hl317001_69]);(try simp only [hl317002_69]);(with_reducible repeat (first|apply rA|apply rN|apply rD));exact rM BU.out (fun _ hk => ⟨hk.1.1.1.2, ⟨hk.1.1.2, hk.1.2⟩⟩)⟩, ⟨by (try simp only [hl317000_69]);(try simp only [hl317001_69]);(try simp only [hl317002_69]);(with_reducible repeat (first|refine bN ?_ _|refine bD ?_|refine bA ?_ _));exact Bg.out⟩, ⟨by (try simp only [hl317000_69]);(try simp only [hl317001_69]);(try simp only [hl317002_69]);(with_reducible repeat (first|refine bN ?_ _|refine bD ?_|refine bA ?_ _));exact Bd.out⟩, ⟨by (try simp only [hl317000_69]);(try simp only [hl317001_69]);(try simp only [hl317002_69]);(with_reducible repeat (first|refine bN ?_ _|refine bD ?_|refine bA ?_ _));exact Bl.out⟩, ⟨by (try simp only [hl317000_69]);(try simp only [hl317001_69]);(try simp only [hl317002_69]);(with_reducible repeat (first|refine bN ?_ _|refine bD ?_|refine bA ?_ _));exact Bb.out⟩, ⟨by (try simp only [hl317000_69]);(try simp only [hl317001_69]);(try simp only [hl317002_69]);(with_reducible repeat (first|refine bN ?_ _|refine bD ?_|refine bA ?_ _));exact Br.out⟩, ⟨by repeat (first|(with_reducible first|exact HB.out|apply oA|apply pN|apply o1|refine bS ?_ Bs.out|refine bS ?_ Bu.out|refine bS ?_ Bv.out|refine bS ?_ Bw.out|refine bS ?_ Df.out)|exact HB.out)⟩⟩
      replace c134 := Bool.eq_false_iff.mpr c134
      subst c134
      have H1 : (laws_FnExactSigsSet.j2 kj69 t344 true t345 t346 t347) = some r := by rw [if_neg (show ¬ (false = true) by decide)] at H;exact H
      clear H
      have H := H1
      clear H1
      have H' := Am H
      clear H
      have Jg := Dc.out
      have Jh := B6.out
      have Ji := Dd.out
      have Jj := B7.out
      have Jk := De.out
      have Jl := B8.out
      have Jm := Da.out
      have Jn := B2.out
      have Gq : w124.cell? ⟨Bc, 0, none⟩ = some (.slice none 0 0) := (bC Br.out 0).trans rfl
      have Gr : w124.cell? ⟨Bc, 1, none⟩ = some (.slice none 0 0) := (bC Br.out 1).trans rfl
      have Gs : w124.cell? ⟨Bc, 2, none⟩ = some (.slice none 0 0) := (bC Br.out 2).trans rfl
      have Gt := bF Br.out 0
      have Gu := bF Br.out 1
      have Gv := bF Br.out 2
      have Jo := BV.out
      have Jp := BI.out
      have Jq := BJ.out
      have Jr := BW.out
      have Js := BG.out
      have Jt := BL.out
      have Gw : w124.cell? ⟨Bq, 0, none⟩ = some (.slice Ao24 t296.length co24) := (bC Bd.out 0).trans rfl
      have Gx : w124.cell? ⟨Bq, 1, none⟩ = some (.slice Ao27 t299.length co27) := (bC Bd.out 1).trans rfl
      have Gy : w124.cell? ⟨Bq, 2, none⟩ = some (.slice Ao28 t302.length co28) := (bC Bd.out 2).trans rfl
      have Gz := bF Bd.out 0
      have GA := bF Bd.out 1
      have GB := bF Bd.out 2
      go_wp2_with (first|((with_reducible refine gate_callee (f := 17) rfl ?_);refine goesL_ (some 91) rfl rfl Try.func17 (by kernel_rfl) rfl #[.agg #[.slice Ao125 t358.length co125, .slice Ao131 t361.length co131, .slice Ao132 t364.length co132], .agg #[.slice Ao24 t296.length co24, .slice Ao27 t299.length co27, .slice Ao28 t302.length co28]] rfl (by (try simp only [lM, lC, lN]);first|done|rfl|(simp only [lD, lT];rfl)) ?_;(with_reducible refine (laws_eqSigs.calls kj69 _ _ t358 _ _ t361 _ _ t364 _ _ t296 _ _ t299 _ _ t302 false _ ?side1 ?side2 ?side3 ?side4 ?side5 ?side6 ?side7 ?side8 ?side9 ?side10 ?side11 ?side12 A133.out).mono ?_);(case side1 => refine (Kd.R_reads' (e := 4) (base := w.heap.size) (ok := fun k_ => ((((((((some k_ ≠ (.slice Ao131 t361.length co131 : Value).ownBlock ∧ some k_ ≠ (.slice Ao24 t296.length co24 : Value).ownBlock) ∧ some k_ ≠ (.slice Ao27 t299.length co27 : Value).ownBlock) ∧ some k_ ≠ (.slice Ao32 t340.length co32 : Value).ownBlock) ∧ some k_ ≠ (.slice Ao36 t341.length co36 : Value).ownBlock) ∧ some k_ ≠ (.slice Ao40 t317.length co40 : Value).ownBlock) ∧ some k_ ≠ (.slice Ao45 t320.length co45 : Value).ownBlock) ∧ some k_ ≠ (.slice Ao120 t349.length co120 : Value).ownBlock) ∧ some k_ ≠ (.slice Ao121 t352.length co121 : Value).ownBlock)) (n := t358.length) (c := co125) ?_).2.2;exact (by (with_reducible repeat (first|apply rA|apply rN|apply rD));exact (rM (rF (p := ⟨Bc, 2, none⟩) (rF (p := ⟨Bc, 1, none⟩) (rF (p := ⟨Bc, 0, none⟩) (rT BS.out Br.out (by decide)) (fun _ hk => hk.2) (.slice Ao125 t358.length co125)) (fun _ hk => hk.2) (.slice Ao131 t361.length co131)) (fun _ hk => hk.2) (.slice Ao132 t364.length co132)) (fun _ h_ => h_.1))));(case side2 => exact (Kd.R_reads' BS.out).2.1);(case side3 => refine (Kd.R_reads' (e := 4) (base := w.heap.size) (ok := fun k_ => ((((((((some k_ ≠ (.slice Ao125 t358.length co125 : Value).ownBlock ∧ some k_ ≠ (.slice Ao24 t296.length co24 : Value).ownBlock) ∧ some k_ ≠ (.slice Ao27 t299.length co27 : Value).ownBlock) ∧ some k_ ≠ (.slice Ao32 t340.length co32 : Value).ownBlock) ∧ some k_ ≠ (.slice Ao36 t341.length co36 : Value).ownBlock) ∧ some k_ ≠ (.slice Ao40 t317.length co40 : Value).ownBlock) ∧ some k_ ≠ (.slice Ao45 t320.length co45 : Value).ownBlock) ∧ some k_ ≠ (.slice Ao120 t349.length co120 : Value).ownBlock) ∧ some k_ ≠ (.slice Ao121 t352.length co121 : Value).ownBlock)) (n := t361.length) (c := co131) ?_).2.2;exact (by (with_reducible repeat (first|apply rA|apply rN|apply rD));exact (rM (rF (p := ⟨Bc, 2, none⟩) (rF (p := ⟨Bc, 1, none⟩) (rF (p := ⟨Bc, 0, none⟩) (rT BT.out Br.out (by decide)) (fun _ hk => hk.2) (.slice Ao125 t358.length co125)) (fun _ hk => hk.2) (.slice Ao131 t361.length co131)) (fun _ hk => hk.2) (.slice Ao132 t364.length co132)) (fun _ h_ => h_.1))));(case side4 => exact (Kd.R_reads' BT.out).2.1);(case side5 => refine (Kd.R_reads' (e := 3) (base := w.heap.size) (ok := fun k_ => ((((True ∧ some k_ ≠ (.slice Ao28 t302.length co28 : Value).ownBlock) ∧ some k_ ≠ (.slice Ao37 t342.length co37 : Value).ownBlock) ∧ some k_ ≠ (.slice Ao46 t323.length co46 : Value).ownBlock) ∧ some k_ ≠ (.slice Ao122 t355.length co122 : Value).ownBlock)) (n := t364.length) (c := co132) ?_).2.2;exact (by (with_reducible repeat (first|apply rA|apply rN|apply rD));exact (rM (rF (p := ⟨Bc, 2, none⟩) (rF (p := ⟨Bc, 1, none⟩) (rF (p := ⟨Bc, 0, none⟩) (rT BU.out Br.out (by decide)) (fun _ hk => hk.2) (.slice Ao125 t358.length co125)) (fun _ hk => hk.2) (.slice Ao131 t361.length co131)) (fun _ hk => hk.2) (.slice Ao132 t364.length co132)) (fun _ h_ => h_.1))));(case side6 => exact (Kd.R_reads' BU.out).2.1);(case side7 => refine (Kd.R_reads' (e := 4) (base := w.heap.size) (ok := fun k_ => (((((some k_ ≠ (.slice Ao27 t299.length co27 : Value).ownBlock ∧ (some k_ ≠ (.slice Ao32 t340.length co32 : Value).ownBlock ∧ (some k_ ≠ (.slice Ao36 t341.length co36 : Value).ownBlock ∧ (some k_ ≠ (.slice Ao40 t317.length co40 : Value).ownBlock ∧ some k_ ≠ (.slice Ao45 t320.length co45 : Value).ownBlock)))) ∧ some k_ ≠ (.slice Ao120 t349.length co120 : Value).ownBlock) ∧ some k_ ≠ (.slice Ao121 t352.length co121 : Value).ownBlock) ∧ some k_ ≠ (.slice Ao125 t358.length co125 : Value).ownBlock) ∧ some k_ ≠ (.slice Ao131 t361.length co131 : Value).ownBlock)) (n := t296.length) (c := co24) ?_).2.2;exact (by (with_reducible repeat (first|apply rA|apply rN|apply rD));exact (rM (rF (p := ⟨Bc, 2, none⟩) (rF (p := ⟨Bc, 1, none⟩) (rF (p := ⟨Bc, 0, none⟩) (rT Bm.out Br.out (by decide)) (fun _ hk => hk.2) (.slice Ao125 t358.length co125)) (fun _ hk => hk.2) (.slice Ao131 t361.length co131)) (fun _ hk => hk.2) (.slice Ao132 t364.length co132)) (fun _ h_ => h_.1))));(case side8 => exact (Kd.R_reads' Bm.out).2.1);(case side9 => refine (Kd.R_reads' (e := 4) (base := w.heap.size) (ok := fun k_ => (((((some k_ ≠ (.slice Ao24 t296.length co24 : Value).ownBlock ∧ (some k_ ≠ (.slice Ao32 t340.length co32 : Value).ownBlock ∧ (some k_ ≠ (.slice Ao36 t341.length co36 : Value).ownBlock ∧ (some k_ ≠ (.slice Ao40 t317.length co40 : Value).ownBlock ∧ some k_ ≠ (.slice Ao45 t320.length co45 : Value).ownBlock)))) ∧ some k_ ≠ (.slice Ao120 t349.length co120 : Value).ownBlock) ∧ some k_ ≠ (.slice Ao121 t352.length co121 : Value).ownBlock) ∧ some k_ ≠ (.slice Ao125 t358.length co125 : Value).ownBlock) ∧ some k_ ≠ (.slice Ao131 t361.length co131 : Value).ownBlock)) (n := t299.length) (c := co27) ?_).2.2;exact (by (with_reducible repeat (first|apply rA|apply rN|apply rD));exact (rM (rF (p := ⟨Bc, 2, none⟩) (rF (p := ⟨Bc, 1, none⟩) (rF (p := ⟨Bc, 0, none⟩) (rT Bn.out Br.out (by decide)) (fun _ hk => hk.2) (.slice Ao125 t358.length co125)) (fun _ hk => hk.2) (.slice Ao131 t361.length co131)) (fun _ hk => hk.2) (.slice Ao132 t364.length co132)) (fun _ h_ => h_.1))));(case side10 => exact (Kd.R_reads' Bn.out).2.1);(case side11 => refine (Kd.R_reads' (e := 3) (base := w.heap.size) (ok := fun k_ => (((some k_ ≠ (.slice Ao37 t342.length co37 : Value).ownBlock ∧ some k_ ≠ (.slice Ao46 t323.length co46 : Value).ownBlock) ∧ some k_ ≠ (.slice Ao122 t355.length co122 : Value).ownBlock) ∧ some k_ ≠ (.slice Ao132 t364.length co132 : Value).ownBlock)) (n := t302.length) (c := co28) ?_).2.2;exact (by (with_reducible repeat (first|apply rA|apply rN|apply rD));exact (rM (rF (p := ⟨Bc, 2, none⟩) (rF (p := ⟨Bc, 1, none⟩) (rF (p := ⟨Bc, 0, none⟩) (rT Bp.out Br.out (by decide)) (fun _ hk => hk.2) (.slice Ao125 t358.length co125)) (fun _ hk => hk.2) (.slice Ao131 t361.length co131)) (fun _ hk => hk.2) (.slice Ao132 t364.length co132)) (fun _ h_ => h_.1))));(case side12 => exact (Kd.R_reads' Bp.out).2.1);rintro e w154 ⟨rfl, hb⟩;refine ⟨_, rfl, ?_⟩;have n0_ := Am (rB (by (with_reducible repeat (first|apply rA|apply rN|apply rD));exact (rM (rF (p := ⟨Bc, 2, none⟩) (rF (p := ⟨Bc, 1, none⟩) (rF (p := ⟨Bc, 0, none⟩) (rT Bm.out Br.out (by decide)) (fun _ hk => hk.2) (.slice Ao125 t358.length co125)) (fun _ hk => hk.2) (.slice Ao131 t361.length co131)) (fun _ hk => hk.2) (.slice Ao132 t364.length co132)) (fun _ h_ => h_.1))) hb);have n1_ := Am (rB (by (with_reducible repeat (first|apply rA|apply rN|apply rD));exact (rM (rF (p := ⟨Bc, 2, none⟩) (rF (p := ⟨Bc, 1, none⟩) (rF (p := ⟨Bc, 0, none⟩) (rT Bn.out Br.out (by decide)) (fun _ hk => hk.2) (.slice Ao125 t358.length co125)) (fun _ hk => hk.2) (.slice Ao131 t361.length co131)) (fun _ hk => hk.2) (.slice Ao132 t364.length co132)) (fun _ h_ => h_.1))) hb);have n2_ := Am (rB (by (with_reducible repeat (first|apply rA|apply rN|apply rD));exact (rM (rF (p := ⟨Bc, 2, none⟩) (rF (p := ⟨Bc, 1, none⟩) (rF (p := ⟨Bc, 0, none⟩) (rT Bp.out Br.out (by decide)) (fun _ hk => hk.2) (.slice Ao125 t358.length co125)) (fun _ hk => hk.2) (.slice Ao131 t361.length co131)) (fun _ hk => hk.2) (.slice Ao132 t364.length co132)) (fun _ h_ => h_.1))) hb);have n3_ := Am (rB (by (with_reducible repeat (first|apply rA|apply rN|apply rD));exact (rM (rF (p := ⟨Bc, 2, none⟩) (rF (p := ⟨Bc, 1, none⟩) (rF (p := ⟨Bc, 0, none⟩) (rT Bi.out Br.out (by decide)) (fun _ hk => hk.2) (.slice Ao125 t358.length co125)) (fun _ hk => hk.2) (.slice Ao131 t361.length co131)) (fun _ hk => hk.2) (.slice Ao132 t364.length co132)) (fun _ h_ => h_.1))) hb);have n4_ := Am (rB (by (with_reducible repeat (first|apply rA|apply rN|apply rD));exact (rM (rF (p := ⟨Bc, 2, none⟩) (rF (p := ⟨Bc, 1, none⟩) (rF (p := ⟨Bc, 0, none⟩) (rT Bj.out Br.out (by decide)) (fun _ hk => hk.2) (.slice Ao125 t358.length co125)) (fun _ hk => hk.2) (.slice Ao131 t361.length co131)) (fun _ hk => hk.2) (.slice Ao132 t364.length co132)) (fun _ h_ => h_.1))) hb);have n5_ := Am (rB (by (with_reducible repeat (first|apply rA|apply rN|apply rD));exact (rM (rF (p := ⟨Bc, 2, none⟩) (rF (p := ⟨Bc, 1, none⟩) (rF (p := ⟨Bc, 0, none⟩) (rT Bk.out Br.out (by decide)) (fun _ hk => hk.2) (.slice Ao125 t358.length co125)) (fun _ hk => hk.2) (.slice Ao131 t361.length co131)) (fun _ hk => hk.2) (.slice Ao132 t364.length co132)) (fun _ h_ => h_.1))) hb);have n6_ := Am (rB (by (with_reducible repeat (first|apply rA|apply rN|apply rD));exact (rM (rF (p := ⟨Bc, 2, none⟩) (rF (p := ⟨Bc, 1, none⟩) (rF (p := ⟨Bc, 0, none⟩) (rT Be.out Br.out (by decide)) (fun _ hk => hk.2) (.slice Ao125 t358.length co125)) (fun _ hk => hk.2) (.slice Ao131 t361.length co131)) (fun _ hk => hk.2) (.slice Ao132 t364.length co132)) (fun _ h_ => h_.1))) hb);have n7_ := Am (rB (by (with_reducible repeat (first|apply rA|apply rN|apply rD));exact (rM (rF (p := ⟨Bc, 2, none⟩) (rF (p := ⟨Bc, 1, none⟩) (rF (p := ⟨Bc, 0, none⟩) (rT Bf.out Br.out (by decide)) (fun _ hk => hk.2) (.slice Ao125 t358.length co125)) (fun _ hk => hk.2) (.slice Ao131 t361.length co131)) (fun _ hk => hk.2) (.slice Ao132 t364.length co132)) (fun _ h_ => h_.1))) hb);have n8_ := Am (rB (by (with_reducible repeat (first|apply rA|apply rN|apply rD));exact (rM (rF (p := ⟨Bc, 2, none⟩) (rF (p := ⟨Bc, 1, none⟩) (rF (p := ⟨Bc, 0, none⟩) (rT Bh.out Br.out (by decide)) (fun _ hk => hk.2) (.slice Ao125 t358.length co125)) (fun _ hk => hk.2) (.slice Ao131 t361.length co131)) (fun _ hk => hk.2) (.slice Ao132 t364.length co132)) (fun _ h_ => h_.1))) hb);have n9_ := Am (rB (by (with_reducible repeat (first|apply rA|apply rN|apply rD));exact (rM (rF (p := ⟨Bc, 2, none⟩) (rF (p := ⟨Bc, 1, none⟩) (rF (p := ⟨Bc, 0, none⟩) (rT BM.out Br.out (by decide)) (fun _ hk => hk.2) (.slice Ao125 t358.length co125)) (fun _ hk => hk.2) (.slice Ao131 t361.length co131)) (fun _ hk => hk.2) (.slice Ao132 t364.length co132)) (fun _ h_ => h_.1))) hb);have n10_ := Am (rB (by (with_reducible repeat (first|apply rA|apply rN|apply rD));exact (rM (rF (p := ⟨Bc, 2, none⟩) (rF (p := ⟨Bc, 1, none⟩) (rF (p := ⟨Bc, 0, none⟩) (rT BN.out Br.out (by decide)) (fun _ hk => hk.2) (.slice Ao125 t358.length co125)) (fun _ hk => hk.2) (.slice Ao131 t361.length co131)) (fun _ hk => hk.2) (.slice Ao132 t364.length co132)) (fun _ h_ => h_.1))) hb);have n11_ := Am (rB (by (with_reducible repeat (first|apply rA|apply rN|apply rD));exact (rM (rF (p := ⟨Bc, 2, none⟩) (rF (p := ⟨Bc, 1, none⟩) (rF (p := ⟨Bc, 0, none⟩) (rT BR.out Br.out (by decide)) (fun _ hk => hk.2) (.slice Ao125 t358.length co125)) (fun _ hk => hk.2) (.slice Ao131 t361.length co131)) (fun _ hk => hk.2) (.slice Ao132 t364.length co132)) (fun _ h_ => h_.1))) hb);have n12_ := Am (rB (by (with_reducible repeat (first|apply rA|apply rN|apply rD));exact (rM (rF (p := ⟨Bc, 2, none⟩) (rF (p := ⟨Bc, 1, none⟩) (rF (p := ⟨Bc, 0, none⟩) (rT BS.out Br.out (by decide)) (fun _ hk => hk.2) (.slice Ao125 t358.length co125)) (fun _ hk => hk.2) (.slice Ao131 t361.length co131)) (fun _ hk => hk.2) (.slice Ao132 t364.length co132)) (fun _ h_ => h_.1))) hb);have n13_ := Am (rB (by (with_reducible repeat (first|apply rA|apply rN|apply rD));exact (rM (rF (p := ⟨Bc, 2, none⟩) (rF (p := ⟨Bc, 1, none⟩) (rF (p := ⟨Bc, 0, none⟩) (rT BT.out Br.out (by decide)) (fun _ hk => hk.2) (.slice Ao125 t358.length co125)) (fun _ hk => hk.2) (.slice Ao131 t361.length co131)) (fun _ hk => hk.2) (.slice Ao132 t364.length co132)) (fun _ h_ => h_.1))) hb);have n14_ := Am (rB (by (with_reducible repeat (first|apply rA|apply rN|apply rD));exact (rM (rF (p := ⟨Bc, 2, none⟩) (rF (p := ⟨Bc, 1, none⟩) (rF (p := ⟨Bc, 0, none⟩) (rT BU.out Br.out (by decide)) (fun _ hk => hk.2) (.slice Ao125 t358.length co125)) (fun _ hk => hk.2) (.slice Ao131 t361.length co131)) (fun _ hk => hk.2) (.slice Ao132 t364.length co132)) (fun _ h_ => h_.1))) hb);have n15_ := Am (bB (g := Bt) (o := .cells #[.slice A0_0 l0_0.length c0_0, .slice A0_1 l0_1.length c0_1, .slice A0_2 l0_2.length c0_2] 25 (0, 0)) (by (with_reducible repeat (first|refine bN ?_ _|refine bD ?_|refine bA ?_ _|refine blk_far ?_ B6.out _));exact Bg.out) hb);have n16_ := Am (bB (g := Bq) (o := .cells #[.slice Ao24 t296.length co24, .slice Ao27 t299.length co27, .slice Ao28 t302.length co28] 27 (0, 0)) (by (with_reducible repeat (first|refine bN ?_ _|refine bD ?_|refine bA ?_ _|refine blk_far ?_ B7.out _));exact Bd.out) hb);have n17_ := Am (bB (g := Bo) (o := .cells #[.slice Ao32 t340.length co32, .slice Ao36 t341.length co36, .slice Ao37 t342.length co37] 27 (0, 0)) (by (with_reducible repeat (first|refine bN ?_ _|refine bD ?_|refine bA ?_ _|refine blk_far ?_ B8.out _));exact Bl.out) hb);have n18_ := Am (bB (g := Ba) (o := .cells #[.slice Ao40 t317.length co40, .slice Ao45 t320.length co45, .slice Ao46 t323.length co46] 27 (0, 0)) (by (with_reducible repeat (first|refine bN ?_ _|refine bD ?_|refine bA ?_ _|refine blk_far ?_ B2.out _));exact Bb.out) hb);have n19_ := Am (bB (g := Bc) (o := .cells #[.slice Ao125 t358.length co125, .slice Ao131 t361.length co131, .slice Ao132 t364.length co132] 27 (0, 0)) (by (with_reducible repeat (first|refine bN ?_ _|refine bD ?_|refine bA ?_ _));refine blk_put (cs := #[.slice Ao125 t358.length co125, .slice Ao131 t361.length co131, .slice none 0 0]) ?_ 2 _ rfl;(with_reducible repeat (first|refine bN ?_ _|refine bD ?_|refine bA ?_ _));refine blk_put (cs := #[.slice Ao125 t358.length co125, .slice none 0 0, .slice none 0 0]) ?_ 1 _ rfl;(with_reducible repeat (first|refine bN ?_ _|refine bD ?_|refine bA ?_ _));refine blk_put (cs := #[.slice none 0 0, .slice none 0 0, .slice none 0 0]) ?_ 0 _ rfl;(with_reducible repeat (first|refine bN ?_ _|refine bD ?_|refine bA ?_ _));exact Br.out) hb);have n20_ := Am (bP (by repeat (first|(with_reducible first|exact HB.out|apply oA|apply pN|apply o1|refine bS ?_ Bs.out|refine bS ?_ Bu.out|refine bS ?_ Bv.out|refine bS ?_ Bw.out|refine bS ?_ Df.out)|exact HB.out)) hb);clear Bm Bn Bp Bi Bj Bk Be Bf Bh BM BN BR BS BT BU Bg Bd Bl Bb Br HB;revert n0_ n1_ n2_ n3_ n4_ n5_ n6_ n7_ n8_ n9_ n10_ n11_ n12_ n13_ n14_ n15_ n16_ n17_ n18_ n19_ n20_;intro Bm Bn Bp Bi Bj Bk Be Bf Bh BM BN BR BS BT BU Bg Bd Bl Bb Br HB;(try clear hb);(try clear hb2);(try clear hk);(try clear hi)))
      go_meet
      case rel => exact ⟨_, (true), (by first|rfl|(simp;done)|(simp [*];done)), H', ⟨by have := Fk.out;have := GC.out;first|omega|exact Nat.le_refl _⟩, ⟨by (try simp only [hl317000_69]);(try simp only [hl317001_69]);(try simp only [hl317002_69]);(with_reducible repeat (first|apply rA|apply rN|apply rD));exact rM Bm.out (fun _ hk => ⟨hk.1.1.1.1.1, ⟨hk.1.1.1.1.2.1, ⟨hk.1.1.1.1.2.2.1, ⟨hk.1.1.1.1.2.2.2.1, ⟨hk.1.1.1.1.2.2.2.2, ⟨hk.1.2, hk.2⟩⟩⟩⟩⟩⟩)⟩, ⟨by (try simp only [hl317000_69]);(try simp only [hl317001_69]);(try simp only [hl317002_69]);(with_reducible repeat (first|apply rA|apply rN|apply rD));exact rM Bn.out (fun _ hk => ⟨hk.1.1.1.1.1, ⟨hk.1.1.1.1.2.1, ⟨hk.1.1.1.1.2.2.1, ⟨hk.1.1.1.1.2.2.2.1, ⟨hk.1.1.1.1.2.2.2.2, ⟨hk.1.2, hk.2⟩⟩⟩⟩⟩⟩)⟩, ⟨by (try simp only [hl317000_69]);(try simp only [hl317001_69]);(try simp only [hl317002_69]);(with_reducible repeat (first|apply rA|apply rN|apply rD));exact rM Bp.out (fun _ hk => ⟨hk.1.1.1, ⟨hk.1.1.2, hk.2⟩⟩)⟩, ⟨by (try simp only [hl317000_69]);(try simp only [hl317001_69]);(try simp only [hl317002_69]);(with_reducible repeat (first|apply rA|apply rN|apply rD));exact rM Bi.out (fun _ hk => ⟨hk.1.1.1.1.1, ⟨hk.1.1.1.1.2.1, ⟨hk.1.1.1.1.2.2.1, ⟨hk.1.1.1.1.2.2.2.1, ⟨hk.1.1.1.1.2.2.2.2, ⟨hk.1.2, hk.2⟩⟩⟩⟩⟩⟩)⟩, ⟨by (try simp only [hl317000_69]);(try simp only [hl317001_69]);(try simp only [hl317002_69]);(with_reducible repeat (first|apply rA|apply rN|apply rD));exact rM Bj.out (fun _ hk => ⟨hk.1.1.1.1.1, ⟨hk.1.1.1.1.2.1, ⟨hk.1.1.1.1.2.2.1, ⟨hk.1.1.1.1.2.2.2.1, ⟨hk.1.1.1.1.2.2.2.2, ⟨hk.1.2, hk.2⟩⟩⟩⟩⟩⟩)⟩, ⟨by (try simp only [hl317000_69]);(try simp only [hl317001_69]);(try simp only [hl317002_69]);(with_reducible repeat (first|apply rA|apply rN|apply rD));exact rM Bk.out (fun _ hk => ⟨hk.1.1.1, ⟨hk.1.1.2, hk.2⟩⟩)⟩, ⟨by (try simp only [hl317000_69]);(try simp only [hl317001_69]);(try simp only [hl317002_69]);(with_reducible repeat (first|apply rA|apply rN|apply rD));exact rM Be.out (fun _ hk => ⟨hk.1.1.1.1.1, ⟨hk.1.1.1.1.2.1, ⟨hk.1.1.1.1.2.2.1, ⟨hk.1.1.1.1.2.2.2.1, ⟨hk.1.1.1.1.2.2.2.2, ⟨hk.1.2, hk.2⟩⟩⟩⟩⟩⟩)⟩, ⟨by (try simp only [hl317000_69]);(try simp only [hl317001_69]);(try simp only [hl317002_69]);(with_reducible repeat (first|apply rA|apply rN|apply rD));exact rM Bf.out (fun _ hk => ⟨hk.1.1.1.1.1, ⟨hk.1.1.1.1.2.1, ⟨hk.1.1.1.1.2.2.1, ⟨hk.1.1.1.1.2.2.2.1, ⟨hk.1.1.1.1.2.2.2.2, ⟨hk.1.2, hk.2⟩⟩⟩⟩⟩⟩)⟩, ⟨by (try simp only [hl317000_69]);(try simp only [hl317001_69]);(try simp only [hl317002_69]);(with_reducible repeat (first|apply rA|apply rN|apply rD));exact rM Bh.out (fun _ hk => ⟨hk.1.1.1, ⟨hk.1.1.2, hk.2⟩⟩)⟩, ⟨by (try simp only [hl317000_69]);(try simp only [hl317001_69]);(try simp only [hl317002_69]);(with_reducible repeat (first|apply rA|apply rN|apply rD));exact rM BS.out (fun _ hk => ⟨hk.1.1.1.1.1.1.1.2, ⟨hk.1.1.1.1.1.1.2, ⟨hk.1.1.1.1.1.2, ⟨hk.1.1.1.1.2, ⟨hk.1.1.1.2, ⟨hk.1.1.2, hk.1.1.1.1.1.1.1.1⟩⟩⟩⟩⟩⟩)⟩, ⟨by (try simp only [hl317000_69]);(try simp only [hl317001_69]);(try simp only [hl317002_69]);(with_reducible repeat (first|apply rA|apply rN|apply rD));exact rM BT.out (fun _ hk => ⟨hk.1.1.1.1.1.1.1.2, ⟨hk.1.1.1.1.1.1.2, ⟨hk.1.1.1.1.1.2, ⟨hk.1.1.1.1.2, ⟨hk.1.1.1.2, ⟨hk.1.1.2, hk.1.1.1.1.1.1.1.1⟩⟩⟩⟩⟩⟩)⟩, ⟨by (try simp only [hl317000_69]);(try simp only [hl317001_69]);(try simp only [hl317002_69]);(with_reducible repeat (first|apply rA|apply rN|apply rD));exact rM BU.out (fun _ hk => ⟨hk.1.1.1.2, ⟨hk.1.1.2, hk.1.2⟩⟩)⟩, ⟨by (try simp only [hl317000_69]);(try simp only [hl317001_69]);(try simp only [hl317002_69]);(with_reducible repeat (first|refine bN ?_ _|refine bD ?_|refine bA ?_ _));exact Bg.out⟩, ⟨by (try simp only [hl317000_69]);(try simp only [hl317001_69]);(try simp only [hl317002_69]);(with_reducible repeat (first|refine bN ?_ _|refine bD ?_|refine bA ?_ _));exact Bd.out⟩, ⟨by (try simp only [hl317000_69]);(try simp only [hl317001_69]);(try simp only [hl317002_69]);(with_reducible repeat (first|refine bN ?_ _|refine bD ?_|refine bA ?_ _));exact Bl.out⟩, ⟨by (try simp only [hl317000_69]);(try simp only [hl317001_69]);(try simp only [hl317002_69]);(with_reducible repeat (first|refine bN ?_ _|refine bD ?_|refine bA ?_ _));exact Bb.out⟩, ⟨by (try simp only [hl317000_69]);(try simp only [hl317001_69]);(try simp only [hl317002_69]);(with_reducible repeat (first|refine bN ?_ _|refine bD ?_|refine bA ?_ _));exact Br.out⟩, ⟨by repeat (first|(with_reducible first|exact HB.out|apply oA|apply pN|apply o1|refine bS ?_ Bs.out|refine bS ?_ Bu.out|refine bS ?_ Bv.out|refine bS ?_ Bw.out|refine bS ?_ Df.out)|exact HB.out)⟩⟩
     case rest =>
      clear HC108
      try clear c1
      try clear c2
      try clear p2
      try clear c3
      try clear c4
      try clear c5
      try clear c5b0
      try clear c6
      try clear c7
      try clear c8
      try clear c9
      try clear c10
      try clear c11
      try clear c12
      try clear c13
      try clear c14
      try clear c15
      try clear c17
      try clear c18
      try clear c19
      try clear c25
      try clear c26
      try clear c33
      try clear c34
      try clear c41
      try clear c42
      try clear c43
      try clear c48
      try clear c49
      try clear c50
      try clear c51
      try clear c53
      try clear c54
      try clear c57
      try clear c58
      try clear c59
      try clear c61
      try clear c62
      try clear c65
      try clear c68
      try clear c77
      try clear c78
      try clear c79
      try clear c82
      try clear c82b0
      try clear c84
      try clear c85
      try clear c86
      try clear c87
      try clear c89
      try clear c90
      try clear c93
      try clear c94
      try clear c95
      try clear c97
      try clear c98
      try clear c101
      try clear c104
      try clear c104b0
      try clear c105
      try clear c105b0
      try clear c105b1
      try clear c109
      try clear c110
      try clear c111
      try clear c116
      try clear c117
      try clear c126
      try clear c127
      try clear c128
      try clear c129
      try clear c134
      try clear c135
      try clear c136
      try clear c137
      try clear c138
      try clear c140
      try clear c141
      try clear c142
      try clear c145
      try clear c146
      try clear c147
      try clear c148
      try clear c150
      try clear c151
      try clear c152
      try clear FP
      try clear FQ
      try clear FR
      try clear FV
      try clear FW
      try clear FX
      try clear F1
      try clear F2
      try clear F3
      try clear F7
      try clear F8
      try clear F9
      try clear Gd
      try clear Ge
      try clear Gf
      try clear Gj
      try clear Gk
      try clear Gl
      try clear Gq
      try clear Gr
      try clear Gs
      try clear Gw
      try clear Gx
      try clear Gy
      try clear Dg
      try clear Dh
      try clear Di
      try clear Dm
      try clear Dn
      try clear Do
      try clear Ds
      try clear Dt
      try clear Du
      try clear Dy
      try clear Dz
      try clear DA
      try clear DE
      try clear DF
      try clear DG
      try clear DK
      try clear DL
      try clear DM
      try clear DQ
      try clear DR
      try clear DS
      try clear DW
      try clear DX
      try clear DY
      try clear D2
      try clear D3
      try clear D4
      try clear D8
      try clear D9
      try clear Fa
      try clear Fe
      try clear Ff
      try clear Fg
      try clear Fl
      try clear Fm
      try clear Fn
      try clear Fr
      try clear Fs
      try clear Ft
      try clear Fx
      try clear Fy
      try clear Fz
      try clear FD
      try clear FE
      try clear FF
      try clear FJ
      try clear FK
      try clear FL
      try clear FS
      try clear FT
      try clear FU
      try clear FY
      try clear FZ
      try clear F0
      try clear F4
      try clear F5
      try clear F6
      try clear Ga
      try clear Gb
      try clear Gc
      try clear Gg
      try clear Gh
      try clear Gi
      try clear Gm
      try clear Gn
      try clear Gp
      try clear Gt
      try clear Gu
      try clear Gv
      try clear Gz
      try clear GA
      try clear GB
      try clear Dj
      try clear Dk
      try clear Dl
      try clear Dp
      try clear Dq
      try clear Dr
      try clear Dv
      try clear Dw
      try clear Dx
      try clear DB
      try clear DC
      try clear DD
      try clear DH
      try clear DI
      try clear DJ
      try clear DN
      try clear DO
      try clear DP
      try clear DT
      try clear DU
      try clear DV
      try clear DZ
      try clear D0
      try clear D1
      try clear D5
      try clear D6
      try clear D7
      try clear Fb
      try clear Fc
      try clear Fd
      try clear Fh
      try clear Fi
      try clear Fj
      try clear Fo
      try clear Fp
      try clear Fq
      try clear Fu
      try clear Fv
      try clear Fw
      try clear FA
      try clear FB
      try clear FC
      try clear FG
      try clear FH
      try clear FI
      try clear FM
      try clear FN
      try clear FO
      try clear p2
      obtain ⟨kq, x97_107, rfl, HA, MC, Bm, Bn, Bp, Bi, Bj, Bk, Be, Bf, Bh, B3, B4, B5, Bg, Bd, Bl, Bb, Br, HB⟩ := hcut
      have hl328000_107 := (Kd.R_reads' Be.out).1
      rw [hl328000_107] at Be
      (try simp only [hl328000_107])
      (try simp only [hl328000_107] at Bg)
      (try simp only [hl328000_107] at Bd)
      (try simp only [hl328000_107] at Bl)
      (try simp only [hl328000_107] at Bb)
      (try simp only [hl328000_107] at Br)
      (try simp only [hl328000_107] at Bm)
      (try simp only [hl328000_107] at Bn)
      (try simp only [hl328000_107] at Bp)
      (try simp only [hl328000_107] at Bi)
      (try simp only [hl328000_107] at Bj)
      (try simp only [hl328000_107] at Bk)
      (try simp only [hl328000_107] at Bf)
      (try simp only [hl328000_107] at Bh)
      (try simp only [hl328000_107] at B3)
      (try simp only [hl328000_107] at B4)
      (try simp only [hl328000_107] at B5)
      have hl328001_107 := (Kd.R_reads' Bf.out).1
      rw [hl328001_107] at Bf
      (try simp only [hl328001_107])
      (try simp only [hl328001_107] at Bg)
      (try simp only [hl328001_107] at Bd)
      (try simp only [hl328001_107] at Bl)
      (try simp only [hl328001_107] at Bb)
      (try simp only [hl328001_107] at Br)
      (try simp only [hl328001_107] at Bm)
      (try simp only [hl328001_107] at Bn)
      (try simp only [hl328001_107] at Bp)
      (try simp only [hl328001_107] at Bi)
      (try simp only [hl328001_107] at Bj)
      (try simp only [hl328001_107] at Bk)
      (try simp only [hl328001_107] at Be)
      (try simp only [hl328001_107] at Bh)
      (try simp only [hl328001_107] at B3)
      (try simp only [hl328001_107] at B4)
      (try simp only [hl328001_107] at B5)
      have hl328002_107 := (Kd.R_reads' Bh.out).1
      rw [hl328002_107] at Bh
      (try simp only [hl328002_107])
      (try simp only [hl328002_107] at Bg)
      (try simp only [hl328002_107] at Bd)
      (try simp only [hl328002_107] at Bl)
      (try simp only [hl328002_107] at Bb)
      (try simp only [hl328002_107] at Br)
      (try simp only [hl328002_107] at Bm)
      (try simp only [hl328002_107] at Bn)
      (try simp only [hl328002_107] at Bp)
      (try simp only [hl328002_107] at Bi)
      (try simp only [hl328002_107] at Bj)
      (try simp only [hl328002_107] at Bk)
      (try simp only [hl328002_107] at Be)
      (try simp only [hl328002_107] at Bf)
      (try simp only [hl328002_107] at B3)
      (try simp only [hl328002_107] at B4)
      (try simp only [hl328002_107] at B5)
      cases kq with
     |zero => exact absurd HA.out (by simp [laws_FnExactSigsSet.j2])
     |succ kj107 =>
       have H := HA.out
       clear HA
       simp only [laws_FnExactSigsSet.j2] at H
       by_cases c155 : x97_107 = true
       ·subst c155
        have H1 : (some false) = some r := by rw [if_pos rfl] at H;exact H
        clear H
        have H := H1
        clear H1
        exact absurd ((Option.some.inj H).trans hT_.out) (by decide)
       replace c155 := Bool.eq_false_iff.mpr c155
       subst c155
       have H1 : ((laws_heldSigs.f kj107 t345 t346 t347 1).bind fun t370 => (if t370 < 0 then (some false) else (if t370 = t344 then (some true) else (some false)))) = some r := by rw [if_neg (show ¬ (false = true) by decide)] at H;exact H
       clear H
       have H := H1
       clear H1
       replace H := Option.bind_eq_some_iff.mp H
       obtain ⟨t370, A1560, H⟩ := H
       replace H : (if t370 < 0 then (some false) else (if t370 = t344 then (some true) else (some false))) = some r := H
       have A156 := Am A1560
       clear A1560
       by_cases c157 : t370 < 0
       ·rw [if_pos c157] at H
        have c157b0 : decide (t370 < 0) = true := decide_eq_true c157
        clear c157
        exact absurd ((Option.some.inj H).trans hT_.out) (by decide)
       rw [if_neg c157] at H
       have c157b0 : decide (t370 < 0) = false := decide_eq_false c157
       clear c157
       by_cases c158 : t370 = t344
       rotate_left
       ·rw [if_neg c158] at H
        have c158b0 : (t370 == t344) = false := beq_eq_false_iff_ne.mpr c158
        have c158b1 : (t370 != t344) = true := bne_iff_ne.mpr c158
        exact absurd ((Option.some.inj H).trans hT_.out) (by decide)
       rw [if_pos c158] at H
       have c158b0 : (t370 == t344) = true := beq_iff_eq.mpr c158
       have c158b1 : (t370 != t344) = false := bne_eq_false_iff_eq.mpr c158
       clear c158
       obtain rfl := Option.some.inj H
       have Ju := B1.out
       have Jv := BK.out
       have Jw := BL.out
       have Jx := BG.out
       have Jy := BX.out
       have Jz := BH.out
       have JA := B2.out
       have JB := Da.out
       have GE : wc.cell? ⟨Ba, 0, none⟩ = some (.slice Ao40 t345.length co40) := (bC Bb.out 0).trans rfl
       have GF : wc.cell? ⟨Ba, 1, none⟩ = some (.slice Ao45 t346.length co45) := (bC Bb.out 1).trans rfl
       have GG : wc.cell? ⟨Ba, 2, none⟩ = some (.slice Ao46 t347.length co46) := (bC Bb.out 2).trans rfl
       have GH := bF Bb.out 0
       have GI := bF Bb.out 1
       have GJ := bF Bb.out 2
       go_wp2_with (first|((with_reducible refine gate_callee (f := 19) rfl ?_);refine goesL_ (some 100) rfl rfl Try.func19 (by kernel_rfl) rfl #[.agg #[.slice Ao40 t345.length co40, .slice Ao45 t346.length co45, .slice Ao46 t347.length co46], .int .i64 1] rfl (by (try simp only [lM, lC, lN]);first|done|rfl|(simp only [lD, lT];rfl)) ?_;(with_reducible refine (laws_heldSigs.calls kj107 _ _ t345 _ _ t346 _ _ t347 1 t370 _ ?side1 ?side2 ?side3 ?side4 ?side5 ?side6 A156.out).mono ?_);(case side1 => repeat (first|exact (Kd.R_reads' Be.out).2.2|(with_reducible refine cA ?_ _)|(with_reducible refine cN ?_ _)|(with_reducible refine cD ?_)));(case side2 => exact (Kd.R_reads' Be.out).2.1);(case side3 => repeat (first|exact (Kd.R_reads' Bf.out).2.2|(with_reducible refine cA ?_ _)|(with_reducible refine cN ?_ _)|(with_reducible refine cD ?_)));(case side4 => exact (Kd.R_reads' Bf.out).2.1);(case side5 => repeat (first|exact (Kd.R_reads' Bh.out).2.2|(with_reducible refine cA ?_ _)|(with_reducible refine cN ?_ _)|(with_reducible refine cD ?_)));(case side6 => exact (Kd.R_reads' Bh.out).2.1);rintro e w164 ⟨rfl, hb⟩;refine ⟨_, rfl, ?_⟩;have n0_ := Am (rB (rL Bm.out) hb);have n1_ := Am (rB (rL Bn.out) hb);have n2_ := Am (rB (rL Bp.out) hb);have n3_ := Am (rB (rL Bi.out) hb);have n4_ := Am (rB (rL Bj.out) hb);have n5_ := Am (rB (rL Bk.out) hb);have n6_ := Am (rB (rL Be.out) hb);have n7_ := Am (rB (rL Bf.out) hb);have n8_ := Am (rB (rL Bh.out) hb);have n9_ := Am (rB (rL B3.out) hb);have n10_ := Am (rB (rL B4.out) hb);have n11_ := Am (rB (rL B5.out) hb);have n12_ := Am (bB (g := Bt) (o := .cells #[.slice A0_0 l0_0.length c0_0, .slice A0_1 l0_1.length c0_1, .slice A0_2 l0_2.length c0_2] 25 (0, 0)) (bL Bg.out) hb);have n13_ := Am (bB (g := Bq) (o := .cells #[.slice Ao24 t296.length co24, .slice Ao27 t299.length co27, .slice Ao28 t302.length co28] 27 (0, 0)) (bL Bd.out) hb);have n14_ := Am (bB (g := Bo) (o := .cells #[.slice Ao32 t340.length co32, .slice Ao36 t341.length co36, .slice Ao37 t342.length co37] 27 (0, 0)) (bL Bl.out) hb);have n15_ := Am (bB (g := Ba) (o := .cells #[.slice Ao40 t345.length co40, .slice Ao45 t346.length co45, .slice Ao46 t347.length co46] 27 (0, 0)) (bL Bb.out) hb);have n16_ := Am (bB (g := Bc) (o := .cells #[.slice Ao125 t358.length co125, .slice Ao131 t361.length co131, .slice Ao132 t364.length co132] 27 (0, 0)) (bL Br.out) hb);have n17_ := Am (bP (by repeat (first|(with_reducible first|exact HB.out|apply oA|apply pN|apply o1|refine bS ?_ Bs.out|refine bS ?_ Bu.out|refine bS ?_ Bv.out|refine bS ?_ Bw.out|refine bS ?_ Df.out)|exact HB.out)) hb);clear Bm Bn Bp Bi Bj Bk Be Bf Bh B3 B4 B5 Bg Bd Bl Bb Br HB;revert n0_ n1_ n2_ n3_ n4_ n5_ n6_ n7_ n8_ n9_ n10_ n11_ n12_ n13_ n14_ n15_ n16_ n17_;intro Bm Bn Bp Bi Bj Bk Be Bf Bh B3 B4 B5 Bg Bd Bl Bb Br HB;(try clear hb);(try clear hb2);(try clear hk);(try clear hi)))
       go_ret
       exact ⟨by first|rfl|(simp [errW_none, errW_some] <;> rfl)|(simp [*, errW_none, errW_some] <;> rfl), by repeat (first|(with_reducible first|exact HB.out|apply oA|apply pN|apply o1|refine bS ?_ Bs.out|refine bS ?_ Bu.out|refine bS ?_ Bv.out|refine bS ?_ Bw.out|refine bS ?_ Df.out)|exact HB.out)⟩
/-- THE ONE PURE STATEMENT of laws_FnExactSigsSet. -/
def laws_FnExactSigsSet.Pure : Prop := ∀ (l0_0 : List Bool) (l0_1 : List Bool) (l0_2 : List Int) (a1 : Int) (a2 : Int), l0_0.length ≤ 9223372036854775807 → (∀ x0_ ∈ l0_0, True) → l0_1.length ≤ 9223372036854775807 → (∀ x0_ ∈ l0_1, True) → l0_2.length ≤ 9223372036854775807 → (∀ x0_ ∈ l0_2, (Lit.int .i64 x0_).wf = true) → (Lit.int .i64 a1).wf = true → (Lit.int .i64 a2).wf = true → ∃ k, laws_FnExactSigsSet.f k l0_0 l0_1 l0_2 a1 a2 = some true

end Go.Proofs.Ytehekikjadjdaaa.PFnExactSigsSet
