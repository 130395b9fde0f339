/- Proved here, without a condition beyond those that each theorem states: what the Go functions named below do is what the plain functions of the same names say. Written by xprint.py, a program of this session. -/
import Derived.Test.YtehekikjadjdaaaPFnExactPagesKeepx0
import Derived.Test.YtehekikjadjdaaaPFnExactPagesKeepx1
import Derived.Test.YtehekikjadjdaaaPFnExactPagesKeepx2
import Derived.Test.YtehekikjadjdaaaPFnExactPagesKeepx3
import Derived.Test.YtehekikjadjdaaaPFnExactPagesKeepx4
import Derived.Test.YtehekikjadjdaaaPFnExactPagesKeepx5
import Derived.Test.YtehekikjadjdaaaPFnExactPagesKeepx6
namespace Go.Proofs.Ytehekikjadjdaaa.PFnExactPagesKeep
open Go.RowKit Go.Proofs.YtehekikjadjdaaaW.PrintWords Go.Proofs.YtehekikjadjdaaaW.PrintLast Go.Proofs.YtehekikjadjdaaaW.PrintMore
attribute [local go_sem] max2_int min2_int max_two min_two max_three min_three max_four min_four   -- for this text's walks alone
set_option linter.unusedVariables false
set_option linter.unusedSimpArgs false

attribute [local go_sem ↓] isSome_setCell_
/-! ### laws_FnExactPagesKeep: function 11 -/
mutual
def laws_FnExactPagesKeep.j0 : Nat → Int → Bool → Bool → Bool → List ByteArray → List Int → List ByteArray → List Int → List ByteArray → List Int → List ByteArray → List Int → Option (Bool)
 | 0, _, _, _, _, _, _, _, _, _, _, _, _ => none
 | k + 1, x1, x7, x10, x44, x228000, x228001, x243000, x243001, x250000, x250001, x258000, x258001 => if x44 = true then (some false) else ((laws_toPages.f k x228000 x228001).bind fun bt259 => ((laws_eqPages.f k x250000 x250001 bt259.1 bt259.2).bind fun t265 => (if t265 = true then ((laws_markPages.f k x250000 x250001 1).bind fun bt266 => (if bt266.1 < 0 then (laws_FnExactPagesKeep.j1 k x1 x7 true x228000 x228001 x243000 x243001 x258000 x258001) else ((laws_eqPages.f k x258000 x258001 x243000 x243001).bind fun t269 => (if t269 = true then (laws_FnExactPagesKeep.j1 k x1 x7 (x10 != x7) x228000 x228001 x243000 x243001 x258000 x258001) else (laws_FnExactPagesKeep.j1 k x1 x7 true x228000 x228001 x243000 x243001 x258000 x258001))))) else (some false))))
def laws_FnExactPagesKeep.j1 : Nat → Int → Bool → Bool → List ByteArray → List Int → List ByteArray → List Int → List ByteArray → List Int → Option (Bool)
 | 0, _, _, _, _, _, _, _, _, _ => none
 | k + 1, x1, x7, x65, x228000, x228001, x243000, x243001, x258000, x258001 => if x65 = true then (some false) else ((laws_markPages.f k x258000 x258001 1).bind fun bt270 => ((laws_heldPages.f k bt270.2.1 bt270.2.2 1).bind fun t273 => (if t273 < 0 then (some false) else (if t273 = bt270.1 then ((laws_toPages.f k x228000 x228001).bind fun bt274 => ((impl_PagesKeep.f k bt274.1 bt274.2 x1).bind fun bt280 => ((laws_eqPages.f k bt280.1 bt280.2.1 x243000 x243001).bind fun t288 => (if t288 = true then (laws_FnExactPagesKeep.j2 k bt270.1 (bt280.2.2 != x7) bt270.2.1 bt270.2.2) else (laws_FnExactPagesKeep.j2 k bt270.1 true bt270.2.1 bt270.2.2))))) else (some false)))))
def laws_FnExactPagesKeep.j2 : Nat → Int → Bool → List ByteArray → List Int → Option (Bool)
 | 0, _, _, _, _ => none
 | k + 1, x12, x92, x258000, x258001 => if x92 = true then (some false) else ((laws_heldPages.f k x258000 x258001 1).bind fun t289 => (if t289 < 0 then (some false) else (if t289 = x12 then (some true) else (some false))))
end
def laws_FnExactPagesKeep.f (k : Nat) (l0_0 : List ByteArray) (l0_1 : List Int) (a1 : Int) : Option (Bool) := (laws_szPages.f k l0_0 l0_1 1048576).bind fun t228 => (if t228 < 0 then (some true) else ((laws_toPages.f k l0_0 l0_1).bind fun bt229 => ((spec_PagesKeep.f k bt229.1 bt229.2 a1).bind fun bt235 => ((laws_toPages.f k l0_0 l0_1).bind fun bt243 => ((impl_PagesKeep.f k bt243.1 bt243.2 a1).bind fun bt250 => ((laws_eqPages.f k bt250.1 bt250.2.1 bt235.1 bt235.2.1).bind fun t258 => (if t258 = true then (laws_FnExactPagesKeep.j0 k a1 bt235.2.2 bt250.2.2 (bt250.2.2 != bt235.2.2) l0_0 l0_1 bt235.1 bt235.2.1 bt243.1 bt243.2 bt250.1 bt250.2.1) else (laws_FnExactPagesKeep.j0 k a1 bt235.2.2 bt250.2.2 true l0_0 l0_1 bt235.1 bt235.2.1 bt243.1 bt243.2 bt250.1 bt250.2.1))))))))
theorem laws_FnExactPagesKeep.mono_l : ∀ k, (∀ y0 y1 y2 y3 y4 y5 y6 y7 y8 y9 y10 y11, LeO (laws_FnExactPagesKeep.j0 k y0 y1 y2 y3 y4 y5 y6 y7 y8 y9 y10 y11) (laws_FnExactPagesKeep.j0 (k + 1) y0 y1 y2 y3 y4 y5 y6 y7 y8 y9 y10 y11)) ∧ (∀ y0 y1 y2 y3 y4 y5 y6 y7 y8, LeO (laws_FnExactPagesKeep.j1 k y0 y1 y2 y3 y4 y5 y6 y7 y8) (laws_FnExactPagesKeep.j1 (k + 1) y0 y1 y2 y3 y4 y5 y6 y7 y8)) ∧ (∀ y0 y1 y2 y3, LeO (laws_FnExactPagesKeep.j2 k y0 y1 y2 y3) (laws_FnExactPagesKeep.j2 (k + 1) y0 y1 y2 y3))
 | 0 => ⟨fun _ _ _ _ _ _ _ _ _ _ _ _ r h => by simp [laws_FnExactPagesKeep.j0] at h, fun _ _ _ _ _ _ _ _ _ r h => by simp [laws_FnExactPagesKeep.j1] at h, fun _ _ _ _ r h => by simp [laws_FnExactPagesKeep.j2] at h⟩
 | k + 1 => by
  obtain ⟨ih0, ih1, ih2⟩ := laws_FnExactPagesKeep.mono_l k
  refine ⟨?_, ?_, ?_⟩
  ·intro y0 y1 y2 y3 y4 y5 y6 y7 y8 y9 y10 y11
   unfold laws_FnExactPagesKeep.j0
   repeat' first
   | (with_reducible exact ih0 _ _ _ _ _ _ _ _ _ _ _ _)
   | (with_reducible exact ih1 _ _ _ _ _ _ _ _ _)
   | (with_reducible exact ih2 _ _ _ _)
   | (with_reducible exact impl_PagesKeep.mono _ _ _ _)
   | (with_reducible exact laws_eqPages.mono _ _ _ _ _)
   | (with_reducible exact laws_heldPages.mono _ _ _ _)
   | (with_reducible exact laws_markPages.mono _ _ _ _)
   | (with_reducible exact laws_szPages.mono _ _ _ _)
   | (with_reducible exact laws_toPages.mono _ _ _)
   | (with_reducible exact spec_PagesKeep.mono _ _ _ _)
   | (with_reducible exact LeO.refl _)
   | (with_reducible exact LeO.none _)
   | (with_reducible refine LeO.ite ?_ ?_)
   | (with_reducible refine LeO.bind ?_ (fun _ => ?_))
   | exact ih0 _ _ _ _ _ _ _ _ _ _ _ _
   | exact ih1 _ _ _ _ _ _ _ _ _
   | exact ih2 _ _ _ _
   | exact impl_PagesKeep.mono _ _ _ _
   | exact laws_eqPages.mono _ _ _ _ _
   | exact laws_heldPages.mono _ _ _ _
   | exact laws_markPages.mono _ _ _ _
   | exact laws_szPages.mono _ _ _ _
   | exact laws_toPages.mono _ _ _
   | exact spec_PagesKeep.mono _ _ _ _
   | exact LeO.none _
   | refine LeO.ite ?_ ?_
   | refine LeO.bind ?_ (fun _ => ?_)
  ·intro y0 y1 y2 y3 y4 y5 y6 y7 y8
   unfold laws_FnExactPagesKeep.j1
   repeat' first
   | (with_reducible exact ih0 _ _ _ _ _ _ _ _ _ _ _ _)
   | (with_reducible exact ih1 _ _ _ _ _ _ _ _ _)
   | (with_reducible exact ih2 _ _ _ _)
   | (with_reducible exact impl_PagesKeep.mono _ _ _ _)
   | (with_reducible exact laws_eqPages.mono _ _ _ _ _)
   | (with_reducible exact laws_heldPages.mono _ _ _ _)
   | (with_reducible exact laws_markPages.mono _ _ _ _)
   | (with_reducible exact laws_szPages.mono _ _ _ _)
   | (with_reducible exact laws_toPages.mono _ _ _)
   | (with_reducible exact spec_PagesKeep.mono _ _ _ _)
   | (with_reducible exact LeO.refl _)
   | (with_reducible exact LeO.none _)
   | (with_reducible refine LeO.ite ?_ ?_)
   | (with_reducible refine LeO.bind ?_ (fun _ => ?_))
   | exact ih0 _ _ _ _ _ _ _ _ _ _ _ _
   | exact ih1 _ _ _ _ _ _ _ _ _
   | exact ih2 _ _ _ _
   | exact impl_PagesKeep.mono _ _ _ _
   | exact laws_eqPages.mono _ _ _ _ _
   | exact laws_heldPages.mono _ _ _ _
   | exact laws_markPages.mono _ _ _ _
   | exact laws_szPages.mono _ _ _ _
   | exact laws_toPages.mono _ _ _
   | exact spec_PagesKeep.mono _ _ _ _
   | exact LeO.none _
   | refine LeO.ite ?_ ?_
   | refine LeO.bind ?_ (fun _ => ?_)
  ·intro y0 y1 y2 y3
   unfold laws_FnExactPagesKeep.j2
   repeat' first
   | (with_reducible exact ih0 _ _ _ _ _ _ _ _ _ _ _ _)
   | (with_reducible exact ih1 _ _ _ _ _ _ _ _ _)
   | (with_reducible exact ih2 _ _ _ _)
   | (with_reducible exact impl_PagesKeep.mono _ _ _ _)
   | (with_reducible exact laws_eqPages.mono _ _ _ _ _)
   | (with_reducible exact laws_heldPages.mono _ _ _ _)
   | (with_reducible exact laws_markPages.mono _ _ _ _)
   | (with_reducible exact laws_szPages.mono _ _ _ _)
   | (with_reducible exact laws_toPages.mono _ _ _)
   | (with_reducible exact spec_PagesKeep.mono _ _ _ _)
   | (with_reducible exact LeO.refl _)
   | (with_reducible exact LeO.none _)
   | (with_reducible refine LeO.ite ?_ ?_)
   | (with_reducible refine LeO.bind ?_ (fun _ => ?_))
   | exact ih0 _ _ _ _ _ _ _ _ _ _ _ _
   | exact ih1 _ _ _ _ _ _ _ _ _
   | exact ih2 _ _ _ _
   | exact impl_PagesKeep.mono _ _ _ _
   | exact laws_eqPages.mono _ _ _ _ _
   | exact laws_heldPages.mono _ _ _ _
   | exact laws_markPages.mono _ _ _ _
   | exact laws_szPages.mono _ _ _ _
   | exact laws_toPages.mono _ _ _
   | exact spec_PagesKeep.mono _ _ _ _
   | exact LeO.none _
   | refine LeO.ite ?_ ?_
   | refine LeO.bind ?_ (fun _ => ?_)
theorem laws_FnExactPagesKeep.mono : ∀ a0 a1 a2 k, LeO (laws_FnExactPagesKeep.f k a0 a1 a2) (laws_FnExactPagesKeep.f (k + 1) a0 a1 a2) := by
 intro a0 a1 a2 k
 obtain ⟨ih0, ih1, ih2⟩ := laws_FnExactPagesKeep.mono_l k
 unfold laws_FnExactPagesKeep.f
 repeat' first
   | (with_reducible exact ih0 _ _ _ _ _ _ _ _ _ _ _ _)
   | (with_reducible exact ih1 _ _ _ _ _ _ _ _ _)
   | (with_reducible exact ih2 _ _ _ _)
   | (with_reducible exact impl_PagesKeep.mono _ _ _ _)
   | (with_reducible exact laws_eqPages.mono _ _ _ _ _)
   | (with_reducible exact laws_heldPages.mono _ _ _ _)
   | (with_reducible exact laws_markPages.mono _ _ _ _)
   | (with_reducible exact laws_szPages.mono _ _ _ _)
   | (with_reducible exact laws_toPages.mono _ _ _)
   | (with_reducible exact spec_PagesKeep.mono _ _ _ _)
   | (with_reducible exact LeO.refl _)
   | (with_reducible exact LeO.none _)
   | (with_reducible refine LeO.ite ?_ ?_)
   | (with_reducible refine LeO.bind ?_ (fun _ => ?_))
   | exact ih0 _ _ _ _ _ _ _ _ _ _ _ _
   | exact ih1 _ _ _ _ _ _ _ _ _
   | exact ih2 _ _ _ _
   | exact impl_PagesKeep.mono _ _ _ _
   | exact laws_eqPages.mono _ _ _ _ _
   | exact laws_heldPages.mono _ _ _ _
   | exact laws_markPages.mono _ _ _ _
   | exact laws_szPages.mono _ _ _ _
   | exact laws_toPages.mono _ _ _
   | exact spec_PagesKeep.mono _ _ _ _
   | exact LeO.none _
   | refine LeO.ite ?_ ?_
   | refine LeO.bind ?_ (fun _ => ?_)
set_option maxHeartbeats 2000000 in
set_option maxRecDepth 100000 in
theorem laws_FnExactPagesKeep.calls (k : Nat) (A0_0 : Option Addr) (c0_0 : Nat) (l0_0 : List ByteArray) (A0_1 : Option Addr) (c0_1 : Nat) (l0_1 : List Int) (a1 : Int) (r : Bool) (w : World) (hr0_0 : Kd.C Kd.string w A0_0 l0_0.length l0_0) (hc0_0 : l0_0.length ≤ c0_0) (hr0_1 : Kd.C (Kd.int .i64) w A0_1 l0_1.length l0_1) (hc0_1 : l0_1.length ≤ c0_1) (h : laws_FnExactPagesKeep.f k l0_0 l0_1 a1 = some r) (hT_ : Aside0 (r = true)) :
  Calls Try.prog 11 #[.agg #[.slice A0_0 l0_0.length c0_0, .slice A0_1 l0_1.length c0_1], .int .i64 a1] w fun e w' => e = .returned (.bool r) ∧ Below w.heap.size w w' := by
 have hu59 := Try.underlying59
 have hu61 := Try.underlying61
 have HR0_0 := Am hr0_0
 have HC0_0 := Am hc0_0
 clear hr0_0 hc0_0
 have HR0_1 := Am hr0_1
 have HC0_1 := Am hc0_1
 clear hr0_1 hc0_1
 have HB := Am (Below.refl w.heap.size w)
 have H : ((laws_szPages.f k l0_0 l0_1 1048576).bind fun t228 => (if t228 < 0 then (some true) else ((laws_toPages.f k l0_0 l0_1).bind fun bt229 => ((spec_PagesKeep.f k bt229.1 bt229.2 a1).bind fun bt235 => ((laws_toPages.f k l0_0 l0_1).bind fun bt243 => ((impl_PagesKeep.f k bt243.1 bt243.2 a1).bind fun bt250 => ((laws_eqPages.f k bt250.1 bt250.2.1 bt235.1 bt235.2.1).bind fun t258 => (if t258 = true then (laws_FnExactPagesKeep.j0 k a1 bt235.2.2 bt250.2.2 (bt250.2.2 != bt235.2.2) l0_0 l0_1 bt235.1 bt235.2.1 bt243.1 bt243.2 bt250.1 bt250.2.1) else (laws_FnExactPagesKeep.j0 k a1 bt235.2.2 bt250.2.2 true l0_0 l0_1 bt235.1 bt235.2.1 bt243.1 bt243.2 bt250.1 bt250.2.1))))))))) = some r := h
 clear h
 replace H := Option.bind_eq_some_iff.mp H
 obtain ⟨t228, A30, H⟩ := H
 replace H : (if t228 < 0 then (some true) else ((laws_toPages.f k l0_0 l0_1).bind fun bt229 => ((spec_PagesKeep.f k bt229.1 bt229.2 a1).bind fun bt235 => ((laws_toPages.f k l0_0 l0_1).bind fun bt243 => ((impl_PagesKeep.f k bt243.1 bt243.2 a1).bind fun bt250 => ((laws_eqPages.f k bt250.1 bt250.2.1 bt235.1 bt235.2.1).bind fun t258 => (if t258 = true then (laws_FnExactPagesKeep.j0 k a1 bt235.2.2 bt250.2.2 (bt250.2.2 != bt235.2.2) l0_0 l0_1 bt235.1 bt235.2.1 bt243.1 bt243.2 bt250.1 bt250.2.1) else (laws_FnExactPagesKeep.j0 k a1 bt235.2.2 bt250.2.2 true l0_0 l0_1 bt235.1 bt235.2.1 bt243.1 bt243.2 bt250.1 bt250.2.1)))))))) = some r := H
 have A3 := Am A30
 clear A30
 by_cases c4 : t228 < 0
 ·rw [if_pos c4] at H
  have c4b0 : decide (t228 < 0) = true := decide_eq_true c4
  clear c4
  obtain rfl := Option.some.inj H
  go_enter Try.func11, Try.ntmps11
  go_wp2_with (first | ((with_reducible refine gate_dst (N := 2) rfl ?_); refine box_event ?hg (N := 2) ?hd (cs := #[.slice A0_0 l0_0.length c0_0, .slice A0_1 l0_1.length c0_1]) (t := 59) ?hr ?_; (case hd => rfl); (case hg => rfl); (case hr => first | (go_simp; done) | (go_simp; rfl)); intro gb227 hg w5 hbox hb; have n0_ := Am (bP (by repeat (first | (with_reducible first | exact HB.out | apply oA | apply pN | apply o1) | exact HB.out)) hb); have n1_ := Am (hbox); have n2_ := Am ((by rw [hg]; exact (bZ (by repeat (first | (with_reducible first | exact HB.out | apply oA | apply pN | apply o1) | exact HB.out))) : w.heap.size ≤ gb227)); have n3_ := Am ((by rw [hg]; exact (bZ (by repeat (first | (with_reducible first | exact HB.out | apply oA | apply pN | apply o1) | exact HB.out))) : w.heap.size ≤ gb227)); clear HB; have HB := n0_; have BK227 := n1_; have GW227 := n2_; have GE227 := n3_; clear n0_ n1_ n2_ n3_; clear hb hbox hg; have hcz6_0 : w5.cell? ⟨gb227, 0, none⟩ = some (.slice A0_0 l0_0.length c0_0) := (bC BK227.out 0).trans rfl; have hcz6_1 : w5.cell? ⟨gb227, 1, none⟩ = some (.slice A0_1 l0_1.length c0_1) := (bC BK227.out 1).trans rfl; have hfz6_0 := bF BK227.out 0; have hfz6_1 := bF BK227.out 1) | ((with_reducible refine gate_callee (f := 42) rfl ?_); refine goesL_ (some 18) rfl rfl Try.func42 (by kernel_rfl) rfl #[.agg #[.slice A0_0 l0_0.length c0_0, .slice A0_1 l0_1.length c0_1], .int .i64 1048576] rfl (by (try simp only [lM, lC, lN]); first | done | rfl | (simp only [lD, lT]; rfl)) ?_; (with_reducible refine (laws_szPages.calls k _ _ l0_0 _ _ l0_1 1048576 t228 _ ?side1 ?side2 ?side3 ?side4 A3.out).mono ?_); (case side1 => repeat (first | exact (cB HR0_0.out HB.out) | (with_reducible refine cA ?_ _) | (with_reducible refine cN ?_ _) | (with_reducible refine cD ?_))); (case side2 => exact HC0_0.out); (case side3 => repeat (first | exact (cB HR0_1.out HB.out) | (with_reducible refine cA ?_ _) | (with_reducible refine cN ?_ _) | (with_reducible refine cD ?_))); (case side4 => exact HC0_1.out); rintro e w7 ⟨rfl, hb⟩; refine ⟨_, rfl, ?_⟩; have n0_ := Am (bB (g := gb227) (o := .cells #[.slice A0_0 l0_0.length c0_0, .slice A0_1 l0_1.length c0_1] 59 (0, 0)) (by (with_reducible repeat (first | refine bN ?_ _ | refine bD ?_ | refine bA ?_ _)); exact BK227.out) hb); have n1_ := Am (bP (by repeat (first | (with_reducible first | exact HB.out | apply oA | apply pN | apply o1 | refine bS ?_ GE227.out) | exact HB.out)) hb); clear BK227; clear HB; have BK227 := n0_; have HB := n1_; clear n0_ n1_; (try clear hb); (try clear hb2); (try clear hk); (try clear hi)))
  go_ret
  exact ⟨by first | rfl | (simp [errW_none, errW_some] <;> rfl) | (simp [*, errW_none, errW_some] <;> rfl), by repeat (first | (with_reducible first | exact HB.out | apply oA | apply pN | apply o1 | refine bS ?_ GE227.out) | exact HB.out)⟩
 ·rw [if_neg c4] at H
  have c4b0 : decide (t228 < 0) = false := decide_eq_false c4
  clear c4
  replace H := Option.bind_eq_some_iff.mp H
  obtain ⟨⟨t229, t232⟩, A80, H⟩ := H
  replace H : ((spec_PagesKeep.f k t229 t232 a1).bind fun bt235 => ((laws_toPages.f k l0_0 l0_1).bind fun bt243 => ((impl_PagesKeep.f k bt243.1 bt243.2 a1).bind fun bt250 => ((laws_eqPages.f k bt250.1 bt250.2.1 bt235.1 bt235.2.1).bind fun t258 => (if t258 = true then (laws_FnExactPagesKeep.j0 k a1 bt235.2.2 bt250.2.2 (bt250.2.2 != bt235.2.2) l0_0 l0_1 bt235.1 bt235.2.1 bt243.1 bt243.2 bt250.1 bt250.2.1) else (laws_FnExactPagesKeep.j0 k a1 bt235.2.2 bt250.2.2 true l0_0 l0_1 bt235.1 bt235.2.1 bt243.1 bt243.2 bt250.1 bt250.2.1)))))) = some r := H
  have A8 := Am A80
  clear A80
  replace H := Option.bind_eq_some_iff.mp H
  obtain ⟨⟨t235, t238, t241⟩, A90, H⟩ := H
  replace H : ((laws_toPages.f k l0_0 l0_1).bind fun bt243 => ((impl_PagesKeep.f k bt243.1 bt243.2 a1).bind fun bt250 => ((laws_eqPages.f k bt250.1 bt250.2.1 t235 t238).bind fun t258 => (if t258 = true then (laws_FnExactPagesKeep.j0 k a1 t241 bt250.2.2 (bt250.2.2 != t241) l0_0 l0_1 t235 t238 bt243.1 bt243.2 bt250.1 bt250.2.1) else (laws_FnExactPagesKeep.j0 k a1 t241 bt250.2.2 true l0_0 l0_1 t235 t238 bt243.1 bt243.2 bt250.1 bt250.2.1))))) = some r := H
  have A9 := Am A90
  clear A90
  replace H := Option.bind_eq_some_iff.mp H
  obtain ⟨⟨t243, t246⟩, A100, H⟩ := H
  replace H : ((impl_PagesKeep.f k t243 t246 a1).bind fun bt250 => ((laws_eqPages.f k bt250.1 bt250.2.1 t235 t238).bind fun t258 => (if t258 = true then (laws_FnExactPagesKeep.j0 k a1 t241 bt250.2.2 (bt250.2.2 != t241) l0_0 l0_1 t235 t238 t243 t246 bt250.1 bt250.2.1) else (laws_FnExactPagesKeep.j0 k a1 t241 bt250.2.2 true l0_0 l0_1 t235 t238 t243 t246 bt250.1 bt250.2.1)))) = some r := H
  have A10 := Am A100
  clear A100
  replace H := Option.bind_eq_some_iff.mp H
  obtain ⟨⟨t250, t253, t256⟩, A110, H⟩ := H
  replace H : ((laws_eqPages.f k t250 t253 t235 t238).bind fun t258 => (if t258 = true then (laws_FnExactPagesKeep.j0 k a1 t241 t256 (t256 != t241) l0_0 l0_1 t235 t238 t243 t246 t250 t253) else (laws_FnExactPagesKeep.j0 k a1 t241 t256 true l0_0 l0_1 t235 t238 t243 t246 t250 t253))) = some r := H
  have A11 := Am A110
  clear A110
  have HC12 := Am H
  clear H
  go_enter Try.func11, Try.ntmps11
  go_upto_region 8 with (first | ((with_reducible refine gate_dst (N := 2) rfl ?_); refine box_event ?hg (N := 2) ?hd (cs := #[.slice A0_0 l0_0.length c0_0, .slice A0_1 l0_1.length c0_1]) (t := 59) ?hr ?_; (case hd => rfl); (case hg => rfl); (case hr => first | (go_simp; done) | (go_simp; rfl)); intro gb227 hg w13 hbox hb; have n0_ := Am (bP (by repeat (first | (with_reducible first | exact HB.out | apply oA | apply pN | apply o1) | exact HB.out)) hb); have n1_ := Am (hbox); have n2_ := Am ((by rw [hg]; exact (bZ (by repeat (first | (with_reducible first | exact HB.out | apply oA | apply pN | apply o1) | exact HB.out))) : w.heap.size ≤ gb227)); have n3_ := Am ((by rw [hg]; exact (bZ (by repeat (first | (with_reducible first | exact HB.out | apply oA | apply pN | apply o1) | exact HB.out))) : w.heap.size ≤ gb227)); clear HB; have HB := n0_; have BK227 := n1_; have GW227 := n2_; have GE227 := n3_; clear n0_ n1_ n2_ n3_; clear hb hbox hg; have hcz14_0 : w13.cell? ⟨gb227, 0, none⟩ = some (.slice A0_0 l0_0.length c0_0) := (bC BK227.out 0).trans rfl; have hcz14_1 : w13.cell? ⟨gb227, 1, none⟩ = some (.slice A0_1 l0_1.length c0_1) := (bC BK227.out 1).trans rfl; have hfz14_0 := bF BK227.out 0; have hfz14_1 := bF BK227.out 1) | ((with_reducible refine gate_callee (f := 42) rfl ?_); refine goesL_ (some 18) rfl rfl Try.func42 (by kernel_rfl) rfl #[.agg #[.slice A0_0 l0_0.length c0_0, .slice A0_1 l0_1.length c0_1], .int .i64 1048576] rfl (by (try simp only [lM, lC, lN]); first | done | rfl | (simp only [lD, lT]; rfl)) ?_; (with_reducible refine (laws_szPages.calls k _ _ l0_0 _ _ l0_1 1048576 t228 _ ?side1 ?side2 ?side3 ?side4 A3.out).mono ?_); (case side1 => repeat (first | exact (cB HR0_0.out HB.out) | (with_reducible refine cA ?_ _) | (with_reducible refine cN ?_ _) | (with_reducible refine cD ?_))); (case side2 => exact HC0_0.out); (case side3 => repeat (first | exact (cB HR0_1.out HB.out) | (with_reducible refine cA ?_ _) | (with_reducible refine cN ?_ _) | (with_reducible refine cD ?_))); (case side4 => exact HC0_1.out); rintro e w15 ⟨rfl, hb⟩; refine ⟨_, rfl, ?_⟩; have n0_ := Am (bB (g := gb227) (o := .cells #[.slice A0_0 l0_0.length c0_0, .slice A0_1 l0_1.length c0_1] 59 (0, 0)) (by (with_reducible repeat (first | refine bN ?_ _ | refine bD ?_ | refine bA ?_ _)); exact BK227.out) hb); have n1_ := Am (bP (by repeat (first | (with_reducible first | exact HB.out | apply oA | apply pN | apply o1 | refine bS ?_ GE227.out) | exact HB.out)) hb); clear BK227; clear HB; have BK227 := n0_; have HB := n1_; clear n0_ n1_; (try clear hb); (try clear hb2); (try clear hk); (try clear hi); have hcz16_0 : w15.cell? ⟨gb227, 0, none⟩ = some (.slice A0_0 l0_0.length c0_0) := (bC BK227.out 0).trans rfl; have hcz16_1 : w15.cell? ⟨gb227, 1, none⟩ = some (.slice A0_1 l0_1.length c0_1) := (bC BK227.out 1).trans rfl; have hfz16_0 := bF BK227.out 0; have hfz16_1 := bF BK227.out 1) | ((with_reducible refine gate_callee (f := 44) rfl ?_); refine goesL_ (some 23) rfl rfl Try.func44 (by kernel_rfl) rfl #[.agg #[.slice A0_0 l0_0.length c0_0, .slice A0_1 l0_1.length c0_1]] rfl (by (try simp only [lM, lC, lN]); first | done | rfl | (simp only [lD, lT]; rfl)) ?_; (with_reducible refine (laws_toPages.calls k _ _ l0_0 _ _ l0_1 t229 t232 _ ?side1 ?side2 ?side3 ?side4 A8.out).mono ?_); (case side1 => repeat (first | exact (cB HR0_0.out HB.out) | (with_reducible refine cA ?_ _) | (with_reducible refine cN ?_ _) | (with_reducible refine cD ?_))); (case side2 => exact HC0_0.out); (case side3 => repeat (first | exact (cB HR0_1.out HB.out) | (with_reducible refine cA ?_ _) | (with_reducible refine cN ?_ _) | (with_reducible refine cD ?_))); (case side4 => exact HC0_1.out); rintro e w17 ⟨v230, v233, rfl, ho0, ho1, hb⟩; refine ⟨_, rfl, ?_⟩; have n0_ := Am (Kd.R_lower ho0 (bZ (by repeat (first | (with_reducible first | exact HB.out | apply oA | apply pN | apply o1 | refine bS ?_ GE227.out) | exact HB.out)))); have n1_ := Am (Kd.R_lower ho1 (bZ (by repeat (first | (with_reducible first | exact HB.out | apply oA | apply pN | apply o1 | refine bS ?_ GE227.out) | exact HB.out)))); have n2_ := Am (bB (g := gb227) (o := .cells #[.slice A0_0 l0_0.length c0_0, .slice A0_1 l0_1.length c0_1] 59 (0, 0)) (by (with_reducible repeat (first | refine bN ?_ _ | refine bD ?_ | refine bA ?_ _)); exact BK227.out) hb); have n3_ := Am (bP (by repeat (first | (with_reducible first | exact HB.out | apply oA | apply pN | apply o1 | refine bS ?_ GE227.out) | exact HB.out)) hb); clear BK227; clear HB; have HO231 := n0_; have HO234 := n1_; have BK227 := n2_; have HB := n3_; clear n0_ n1_ n2_ n3_; (try clear hb); (try clear hb2); (try clear hk); (try clear hi); (try clear ho0); (try clear ho1); obtain ⟨Ao18, co18, eo18⟩ := Kd.R_slice HO231.out; subst eo18; obtain ⟨Ao19, co19, eo19⟩ := Kd.R_slice HO234.out; subst eo19) | ((with_reducible refine gate_callee (f := 43) rfl ?_); refine goesL_ (some 25) rfl rfl Try.func43 (by kernel_rfl) rfl #[.agg #[.slice Ao18 t229.length co18, .slice Ao19 t232.length co19], .int .i64 a1] rfl (by (try simp only [lM, lC, lN]); first | done | rfl | (simp only [lD, lT]; rfl)) ?_; (with_reducible refine (spec_PagesKeep.calls k _ _ t229 _ _ t232 a1 t235 t238 t241 _ ?side1 ?side2 ?side3 ?side4 A9.out).mono ?_); (case side1 => repeat (first | exact (Kd.R_reads' HO231.out).2.2 | (with_reducible refine cA ?_ _) | (with_reducible refine cN ?_ _) | (with_reducible refine cD ?_))); (case side2 => exact (Kd.R_reads' HO231.out).2.1); (case side3 => repeat (first | exact (Kd.R_reads' HO234.out).2.2 | (with_reducible refine cA ?_ _) | (with_reducible refine cN ?_ _) | (with_reducible refine cD ?_))); (case side4 => exact (Kd.R_reads' HO234.out).2.1); rintro e w20 ⟨v236, v239, rfl, ho0, ho1, hb⟩; refine ⟨_, rfl, ?_⟩; have n0_ := Am (Kd.R_elder' (by (with_reducible repeat (first | apply rA | apply rN | apply rD)); exact HO231.out) (Kd.R_base ho0) hb); have n1_ := Am (Kd.R_elder' (by (with_reducible repeat (first | apply rA | apply rN | apply rD)); exact HO234.out) (Kd.R_base ho1) hb); have n2_ := Am (Kd.R_lower (Kd.R_new' ho0 (Kd.R_lt (by (with_reducible repeat (first | apply rA | apply rN | apply rD)); exact HO231.out))) (bZ (by repeat (first | (with_reducible first | exact HB.out | apply oA | apply pN | apply o1 | refine bS ?_ GE227.out) | exact HB.out)))); have n3_ := Am (Kd.R_lower (Kd.R_new' ho1 (Kd.R_lt (by (with_reducible repeat (first | apply rA | apply rN | apply rD)); exact HO234.out))) (bZ (by repeat (first | (with_reducible first | exact HB.out | apply oA | apply pN | apply o1 | refine bS ?_ GE227.out) | exact HB.out)))); have n4_ := Am (bB (g := gb227) (o := .cells #[.slice A0_0 l0_0.length c0_0, .slice A0_1 l0_1.length c0_1] 59 (0, 0)) (by (with_reducible repeat (first | refine bN ?_ _ | refine bD ?_ | refine bA ?_ _)); exact BK227.out) hb); have n5_ := Am (bP (by repeat (first | (with_reducible first | exact HB.out | apply oA | apply pN | apply o1 | refine bS ?_ GE227.out) | exact HB.out)) hb); clear HO231; clear HO234; clear BK227; clear HB; have HO231 := n0_; have HO234 := n1_; have HO237 := n2_; have HO240 := n3_; have BK227 := n4_; have HB := n5_; clear n0_ n1_ n2_ n3_ n4_ n5_; (try clear hb); (try clear hb2); (try clear hk); (try clear hi); (try clear ho0); (try clear ho1)) | ((with_reducible refine gate_dst (N := 6) rfl ?_); refine box_event ?hg (N := 6) ?hd (cs := #[.slice none 0 0, .slice none 0 0]) (t := 61) ?hr ?_; (case hd => rfl); (case hg => rfl); (case hr => first | (go_simp; done) | (go_simp; rfl)); intro gb242 hg w21 hbox hb; have n0_ := Am (rB (by (with_reducible repeat (first | apply rA | apply rN | apply rD)); exact HO231.out) hb); have n1_ := Am (rB (by (with_reducible repeat (first | apply rA | apply rN | apply rD)); exact HO234.out) hb); have n2_ := Am (rB (by (with_reducible repeat (first | apply rA | apply rN | apply rD)); exact HO237.out) hb); have n3_ := Am (rB (by (with_reducible repeat (first | apply rA | apply rN | apply rD)); exact HO240.out) hb); have n4_ := Am (bB (g := gb227) (o := .cells #[.slice A0_0 l0_0.length c0_0, .slice A0_1 l0_1.length c0_1] 59 (0, 0)) (by (with_reducible repeat (first | refine bN ?_ _ | refine bD ?_ | refine bA ?_ _)); exact BK227.out) hb); have n5_ := Am (bP (by repeat (first | (with_reducible first | exact HB.out | apply oA | apply pN | apply o1 | refine bS ?_ GE227.out) | exact HB.out)) hb); have n6_ := Am (hbox); have n7_ := Am ((by rw [hg]; exact (bZ (by repeat (first | (with_reducible first | exact HB.out | apply oA | apply pN | apply o1 | refine bS ?_ GE227.out) | exact HB.out))) : w.heap.size ≤ gb242)); have n8_ := Am ((by rw [hg]; exact (bZ (by repeat (first | (with_reducible first | exact HB.out | apply oA | apply pN | apply o1 | refine bS ?_ GE227.out) | exact HB.out))) : w.heap.size ≤ gb242)); have n9_ := Am ((by rw [hg]; exact Nat.ne_of_lt (blk_lt (g := gb227) (o := .cells #[.slice A0_0 l0_0.length c0_0, .slice A0_1 l0_1.length c0_1] 59 (0, 0)) (by (with_reducible repeat (first | refine bN ?_ _ | refine bD ?_ | refine bA ?_ _)); exact BK227.out)) : gb227 ≠ gb242)); have n10_ := Am ((by rw [hg]; exact Nat.ne_of_gt (blk_lt (g := gb227) (o := .cells #[.slice A0_0 l0_0.length c0_0, .slice A0_1 l0_1.length c0_1] 59 (0, 0)) (by (with_reducible repeat (first | refine bN ?_ _ | refine bD ?_ | refine bA ?_ _)); exact BK227.out)) : gb242 ≠ gb227)); clear HO231; clear HO234; clear HO237; clear HO240; clear BK227; clear HB; have HO231 := n0_; have HO234 := n1_; have HO237 := n2_; have HO240 := n3_; have BK227 := n4_; have HB := n5_; have BK242 := n6_; have GW242 := n7_; have GE242 := n8_; have NB227_242 := n9_; have NB242_227 := n10_; clear n0_ n1_ n2_ n3_ n4_ n5_ n6_ n7_ n8_ n9_ n10_; clear hb hbox hg; obtain ⟨Ao22, co22, eo22⟩ := Kd.R_slice HO237.out; subst eo22; have hnb23 := NB242_227.out; have hnc23 := NB227_242.out; have hcz24_0 : w21.cell? ⟨gb242, 0, none⟩ = some (.slice none 0 0) := (bC BK242.out 0).trans rfl; have hcz24_1 : w21.cell? ⟨gb242, 1, none⟩ = some (.slice none 0 0) := (bC BK242.out 1).trans rfl; have hfz24_0 := bF BK242.out 0; have hfz24_1 := bF BK242.out 1; obtain ⟨Ao25, co25, eo25⟩ := Kd.R_slice HO240.out; subst eo25; have hcz26_0 : w21.cell? ⟨gb227, 0, none⟩ = some (.slice A0_0 l0_0.length c0_0) := (bC BK227.out 0).trans rfl; have hcz26_1 : w21.cell? ⟨gb227, 1, none⟩ = some (.slice A0_1 l0_1.length c0_1) := (bC BK227.out 1).trans rfl; have hfz26_0 := bF BK227.out 0; have hfz26_1 := bF BK227.out 1) | ((with_reducible refine gate_callee (f := 44) rfl ?_); refine goesL_ (some 29) rfl rfl Try.func44 (by kernel_rfl) rfl #[.agg #[.slice A0_0 l0_0.length c0_0, .slice A0_1 l0_1.length c0_1]] rfl (by (try simp only [lM, lC, lN]); first | done | rfl | (simp only [lD, lT]; rfl)) ?_; (with_reducible refine (laws_toPages.calls k _ _ l0_0 _ _ l0_1 t243 t246 _ ?side1 ?side2 ?side3 ?side4 A10.out).mono ?_); (case side1 => exact cB HR0_0.out (by repeat (first | (with_reducible first | exact HB.out | apply oA | apply pN | apply o1 | refine bS ?_ GE227.out | refine bS ?_ GE242.out) | exact HB.out))); (case side2 => exact HC0_0.out); (case side3 => exact cB HR0_1.out (by repeat (first | (with_reducible first | exact HB.out | apply oA | apply pN | apply o1 | refine bS ?_ GE227.out | refine bS ?_ GE242.out) | exact HB.out))); (case side4 => exact HC0_1.out); rintro e w27 ⟨v244, v247, rfl, ho0, ho1, hb⟩; refine ⟨_, rfl, ?_⟩; have n0_ := Am (Kd.R_elder' (by (with_reducible repeat (first | apply rA | apply rN | apply rD)); exact (rM (rF (p := ⟨gb242, 1, none⟩) (rF (p := ⟨gb242, 0, none⟩) (rT HO231.out BK242.out (by decide)) (fun _ hk => hk.2) (.slice Ao22 t235.length co22)) (fun _ hk => hk.2) (.slice Ao25 t238.length co25)) (fun _ h_ => h_.1))) (Kd.R_base ho0) hb); have n1_ := Am (Kd.R_elder' (by (with_reducible repeat (first | apply rA | apply rN | apply rD)); exact (rM (rF (p := ⟨gb242, 1, none⟩) (rF (p := ⟨gb242, 0, none⟩) (rT HO234.out BK242.out (by decide)) (fun _ hk => hk.2) (.slice Ao22 t235.length co22)) (fun _ hk => hk.2) (.slice Ao25 t238.length co25)) (fun _ h_ => h_.1))) (Kd.R_base ho1) hb); have n2_ := Am (Kd.R_elder' (by (with_reducible repeat (first | apply rA | apply rN | apply rD)); exact (rM (rF (p := ⟨gb242, 1, none⟩) (rF (p := ⟨gb242, 0, none⟩) (rT HO237.out BK242.out (by decide)) (fun _ hk => hk.2) (.slice Ao22 t235.length co22)) (fun _ hk => hk.2) (.slice Ao25 t238.length co25)) (fun _ h_ => h_.1))) (Kd.R_base ho0) hb); have n3_ := Am (Kd.R_elder' (by (with_reducible repeat (first | apply rA | apply rN | apply rD)); exact (rM (rF (p := ⟨gb242, 1, none⟩) (rF (p := ⟨gb242, 0, none⟩) (rT HO240.out BK242.out (by decide)) (fun _ hk => hk.2) (.slice Ao22 t235.length co22)) (fun _ hk => hk.2) (.slice Ao25 t238.length co25)) (fun _ h_ => h_.1))) (Kd.R_base ho1) hb); have n4_ := Am (Kd.R_lower (Kd.R_new' (Kd.R_new' ho0 (Kd.R_lt (by (with_reducible repeat (first | apply rA | apply rN | apply rD)); exact (rM (rF (p := ⟨gb242, 1, none⟩) (rF (p := ⟨gb242, 0, none⟩) (rT HO231.out BK242.out (by decide)) (fun _ hk => hk.2) (.slice Ao22 t235.length co22)) (fun _ hk => hk.2) (.slice Ao25 t238.length co25)) (fun _ h_ => h_.1))))) (Kd.R_lt (by (with_reducible repeat (first | apply rA | apply rN | apply rD)); exact (rM (rF (p := ⟨gb242, 1, none⟩) (rF (p := ⟨gb242, 0, none⟩) (rT HO237.out BK242.out (by decide)) (fun _ hk => hk.2) (.slice Ao22 t235.length co22)) (fun _ hk => hk.2) (.slice Ao25 t238.length co25)) (fun _ h_ => h_.1))))) (bZ (by repeat (first | (with_reducible first | exact HB.out | apply oA | apply pN | apply o1 | refine bS ?_ GE227.out | refine bS ?_ GE242.out) | exact HB.out)))); have n5_ := Am (Kd.R_lower (Kd.R_new' (Kd.R_new' ho1 (Kd.R_lt (by (with_reducible repeat (first | apply rA | apply rN | apply rD)); exact (rM (rF (p := ⟨gb242, 1, none⟩) (rF (p := ⟨gb242, 0, none⟩) (rT HO234.out BK242.out (by decide)) (fun _ hk => hk.2) (.slice Ao22 t235.length co22)) (fun _ hk => hk.2) (.slice Ao25 t238.length co25)) (fun _ h_ => h_.1))))) (Kd.R_lt (by (with_reducible repeat (first | apply rA | apply rN | apply rD)); exact (rM (rF (p := ⟨gb242, 1, none⟩) (rF (p := ⟨gb242, 0, none⟩) (rT HO240.out BK242.out (by decide)) (fun _ hk => hk.2) (.slice Ao22 t235.length co22)) (fun _ hk => hk.2) (.slice Ao25 t238.length co25)) (fun _ h_ => h_.1))))) (bZ (by repeat (first | (with_reducible first | exact HB.out | apply oA | apply pN | apply o1 | refine bS ?_ GE227.out | refine bS ?_ GE242.out) | exact HB.out)))); have n6_ := Am (bB (g := gb227) (o := .cells #[.slice A0_0 l0_0.length c0_0, .slice A0_1 l0_1.length c0_1] 59 (0, 0)) (by (with_reducible repeat (first | refine bN ?_ _ | refine bD ?_ | refine bA ?_ _)); refine blk_far ?_ NB227_242.out _; (with_reducible repeat (first | refine bN ?_ _ | refine bD ?_ | refine bA ?_ _)); refine blk_far ?_ NB227_242.out _; (with_reducible repeat (first | refine bN ?_ _ | refine bD ?_ | refine bA ?_ _)); exact BK227.out) hb); have n7_ := Am (bB (g := gb242) (o := .cells #[.slice Ao22 t235.length co22, .slice Ao25 t238.length co25] 61 (0, 0)) (by (with_reducible repeat (first | refine bN ?_ _ | refine bD ?_ | refine bA ?_ _)); refine blk_put (cs := #[.slice Ao22 t235.length co22, .slice none 0 0]) ?_ 1 _ rfl; (with_reducible repeat (first | refine bN ?_ _ | refine bD ?_ | refine bA ?_ _)); refine blk_put (cs := #[.slice none 0 0, .slice none 0 0]) ?_ 0 _ rfl; (with_reducible repeat (first | refine bN ?_ _ | refine bD ?_ | refine bA ?_ _)); exact BK242.out) hb); have n8_ := Am (bP (by repeat (first | (with_reducible first | exact HB.out | apply oA | apply pN | apply o1 | refine bS ?_ GE227.out | refine bS ?_ GE242.out) | exact HB.out)) hb); clear HO231; clear HO234; clear HO237; clear HO240; clear BK227; clear BK242; clear HB; have HO231 := n0_; have HO234 := n1_; have HO237 := n2_; have HO240 := n3_; have HO245 := n4_; have HO248 := n5_; have BK227 := n6_; have BK242 := n7_; have HB := n8_; clear n0_ n1_ n2_ n3_ n4_ n5_ n6_ n7_ n8_; (try clear hb); (try clear hb2); (try clear hk); (try clear hi); (try clear ho0); (try clear ho1)) | ((with_reducible refine gate_dst (N := 8) rfl ?_); refine box_event ?hg (N := 8) ?hd (cs := #[.slice none 0 0, .slice none 0 0]) (t := 61) ?hr ?_; (case hd => rfl); (case hg => rfl); (case hr => first | (go_simp; done) | (go_simp; rfl)); intro gb249 hg w28 hbox hb; have n0_ := Am (rB (by (with_reducible repeat (first | apply rA | apply rN | apply rD)); exact HO231.out) hb); have n1_ := Am (rB (by (with_reducible repeat (first | apply rA | apply rN | apply rD)); exact HO234.out) hb); have n2_ := Am (rB (by (with_reducible repeat (first | apply rA | apply rN | apply rD)); exact HO237.out) hb); have n3_ := Am (rB (by (with_reducible repeat (first | apply rA | apply rN | apply rD)); exact HO240.out) hb); have n4_ := Am (rB (by (with_reducible repeat (first | apply rA | apply rN | apply rD)); exact HO245.out) hb); have n5_ := Am (rB (by (with_reducible repeat (first | apply rA | apply rN | apply rD)); exact HO248.out) hb); have n6_ := Am (bB (g := gb227) (o := .cells #[.slice A0_0 l0_0.length c0_0, .slice A0_1 l0_1.length c0_1] 59 (0, 0)) (by (with_reducible repeat (first | refine bN ?_ _ | refine bD ?_ | refine bA ?_ _)); exact BK227.out) hb); have n7_ := Am (bB (g := gb242) (o := .cells #[.slice Ao22 t235.length co22, .slice Ao25 t238.length co25] 61 (0, 0)) (by (with_reducible repeat (first | refine bN ?_ _ | refine bD ?_ | refine bA ?_ _)); exact BK242.out) hb); have n8_ := Am (bP (by repeat (first | (with_reducible first | exact HB.out | apply oA | apply pN | apply o1 | refine bS ?_ GE227.out | refine bS ?_ GE242.out) | exact HB.out)) hb); have n9_ := Am (hbox); have n10_ := Am ((by rw [hg]; exact (bZ (by repeat (first | (with_reducible first | exact HB.out | apply oA | apply pN | apply o1 | refine bS ?_ GE227.out | refine bS ?_ GE242.out) | exact HB.out))) : w.heap.size ≤ gb249)); have n11_ := Am ((by rw [hg]; exact (bZ (by repeat (first | (with_reducible first | exact HB.out | apply oA | apply pN | apply o1 | refine bS ?_ GE227.out | refine bS ?_ GE242.out) | exact HB.out))) : w.heap.size ≤ gb249)); have n12_ := Am ((by rw [hg]; exact Nat.ne_of_lt (blk_lt (g := gb227) (o := .cells #[.slice A0_0 l0_0.length c0_0, .slice A0_1 l0_1.length c0_1] 59 (0, 0)) (by (with_reducible repeat (first | refine bN ?_ _ | refine bD ?_ | refine bA ?_ _)); exact BK227.out)) : gb227 ≠ gb249)); have n13_ := Am ((by rw [hg]; exact Nat.ne_of_gt (blk_lt (g := gb227) (o := .cells #[.slice A0_0 l0_0.length c0_0, .slice A0_1 l0_1.length c0_1] 59 (0, 0)) (by (with_reducible repeat (first | refine bN ?_ _ | refine bD ?_ | refine bA ?_ _)); exact BK227.out)) : gb249 ≠ gb227)); have n14_ := Am ((by rw [hg]; exact Nat.ne_of_lt (blk_lt (g := gb242) (o := .cells #[.slice Ao22 t235.length co22, .slice Ao25 t238.length co25] 61 (0, 0)) (by (with_reducible repeat (first | refine bN ?_ _ | refine bD ?_ | refine bA ?_ _)); exact BK242.out)) : gb242 ≠ gb249)); have n15_ := Am ((by rw [hg]; exact Nat.ne_of_gt (blk_lt (g := gb242) (o := .cells #[.slice Ao22 t235.length co22, .slice Ao25 t238.length co25] 61 (0, 0)) (by (with_reducible repeat (first | refine bN ?_ _ | refine bD ?_ | refine bA ?_ _)); exact BK242.out)) : gb249 ≠ gb242)); clear HO231; clear HO234; clear HO237; clear HO240; clear HO245; clear HO248; clear BK227; clear BK242; clear HB; have HO231 := n0_; have HO234 := n1_; have HO237 := n2_; have HO240 := n3_; have HO245 := n4_; have HO248 := n5_; have BK227 := n6_; have BK242 := n7_; have HB := n8_; have BK249 := n9_; have GW249 := n10_; have GE249 := n11_; have NB227_249 := n12_; have NB249_227 := n13_; have NB242_249 := n14_; have NB249_242 := n15_; clear n0_ n1_ n2_ n3_ n4_ n5_ n6_ n7_ n8_ n9_ n10_ n11_ n12_ n13_ n14_ n15_; clear hb hbox hg; obtain ⟨Ao29, co29, eo29⟩ := Kd.R_slice HO245.out; subst eo29; have hnb30 := NB249_227.out; have hnc30 := NB227_249.out; have hnb31 := NB249_242.out; have hnc31 := NB242_249.out; have hcz32_0 : w28.cell? ⟨gb249, 0, none⟩ = some (.slice none 0 0) := (bC BK249.out 0).trans rfl; have hcz32_1 : w28.cell? ⟨gb249, 1, none⟩ = some (.slice none 0 0) := (bC BK249.out 1).trans rfl; have hfz32_0 := bF BK249.out 0; have hfz32_1 := bF BK249.out 1; obtain ⟨Ao33, co33, eo33⟩ := Kd.R_slice HO248.out; subst eo33) | ((with_reducible refine gate_callee (f := 45) rfl ?_); refine goesL_ (some 33) rfl rfl Try.func45 (by kernel_rfl) rfl #[.agg #[.slice Ao29 t243.length co29, .slice Ao33 t246.length co33], .int .i64 a1] rfl (by (try simp only [lM, lC, lN]); first | done | rfl | (simp only [lD, lT]; rfl)) ?_; (with_reducible refine (impl_PagesKeep.calls k _ _ t243 _ _ t246 a1 t250 t253 t256 _ ?side1 ?side2 ?side3 ?side4 A11.out).mono ?_); (case side1 => refine (Kd.R_reads' (e := 9) (base := w.heap.size) (ok := fun k_ => ((True ∧ some k_ ≠ (.slice Ao18 t229.length co18 : Value).ownBlock) ∧ some k_ ≠ (.slice Ao22 t235.length co22 : Value).ownBlock)) (n := t243.length) (c := co29) ?_).2.2; exact (by (with_reducible repeat (first | apply rA | apply rN | apply rD)); exact (rM (rF (p := ⟨gb249, 1, none⟩) (rF (p := ⟨gb249, 0, none⟩) (rT HO245.out BK249.out (by decide)) (fun _ hk => hk.2) (.slice Ao29 t243.length co29)) (fun _ hk => hk.2) (.slice Ao33 t246.length co33)) (fun _ h_ => h_.1)))); (case side2 => exact (Kd.R_reads' HO245.out).2.1); (case side3 => refine (Kd.R_reads' (e := 3) (base := w.heap.size) (ok := fun k_ => ((True ∧ some k_ ≠ (.slice Ao19 t232.length co19 : Value).ownBlock) ∧ some k_ ≠ (.slice Ao25 t238.length co25 : Value).ownBlock)) (n := t246.length) (c := co33) ?_).2.2; exact (by (with_reducible repeat (first | apply rA | apply rN | apply rD)); exact (rM (rF (p := ⟨gb249, 1, none⟩) (rF (p := ⟨gb249, 0, none⟩) (rT HO248.out BK249.out (by decide)) (fun _ hk => hk.2) (.slice Ao29 t243.length co29)) (fun _ hk => hk.2) (.slice Ao33 t246.length co33)) (fun _ h_ => h_.1)))); (case side4 => exact (Kd.R_reads' HO248.out).2.1); rintro e w34 ⟨v251, v254, rfl, ho0, ho1, hb⟩; refine ⟨_, rfl, ?_⟩; have n0_ := Am (Kd.R_elder' (by (with_reducible repeat (first | apply rA | apply rN | apply rD)); exact (rM (rF (p := ⟨gb249, 1, none⟩) (rF (p := ⟨gb249, 0, none⟩) (rT HO231.out BK249.out (by decide)) (fun _ hk => hk.2) (.slice Ao29 t243.length co29)) (fun _ hk => hk.2) (.slice Ao33 t246.length co33)) (fun _ h_ => h_.1))) (Kd.R_base ho0) hb); have n1_ := Am (Kd.R_elder' (by (with_reducible repeat (first | apply rA | apply rN | apply rD)); exact (rM (rF (p := ⟨gb249, 1, none⟩) (rF (p := ⟨gb249, 0, none⟩) (rT HO234.out BK249.out (by decide)) (fun _ hk => hk.2) (.slice Ao29 t243.length co29)) (fun _ hk => hk.2) (.slice Ao33 t246.length co33)) (fun _ h_ => h_.1))) (Kd.R_base ho1) hb); have n2_ := Am (Kd.R_elder' (by (with_reducible repeat (first | apply rA | apply rN | apply rD)); exact (rM (rF (p := ⟨gb249, 1, none⟩) (rF (p := ⟨gb249, 0, none⟩) (rT HO237.out BK249.out (by decide)) (fun _ hk => hk.2) (.slice Ao29 t243.length co29)) (fun _ hk => hk.2) (.slice Ao33 t246.length co33)) (fun _ h_ => h_.1))) (Kd.R_base ho0) hb); have n3_ := Am (Kd.R_elder' (by (with_reducible repeat (first | apply rA | apply rN | apply rD)); exact (rM (rF (p := ⟨gb249, 1, none⟩) (rF (p := ⟨gb249, 0, none⟩) (rT HO240.out BK249.out (by decide)) (fun _ hk => hk.2) (.slice Ao29 t243.length co29)) (fun _ hk => hk.2) (.slice Ao33 t246.length co33)) (fun _ h_ => h_.1))) (Kd.R_base ho1) hb); have n4_ := Am (Kd.R_elder' (by (with_reducible repeat (first | apply rA | apply rN | apply rD)); exact (rM (rF (p := ⟨gb249, 1, none⟩) (rF (p := ⟨gb249, 0, none⟩) (rT HO245.out BK249.out (by decide)) (fun _ hk => hk.2) (.slice Ao29 t243.length co29)) (fun _ hk => hk.2) (.slice Ao33 t246.length co33)) (fun _ h_ => h_.1))) (Kd.R_base ho0) hb); have n5_ := Am (Kd.R_elder' (by (with_reducible repeat (first | apply rA | apply rN | apply rD)); exact (rM (rF (p := ⟨gb249, 1, none⟩) (rF (p := ⟨gb249, 0, none⟩) (rT HO248.out BK249.out (by decide)) (fun _ hk => hk.2) (.slice Ao29 t243.length co29)) (fun _ hk => hk.2) (.slice Ao33 t246.length co33)) (fun _ h_ => h_.1))) (Kd.R_base ho1) hb); have n6_ := Am (Kd.R_lower (Kd.R_new' (Kd.R_new' (Kd.R_new' ho0 (Kd.R_lt (by (with_reducible repeat (first | apply rA | apply rN | apply rD)); exact (rM (rF (p := ⟨gb249, 1, none⟩) (rF (p := ⟨gb249, 0, none⟩) (rT HO231.out BK249.out (by decide)) (fun _ hk => hk.2) (.slice Ao29 t243.length co29)) (fun _ hk => hk.2) (.slice Ao33 t246.length co33)) (fun _ h_ => h_.1))))) (Kd.R_lt (by (with_reducible repeat (first | apply rA | apply rN | apply rD)); exact (rM (rF (p := ⟨gb249, 1, none⟩) (rF (p := ⟨gb249, 0, none⟩) (rT HO237.out BK249.out (by decide)) (fun _ hk => hk.2) (.slice Ao29 t243.length co29)) (fun _ hk => hk.2) (.slice Ao33 t246.length co33)) (fun _ h_ => h_.1))))) (Kd.R_lt (by (with_reducible repeat (first | apply rA | apply rN | apply rD)); exact (rM (rF (p := ⟨gb249, 1, none⟩) (rF (p := ⟨gb249, 0, none⟩) (rT HO245.out BK249.out (by decide)) (fun _ hk => hk.2) (.slice Ao29 t243.length co29)) (fun _ hk => hk.2) (.slice Ao33 t246.length co33)) (fun _ h_ => h_.1))))) (bZ (by repeat (first | (with_reducible first | exact HB.out | apply oA | apply pN | apply o1 | refine bS ?_ GE227.out | refine bS ?_ GE242.out | refine bS ?_ GE249.out) | exact HB.out)))); have n7_ := Am (Kd.R_lower (Kd.R_new' (Kd.R_new' (Kd.R_new' ho1 (Kd.R_lt (by (with_reducible repeat (first | apply rA | apply rN | apply rD)); exact (rM (rF (p := ⟨gb249, 1, none⟩) (rF (p := ⟨gb249, 0, none⟩) (rT HO234.out BK249.out (by decide)) (fun _ hk => hk.2) (.slice Ao29 t243.length co29)) (fun _ hk => hk.2) (.slice Ao33 t246.length co33)) (fun _ h_ => h_.1))))) (Kd.R_lt (by (with_reducible repeat (first | apply rA | apply rN | apply rD)); exact (rM (rF (p := ⟨gb249, 1, none⟩) (rF (p := ⟨gb249, 0, none⟩) (rT HO240.out BK249.out (by decide)) (fun _ hk => hk.2) (.slice Ao29 t243.length co29)) (fun _ hk => hk.2) (.slice Ao33 t246.length co33)) (fun _ h_ => h_.1))))) (Kd.R_lt (by (with_reducible repeat (first | apply rA | apply rN | apply rD)); exact (rM (rF (p := ⟨gb249, 1, none⟩) (rF (p := ⟨gb249, 0, none⟩) (rT HO248.out BK249.out (by decide)) (fun _ hk => hk.2) (.slice Ao29 t243.length co29)) (fun _ hk => hk.2) (.slice Ao33 t246.length co33)) (fun _ h_ => h_.1))))) (bZ (by repeat (first | (with_reducible first | exact HB.out | apply oA | apply pN | apply o1 | refine bS ?_ GE227.out | refine bS ?_ GE242.out | refine bS ?_ GE249.out) | exact HB.out)))); have n8_ := Am (bB (g := gb227) (o := .cells #[.slice A0_0 l0_0.length c0_0, .slice A0_1 l0_1.length c0_1] 59 (0, 0)) (by (with_reducible repeat (first | refine bN ?_ _ | refine bD ?_ | refine bA ?_ _)); refine blk_far ?_ NB227_249.out _; (with_reducible repeat (first | refine bN ?_ _ | refine bD ?_ | refine bA ?_ _)); refine blk_far ?_ NB227_249.out _; (with_reducible repeat (first | refine bN ?_ _ | refine bD ?_ | refine bA ?_ _)); exact BK227.out) hb); have n9_ := Am (bB (g := gb242) (o := .cells #[.slice Ao22 t235.length co22, .slice Ao25 t238.length co25] 61 (0, 0)) (by (with_reducible repeat (first | refine bN ?_ _ | refine bD ?_ | refine bA ?_ _)); refine blk_far ?_ NB242_249.out _; (with_reducible repeat (first | refine bN ?_ _ | refine bD ?_ | refine bA ?_ _)); refine blk_far ?_ NB242_249.out _; (with_reducible repeat (first | refine bN ?_ _ | refine bD ?_ | refine bA ?_ _)); exact BK242.out) hb); have n10_ := Am (bB (g := gb249) (o := .cells #[.slice Ao29 t243.length co29, .slice Ao33 t246.length co33] 61 (0, 0)) (by (with_reducible repeat (first | refine bN ?_ _ | refine bD ?_ | refine bA ?_ _)); refine blk_put (cs := #[.slice Ao29 t243.length co29, .slice none 0 0]) ?_ 1 _ rfl; (with_reducible repeat (first | refine bN ?_ _ | refine bD ?_ | refine bA ?_ _)); refine blk_put (cs := #[.slice none 0 0, .slice none 0 0]) ?_ 0 _ rfl; (with_reducible repeat (first | refine bN ?_ _ | refine bD ?_ | refine bA ?_ _)); exact BK249.out) hb); have n11_ := Am (bP (by repeat (first | (with_reducible first | exact HB.out | apply oA | apply pN | apply o1 | refine bS ?_ GE227.out | refine bS ?_ GE242.out | refine bS ?_ GE249.out) | exact HB.out)) hb); clear HO231; clear HO234; clear HO237; clear HO240; clear HO245; clear HO248; clear BK227; clear BK242; clear BK249; clear HB; have HO231 := n0_; have HO234 := n1_; have HO237 := n2_; have HO240 := n3_; have HO245 := n4_; have HO248 := n5_; have HO252 := n6_; have HO255 := n7_; have BK227 := n8_; have BK242 := n9_; have BK249 := n10_; have HB := n11_; clear n0_ n1_ n2_ n3_ n4_ n5_ n6_ n7_ n8_ n9_ n10_ n11_; (try clear hb); (try clear hb2); (try clear hk); (try clear hi); (try clear ho0); (try clear ho1)) | ((with_reducible refine gate_dst (N := 9) rfl ?_); refine box_event ?hg (N := 9) ?hd (cs := #[.slice none 0 0, .slice none 0 0]) (t := 61) ?hr ?_; (case hd => rfl); (case hg => rfl); (case hr => first | (go_simp; done) | (go_simp; rfl)); intro gb257 hg w35 hbox hb; have n0_ := Am (rB (by (with_reducible repeat (first | apply rA | apply rN | apply rD)); exact HO231.out) hb); have n1_ := Am (rB (by (with_reducible repeat (first | apply rA | apply rN | apply rD)); exact HO234.out) hb); have n2_ := Am (rB (by (with_reducible repeat (first | apply rA | apply rN | apply rD)); exact HO237.out) hb); have n3_ := Am (rB (by (with_reducible repeat (first | apply rA | apply rN | apply rD)); exact HO240.out) hb); have n4_ := Am (rB (by (with_reducible repeat (first | apply rA | apply rN | apply rD)); exact HO245.out) hb); have n5_ := Am (rB (by (with_reducible repeat (first | apply rA | apply rN | apply rD)); exact HO248.out) hb); have n6_ := Am (rB (by (with_reducible repeat (first | apply rA | apply rN | apply rD)); exact HO252.out) hb); have n7_ := Am (rB (by (with_reducible repeat (first | apply rA | apply rN | apply rD)); exact HO255.out) hb); have n8_ := Am (bB (g := gb227) (o := .cells #[.slice A0_0 l0_0.length c0_0, .slice A0_1 l0_1.length c0_1] 59 (0, 0)) (by (with_reducible repeat (first | refine bN ?_ _ | refine bD ?_ | refine bA ?_ _)); exact BK227.out) hb); have n9_ := Am (bB (g := gb242) (o := .cells #[.slice Ao22 t235.length co22, .slice Ao25 t238.length co25] 61 (0, 0)) (by (with_reducible repeat (first | refine bN ?_ _ | refine bD ?_ | refine bA ?_ _)); exact BK242.out) hb); have n10_ := Am (bB (g := gb249) (o := .cells #[.slice Ao29 t243.length co29, .slice Ao33 t246.length co33] 61 (0, 0)) (by (with_reducible repeat (first | refine bN ?_ _ | refine bD ?_ | refine bA ?_ _)); exact BK249.out) hb); have n11_ := Am (bP (by repeat (first | (with_reducible first | exact HB.out | apply oA | apply pN | apply o1 | refine bS ?_ GE227.out | refine bS ?_ GE242.out | refine bS ?_ GE249.out) | exact HB.out)) hb); have n12_ := Am (hbox); have n13_ := Am ((by rw [hg]; exact (bZ (by repeat (first | (with_reducible first | exact HB.out | apply oA | apply pN | apply o1 | refine bS ?_ GE227.out | refine bS ?_ GE242.out | refine bS ?_ GE249.out) | exact HB.out))) : w.heap.size ≤ gb257)); have n14_ := Am ((by rw [hg]; exact (bZ (by repeat (first | (with_reducible first | exact HB.out | apply oA | apply pN | apply o1 | refine bS ?_ GE227.out | refine bS ?_ GE242.out | refine bS ?_ GE249.out) | exact HB.out))) : w.heap.size ≤ gb257)); have n15_ := Am ((by rw [hg]; exact Nat.ne_of_lt (blk_lt (g := gb227) (o := .cells #[.slice A0_0 l0_0.length c0_0, .slice A0_1 l0_1.length c0_1] 59 (0, 0)) (by (with_reducible repeat (first | refine bN ?_ _ | refine bD ?_ | refine bA ?_ _)); exact BK227.out)) : gb227 ≠ gb257)); have n16_ := Am ((by rw [hg]; exact Nat.ne_of_gt (blk_lt (g := gb227) (o := .cells #[.slice A0_0 l0_0.length c0_0, .slice A0_1 l0_1.length c0_1] 59 (0, 0)) (by (with_reducible repeat (first | refine bN ?_ _ | refine bD ?_ | refine bA ?_ _)); exact BK227.out)) : gb257 ≠ gb227)); have n17_ := Am ((by rw [hg]; exact Nat.ne_of_lt (blk_lt (g := gb242) (o := .cells #[.slice Ao22 t235.length co22, .slice Ao25 t238.length co25] 61 (0, 0)) (by (with_reducible repeat (first | refine bN ?_ _ | refine bD ?_ | refine bA ?_ _)); exact BK242.out)) : gb242 ≠ gb257)); have n18_ := Am ((by rw [hg]; exact Nat.ne_of_gt (blk_lt (g := gb242) (o := .cells #[.slice Ao22 t235.length co22, .slice Ao25 t238.length co25] 61 (0, 0)) (by (with_reducible repeat (first | refine bN ?_ _ | refine bD ?_ | refine bA ?_ _)); exact BK242.out)) : gb257 ≠ gb242)); have n19_ := Am ((by rw [hg]; exact Nat.ne_of_lt (blk_lt (g := gb249) (o := .cells #[.slice Ao29 t243.length co29, .slice Ao33 t246.length co33] 61 (0, 0)) (by (with_reducible repeat (first | refine bN ?_ _ | refine bD ?_ | refine bA ?_ _)); exact BK249.out)) : gb249 ≠ gb257)); have n20_ := Am ((by rw [hg]; exact Nat.ne_of_gt (blk_lt (g := gb249) (o := .cells #[.slice Ao29 t243.length co29, .slice Ao33 t246.length co33] 61 (0, 0)) (by (with_reducible repeat (first | refine bN ?_ _ | refine bD ?_ | refine bA ?_ _)); exact BK249.out)) : gb257 ≠ gb249)); clear HO231; clear HO234; clear HO237; clear HO240; clear HO245; clear HO248; clear HO252; clear HO255; clear BK227; clear BK242; clear BK249; clear HB; have HO231 := n0_; have HO234 := n1_; have HO237 := n2_; have HO240 := n3_; have HO245 := n4_; have HO248 := n5_; have HO252 := n6_; have HO255 := n7_; have BK227 := n8_; have BK242 := n9_; have BK249 := n10_; have HB := n11_; have BK257 := n12_; have GW257 := n13_; have GE257 := n14_; have NB227_257 := n15_; have NB257_227 := n16_; have NB242_257 := n17_; have NB257_242 := n18_; have NB249_257 := n19_; have NB257_249 := n20_; clear n0_ n1_ n2_ n3_ n4_ n5_ n6_ n7_ n8_ n9_ n10_ n11_ n12_ n13_ n14_ n15_ n16_ n17_ n18_ n19_ n20_; clear hb hbox hg; obtain ⟨Ao36, co36, eo36⟩ := Kd.R_slice HO252.out; subst eo36; have hnb37 := NB257_227.out; have hnc37 := NB227_257.out; have hnb38 := NB257_242.out; have hnc38 := NB242_257.out; have hnb39 := NB257_249.out; have hnc39 := NB249_257.out; have hcz40_0 : w35.cell? ⟨gb257, 0, none⟩ = some (.slice none 0 0) := (bC BK257.out 0).trans rfl; have hcz40_1 : w35.cell? ⟨gb257, 1, none⟩ = some (.slice none 0 0) := (bC BK257.out 1).trans rfl; have hfz40_0 := bF BK257.out 0; have hfz40_1 := bF BK257.out 1; obtain ⟨Ao41, co41, eo41⟩ := Kd.R_slice HO255.out; subst eo41))
  (try simp only [Act.put, lA, lZ, lS])
  go_cut [44] (fun v44 wc => ∃ (kq : Nat) (x44_11 : Bool), v44 = .bool x44_11 ∧ Aside0 (laws_FnExactPagesKeep.j0 kq a1 t241 t256 x44_11 l0_0 l0_1 t235 t238 t243 t246 t250 t253 = some r) ∧ Aside0 (kq ≤ k) ∧ Aside0 (Kd.R Kd.string 9 wc w.heap.size (fun k_ => some k_ ≠ ((.slice Ao29 t243.length co29) : Value).ownBlock ∧ some k_ ≠ ((.slice Ao36 t250.length co36) : Value).ownBlock) (.slice Ao22 t235.length co22) t235) ∧ Aside0 (Kd.R (Kd.int .i64) 3 wc w.heap.size (fun k_ => some k_ ≠ ((.slice Ao33 t246.length co33) : Value).ownBlock ∧ some k_ ≠ ((.slice Ao41 t253.length co41) : Value).ownBlock) (.slice Ao25 t238.length co25) t238) ∧ Aside0 (Kd.R Kd.string 9 wc w.heap.size (fun k_ => some k_ ≠ ((.slice Ao22 t235.length co22) : Value).ownBlock ∧ some k_ ≠ ((.slice Ao36 t250.length co36) : Value).ownBlock) (.slice Ao29 t243.length co29) t243) ∧ Aside0 (Kd.R (Kd.int .i64) 3 wc w.heap.size (fun k_ => some k_ ≠ ((.slice Ao25 t238.length co25) : Value).ownBlock ∧ some k_ ≠ ((.slice Ao41 t253.length co41) : Value).ownBlock) (.slice Ao33 t246.length co33) t246) ∧ Aside0 (Kd.R Kd.string 9 wc w.heap.size (fun k_ => some k_ ≠ ((.slice Ao22 t235.length co22) : Value).ownBlock ∧ some k_ ≠ ((.slice Ao29 t243.length co29) : Value).ownBlock) (.slice Ao36 t250.length co36) t250) ∧ Aside0 (Kd.R (Kd.int .i64) 3 wc w.heap.size (fun k_ => some k_ ≠ ((.slice Ao25 t238.length co25) : Value).ownBlock ∧ some k_ ≠ ((.slice Ao33 t246.length co33) : Value).ownBlock) (.slice Ao41 t253.length co41) t253) ∧ Aside0 (wc.heap[gb227]? = some (.cells #[(.slice A0_0 l0_0.length c0_0), (.slice A0_1 l0_1.length c0_1)] 59 (0, 0))) ∧ Aside0 (wc.heap[gb242]? = some (.cells #[(.slice Ao22 t235.length co22), (.slice Ao25 t238.length co25)] 61 (0, 0))) ∧ Aside0 (wc.heap[gb249]? = some (.cells #[(.slice Ao29 t243.length co29), (.slice Ao33 t246.length co33)] 61 (0, 0))) ∧ Aside0 (wc.heap[gb257]? = some (.cells #[(.slice Ao36 t250.length co36), (.slice Ao41 t253.length co41)] 61 (0, 0))) ∧ Aside0 (Below w.heap.size w wc))
  case first =>
   have H := HC12.out
   clear HC12
   replace H := Option.bind_eq_some_iff.mp H
   obtain ⟨t258, A420, H⟩ := H
   replace H : (if t258 = true then (laws_FnExactPagesKeep.j0 k a1 t241 t256 (t256 != t241) l0_0 l0_1 t235 t238 t243 t246 t250 t253) else (laws_FnExactPagesKeep.j0 k a1 t241 t256 true l0_0 l0_1 t235 t238 t243 t246 t250 t253)) = some r := H
   have A42 := Am A420
   clear A420
   by_cases c43 : t258 = true
   ·subst c43
    have H1 : (laws_FnExactPagesKeep.j0 k a1 t241 t256 (t256 != t241) l0_0 l0_1 t235 t238 t243 t246 t250 t253) = some r := by rw [if_pos rfl] at H; exact H
    clear H
    have H := H1
    clear H1
    have H' := Am H
    clear H
    have hnb44 := NB257_227.out
    have hnc44 := NB227_257.out
    have hnb45 := NB257_242.out
    have hnc45 := NB242_257.out
    have hnb46 := NB257_249.out
    have hnc46 := NB249_257.out
    have hcz47_0 : w35.cell? ⟨gb257, 0, none⟩ = some (.slice none 0 0) := (bC BK257.out 0).trans rfl
    have hcz47_1 : w35.cell? ⟨gb257, 1, none⟩ = some (.slice none 0 0) := (bC BK257.out 1).trans rfl
    have hfz47_0 := bF BK257.out 0
    have hfz47_1 := bF BK257.out 1
    have hnb48 := NB242_227.out
    have hnc48 := NB227_242.out
    have hnb49 := NB242_249.out
    have hnc49 := NB249_242.out
    have hcz50_0 : w35.cell? ⟨gb242, 0, none⟩ = some (.slice Ao22 t235.length co22) := (bC BK242.out 0).trans rfl
    have hcz50_1 : w35.cell? ⟨gb242, 1, none⟩ = some (.slice Ao25 t238.length co25) := (bC BK242.out 1).trans rfl
    have hfz50_0 := bF BK242.out 0
    have hfz50_1 := bF BK242.out 1
    go_wp2_with (first | ((with_reducible refine gate_callee (f := 46) rfl ?_); refine goesL_ (some 38) rfl rfl Try.func46 (by kernel_rfl) rfl #[.agg #[.slice Ao36 t250.length co36, .slice Ao41 t253.length co41], .agg #[.slice Ao22 t235.length co22, .slice Ao25 t238.length co25]] rfl (by (try simp only [lM, lC, lN]); first | done | rfl | (simp only [lD, lT]; rfl)) ?_; (with_reducible refine (laws_eqPages.calls k _ _ t250 _ _ t253 _ _ t235 _ _ t238 true _ ?side1 ?side2 ?side3 ?side4 ?side5 ?side6 ?side7 ?side8 A42.out).mono ?_); (case side1 => refine (Kd.R_reads' (e := 9) (base := w.heap.size) (ok := fun k_ => (((True ∧ some k_ ≠ (.slice Ao18 t229.length co18 : Value).ownBlock) ∧ some k_ ≠ (.slice Ao22 t235.length co22 : Value).ownBlock) ∧ some k_ ≠ (.slice Ao29 t243.length co29 : Value).ownBlock)) (n := t250.length) (c := co36) ?_).2.2; exact (by (with_reducible repeat (first | apply rA | apply rN | apply rD)); exact (rM (rF (p := ⟨gb257, 1, none⟩) (rF (p := ⟨gb257, 0, none⟩) (rT HO252.out BK257.out (by decide)) (fun _ hk => hk.2) (.slice Ao36 t250.length co36)) (fun _ hk => hk.2) (.slice Ao41 t253.length co41)) (fun _ h_ => h_.1)))); (case side2 => exact (Kd.R_reads' HO252.out).2.1); (case side3 => refine (Kd.R_reads' (e := 3) (base := w.heap.size) (ok := fun k_ => (((True ∧ some k_ ≠ (.slice Ao19 t232.length co19 : Value).ownBlock) ∧ some k_ ≠ (.slice Ao25 t238.length co25 : Value).ownBlock) ∧ some k_ ≠ (.slice Ao33 t246.length co33 : Value).ownBlock)) (n := t253.length) (c := co41) ?_).2.2; exact (by (with_reducible repeat (first | apply rA | apply rN | apply rD)); exact (rM (rF (p := ⟨gb257, 1, none⟩) (rF (p := ⟨gb257, 0, none⟩) (rT HO255.out BK257.out (by decide)) (fun _ hk => hk.2) (.slice Ao36 t250.length co36)) (fun _ hk => hk.2) (.slice Ao41 t253.length co41)) (fun _ h_ => h_.1)))); (case side4 => exact (Kd.R_reads' HO255.out).2.1); (case side5 => refine (Kd.R_reads' (e := 9) (base := w.heap.size) (ok := fun k_ => (((True ∧ some k_ ≠ (.slice Ao18 t229.length co18 : Value).ownBlock) ∧ some k_ ≠ (.slice Ao29 t243.length co29 : Value).ownBlock) ∧ some k_ ≠ (.slice Ao36 t250.length co36 : Value).ownBlock)) (n := t235.length) (c := co22) ?_).2.2; exact (by (with_reducible repeat (first | apply rA | apply rN | apply rD)); exact (rM (rF (p := ⟨gb257, 1, none⟩) (rF (p := ⟨gb257, 0, none⟩) (rT HO237.out BK257.out (by decide)) (fun _ hk => hk.2) (.slice Ao36 t250.length co36)) (fun _ hk => hk.2) (.slice Ao41 t253.length co41)) (fun _ h_ => h_.1)))); (case side6 => exact (Kd.R_reads' HO237.out).2.1); (case side7 => refine (Kd.R_reads' (e := 3) (base := w.heap.size) (ok := fun k_ => (((True ∧ some k_ ≠ (.slice Ao19 t232.length co19 : Value).ownBlock) ∧ some k_ ≠ (.slice Ao33 t246.length co33 : Value).ownBlock) ∧ some k_ ≠ (.slice Ao41 t253.length co41 : Value).ownBlock)) (n := t238.length) (c := co25) ?_).2.2; exact (by (with_reducible repeat (first | apply rA | apply rN | apply rD)); exact (rM (rF (p := ⟨gb257, 1, none⟩) (rF (p := ⟨gb257, 0, none⟩) (rT HO240.out BK257.out (by decide)) (fun _ hk => hk.2) (.slice Ao36 t250.length co36)) (fun _ hk => hk.2) (.slice Ao41 t253.length co41)) (fun _ h_ => h_.1)))); (case side8 => exact (Kd.R_reads' HO240.out).2.1); rintro e w51 ⟨rfl, hb⟩; refine ⟨_, rfl, ?_⟩; have n0_ := Am (rB (by (with_reducible repeat (first | apply rA | apply rN | apply rD)); exact (rM (rF (p := ⟨gb257, 1, none⟩) (rF (p := ⟨gb257, 0, none⟩) (rT HO231.out BK257.out (by decide)) (fun _ hk => hk.2) (.slice Ao36 t250.length co36)) (fun _ hk => hk.2) (.slice Ao41 t253.length co41)) (fun _ h_ => h_.1))) hb); have n1_ := Am (rB (by (with_reducible repeat (first | apply rA | apply rN | apply rD)); exact (rM (rF (p := ⟨gb257, 1, none⟩) (rF (p := ⟨gb257, 0, none⟩) (rT HO234.out BK257.out (by decide)) (fun _ hk => hk.2) (.slice Ao36 t250.length co36)) (fun _ hk => hk.2) (.slice Ao41 t253.length co41)) (fun _ h_ => h_.1))) hb); have n2_ := Am (rB (by (with_reducible repeat (first | apply rA | apply rN | apply rD)); exact (rM (rF (p := ⟨gb257, 1, none⟩) (rF (p := ⟨gb257, 0, none⟩) (rT HO237.out BK257.out (by decide)) (fun _ hk => hk.2) (.slice Ao36 t250.length co36)) (fun _ hk => hk.2) (.slice Ao41 t253.length co41)) (fun _ h_ => h_.1))) hb); have n3_ := Am (rB (by (with_reducible repeat (first | apply rA | apply rN | apply rD)); exact (rM (rF (p := ⟨gb257, 1, none⟩) (rF (p := ⟨gb257, 0, none⟩) (rT HO240.out BK257.out (by decide)) (fun _ hk => hk.2) (.slice Ao36 t250.length co36)) (fun _ hk => hk.2) (.slice Ao41 t253.length co41)) (fun _ h_ => h_.1))) hb); have n4_ := Am (rB (by (with_reducible repeat (first | apply rA | apply rN | apply rD)); exact (rM (rF (p := ⟨gb257, 1, none⟩) (rF (p := ⟨gb257, 0, none⟩) (rT HO245.out BK257.out (by decide)) (fun _ hk => hk.2) (.slice Ao36 t250.length co36)) (fun _ hk => hk.2) (.slice Ao41 t253.length co41)) (fun _ h_ => h_.1))) hb); have n5_ := Am (rB (by (with_reducible repeat (first | apply rA | apply rN | apply rD)); exact (rM (rF (p := ⟨gb257, 1, none⟩) (rF (p := ⟨gb257, 0, none⟩) (rT HO248.out BK257.out (by decide)) (fun _ hk => hk.2) (.slice Ao36 t250.length co36)) (fun _ hk => hk.2) (.slice Ao41 t253.length co41)) (fun _ h_ => h_.1))) hb); have n6_ := Am (rB (by (with_reducible repeat (first | apply rA | apply rN | apply rD)); exact (rM (rF (p := ⟨gb257, 1, none⟩) (rF (p := ⟨gb257, 0, none⟩) (rT HO252.out BK257.out (by decide)) (fun _ hk => hk.2) (.slice Ao36 t250.length co36)) (fun _ hk => hk.2) (.slice Ao41 t253.length co41)) (fun _ h_ => h_.1))) hb); have n7_ := Am (rB (by (with_reducible repeat (first | apply rA | apply rN | apply rD)); exact (rM (rF (p := ⟨gb257, 1, none⟩) (rF (p := ⟨gb257, 0, none⟩) (rT HO255.out BK257.out (by decide)) (fun _ hk => hk.2) (.slice Ao36 t250.length co36)) (fun _ hk => hk.2) (.slice Ao41 t253.length co41)) (fun _ h_ => h_.1))) hb); have n8_ := Am (bB (g := gb227) (o := .cells #[.slice A0_0 l0_0.length c0_0, .slice A0_1 l0_1.length c0_1] 59 (0, 0)) (by (with_reducible repeat (first | refine bN ?_ _ | refine bD ?_ | refine bA ?_ _)); refine blk_far ?_ NB227_257.out _; (with_reducible repeat (first | refine bN ?_ _ | refine bD ?_ | refine bA ?_ _)); refine blk_far ?_ NB227_257.out _; (with_reducible repeat (first | refine bN ?_ _ | refine bD ?_ | refine bA ?_ _)); exact BK227.out) hb); have n9_ := Am (bB (g := gb242) (o := .cells #[.slice Ao22 t235.length co22, .slice Ao25 t238.length co25] 61 (0, 0)) (by (with_reducible repeat (first | refine bN ?_ _ | refine bD ?_ | refine bA ?_ _)); refine blk_far ?_ NB242_257.out _; (with_reducible repeat (first | refine bN ?_ _ | refine bD ?_ | refine bA ?_ _)); refine blk_far ?_ NB242_257.out _; (with_reducible repeat (first | refine bN ?_ _ | refine bD ?_ | refine bA ?_ _)); exact BK242.out) hb); have n10_ := Am (bB (g := gb249) (o := .cells #[.slice Ao29 t243.length co29, .slice Ao33 t246.length co33] 61 (0, 0)) (by (with_reducible repeat (first | refine bN ?_ _ | refine bD ?_ | refine bA ?_ _)); refine blk_far ?_ NB249_257.out _; (with_reducible repeat (first | refine bN ?_ _ | refine bD ?_ | refine bA ?_ _)); refine blk_far ?_ NB249_257.out _; (with_reducible repeat (first | refine bN ?_ _ | refine bD ?_ | refine bA ?_ _)); exact BK249.out) hb); have n11_ := Am (bB (g := gb257) (o := .cells #[.slice Ao36 t250.length co36, .slice Ao41 t253.length co41] 61 (0, 0)) (by (with_reducible repeat (first | refine bN ?_ _ | refine bD ?_ | refine bA ?_ _)); refine blk_put (cs := #[.slice Ao36 t250.length co36, .slice none 0 0]) ?_ 1 _ rfl; (with_reducible repeat (first | refine bN ?_ _ | refine bD ?_ | refine bA ?_ _)); refine blk_put (cs := #[.slice none 0 0, .slice none 0 0]) ?_ 0 _ rfl; (with_reducible repeat (first | refine bN ?_ _ | refine bD ?_ | refine bA ?_ _)); exact BK257.out) hb); have n12_ := Am (bP (by repeat (first | (with_reducible first | exact HB.out | apply oA | apply pN | apply o1 | refine bS ?_ GE227.out | refine bS ?_ GE242.out | refine bS ?_ GE249.out | refine bS ?_ GE257.out) | exact HB.out)) hb); clear HO231; clear HO234; clear HO237; clear HO240; clear HO245; clear HO248; clear HO252; clear HO255; clear BK227; clear BK242; clear BK249; clear BK257; clear HB; have HO231 := n0_; have HO234 := n1_; have HO237 := n2_; have HO240 := n3_; have HO245 := n4_; have HO248 := n5_; have HO252 := n6_; have HO255 := n7_; have BK227 := n8_; have BK242 := n9_; have BK249 := n10_; have BK257 := n11_; have HB := n12_; clear n0_ n1_ n2_ n3_ n4_ n5_ n6_ n7_ n8_ n9_ n10_ n11_ n12_; (try clear hb); (try clear hb2); (try clear hk); (try clear hi)))
    go_meet
    case rel => exact ⟨_, ((t256 != t241)), (by first | rfl | (simp; done) | (simp [*]; done)), H', ⟨by first | omega | exact Nat.le_refl _⟩, ⟨by (with_reducible repeat (first | apply rA | apply rN | apply rD)); exact rM HO237.out (fun _ hk => ⟨hk.1.2, hk.2⟩)⟩, ⟨by (with_reducible repeat (first | apply rA | apply rN | apply rD)); exact rM HO240.out (fun _ hk => ⟨hk.1.2, hk.2⟩)⟩, ⟨by (with_reducible repeat (first | apply rA | apply rN | apply rD)); exact rM HO245.out (fun _ hk => ⟨hk.1.2, hk.2⟩)⟩, ⟨by (with_reducible repeat (first | apply rA | apply rN | apply rD)); exact rM HO248.out (fun _ hk => ⟨hk.1.2, hk.2⟩)⟩, ⟨by (with_reducible repeat (first | apply rA | apply rN | apply rD)); exact rM HO252.out (fun _ hk => ⟨hk.1.2, hk.2⟩)⟩, ⟨by (with_reducible repeat (first | apply rA | apply rN | apply rD)); exact rM HO255.out (fun _ hk => ⟨hk.1.2, hk.2⟩)⟩, ⟨by (with_reducible repeat (first | refine bN ?_ _ | refine bD ?_ | refine bA ?_ _)); exact BK227.out⟩, ⟨by (with_reducible repeat (first | refine bN ?_ _ | refine bD ?_ | refine bA ?_ _)); exact BK242.out⟩, ⟨by (with_reducible repeat (first | refine bN ?_ _ | refine bD ?_ | refine bA ?_ _)); exact BK249.out⟩, ⟨by (with_reducible repeat (first | refine bN ?_ _ | refine bD ?_ | refine bA ?_ _)); exact BK257.out⟩, ⟨by repeat (first | (with_reducible first | exact HB.out | apply oA | apply pN | apply o1 | refine bS ?_ GE227.out | refine bS ?_ GE242.out | refine bS ?_ GE249.out | refine bS ?_ GE257.out) | exact HB.out)⟩⟩
   ·replace c43 := Bool.eq_false_iff.mpr c43
    subst c43
    have H1 : (laws_FnExactPagesKeep.j0 k a1 t241 t256 true l0_0 l0_1 t235 t238 t243 t246 t250 t253) = some r := by rw [if_neg (show ¬ (false = true) by decide)] at H; exact H
    clear H
    have H := H1
    clear H1
    have H' := Am H
    clear H
    have hnb52 := NB257_227.out
    have hnc52 := NB227_257.out
    have hnb53 := NB257_242.out
    have hnc53 := NB242_257.out
    have hnb54 := NB257_249.out
    have hnc54 := NB249_257.out
    have hcz55_0 : w35.cell? ⟨gb257, 0, none⟩ = some (.slice none 0 0) := (bC BK257.out 0).trans rfl
    have hcz55_1 : w35.cell? ⟨gb257, 1, none⟩ = some (.slice none 0 0) := (bC BK257.out 1).trans rfl
    have hfz55_0 := bF BK257.out 0
    have hfz55_1 := bF BK257.out 1
    have hnb56 := NB242_227.out
    have hnc56 := NB227_242.out
    have hnb57 := NB242_249.out
    have hnc57 := NB249_242.out
    have hcz58_0 : w35.cell? ⟨gb242, 0, none⟩ = some (.slice Ao22 t235.length co22) := (bC BK242.out 0).trans rfl
    have hcz58_1 : w35.cell? ⟨gb242, 1, none⟩ = some (.slice Ao25 t238.length co25) := (bC BK242.out 1).trans rfl
    have hfz58_0 := bF BK242.out 0
    have hfz58_1 := bF BK242.out 1
    go_wp2_with (first | ((with_reducible refine gate_callee (f := 46) rfl ?_); refine goesL_ (some 38) rfl rfl Try.func46 (by kernel_rfl) rfl #[.agg #[.slice Ao36 t250.length co36, .slice Ao41 t253.length co41], .agg #[.slice Ao22 t235.length co22, .slice Ao25 t238.length co25]] rfl (by (try simp only [lM, lC, lN]); first | done | rfl | (simp only [lD, lT]; rfl)) ?_; (with_reducible refine (laws_eqPages.calls k _ _ t250 _ _ t253 _ _ t235 _ _ t238 false _ ?side1 ?side2 ?side3 ?side4 ?side5 ?side6 ?side7 ?side8 A42.out).mono ?_); (case side1 => refine (Kd.R_reads' (e := 9) (base := w.heap.size) (ok := fun k_ => (((True ∧ some k_ ≠ (.slice Ao18 t229.length co18 : Value).ownBlock) ∧ some k_ ≠ (.slice Ao22 t235.length co22 : Value).ownBlock) ∧ some k_ ≠ (.slice Ao29 t243.length co29 : Value).ownBlock)) (n := t250.length) (c := co36) ?_).2.2; exact (by (with_reducible repeat (first | apply rA | apply rN | apply rD)); exact (rM (rF (p := ⟨gb257, 1, none⟩) (rF (p := ⟨gb257, 0, none⟩) (rT HO252.out BK257.out (by decide)) (fun _ hk => hk.2) (.slice Ao36 t250.length co36)) (fun _ hk => hk.2) (.slice Ao41 t253.length co41)) (fun _ h_ => h_.1)))); (case side2 => exact (Kd.R_reads' HO252.out).2.1); (case side3 => refine (Kd.R_reads' (e := 3) (base := w.heap.size) (ok := fun k_ => (((True ∧ some k_ ≠ (.slice Ao19 t232.length co19 : Value).ownBlock) ∧ some k_ ≠ (.slice Ao25 t238.length co25 : Value).ownBlock) ∧ some k_ ≠ (.slice Ao33 t246.length co33 : Value).ownBlock)) (n := t253.length) (c := co41) ?_).2.2; exact (by (with_reducible repeat (first | apply rA | apply rN | apply rD)); exact (rM (rF (p := ⟨gb257, 1, none⟩) (rF (p := ⟨gb257, 0, none⟩) (rT HO255.out BK257.out (by decide)) (fun _ hk => hk.2) (.slice Ao36 t250.length co36)) (fun _ hk => hk.2) (.slice Ao41 t253.length co41)) (fun _ h_ => h_.1)))); (case side4 => exact (Kd.R_reads' HO255.out).2.1); (case side5 => refine (Kd.R_reads' (e := 9) (base := w.heap.size) (ok := fun k_ => (((True ∧ some k_ ≠ (.slice Ao18 t229.length co18 : Value).ownBlock) ∧ some k_ ≠ (.slice Ao29 t243.length co29 : Value).ownBlock) ∧ some k_ ≠ (.slice Ao36 t250.length co36 : Value).ownBlock)) (n := t235.length) (c := co22) ?_).2.2; exact (by (with_reducible repeat (first | apply rA | apply rN | apply rD)); exact (rM (rF (p := ⟨gb257, 1, none⟩) (rF (p := ⟨gb257, 0, none⟩) (rT HO237.out BK257.out (by decide)) (fun _ hk => hk.2) (.slice Ao36 t250.length co36)) (fun _ hk => hk.2) (.slice Ao41 t253.length co41)) (fun _ h_ => h_.1)))); (case side6 => exact (Kd.R_reads' HO237.out).2.1); (case side7 => refine (Kd.R_reads' (e := 3) (base := w.heap.size) (ok := fun k_ => (((True ∧ some k_ ≠ (.slice Ao19 t232.length co19 : Value).ownBlock) ∧ some k_ ≠ (.slice Ao33 t246.length co33 : Value).ownBlock) ∧ some k_ ≠ (.slice Ao41 t253.length co41 : Value).ownBlock)) (n := t238.length) (c := co25) ?_).2.2; exact (by (with_reducible repeat (first | apply rA | apply rN | apply rD)); exact (rM (rF (p := ⟨gb257, 1, none⟩) (rF (p := ⟨gb257, 0, none⟩) (rT HO240.out BK257.out (by decide)) (fun _ hk => hk.2) (.slice Ao36 t250.length co36)) (fun _ hk => hk.2) (.slice Ao41 t253.length co41)) (fun _ h_ => h_.1)))); (case side8 => exact (Kd.R_reads' HO240.out).2.1); rintro e w59 ⟨rfl, hb⟩; refine ⟨_, rfl, ?_⟩; have n0_ := Am (rB (by (with_reducible repeat (first | apply rA | apply rN | apply rD)); exact (rM (rF (p := ⟨gb257, 1, none⟩) (rF (p := ⟨gb257, 0, none⟩) (rT HO231.out BK257.out (by decide)) (fun _ hk => hk.2) (.slice Ao36 t250.length co36)) (fun _ hk => hk.2) (.slice Ao41 t253.length co41)) (fun _ h_ => h_.1))) hb); have n1_ := Am (rB (by (with_reducible repeat (first | apply rA | apply rN | apply rD)); exact (rM (rF (p := ⟨gb257, 1, none⟩) (rF (p := ⟨gb257, 0, none⟩) (rT HO234.out BK257.out (by decide)) (fun _ hk => hk.2) (.slice Ao36 t250.length co36)) (fun _ hk => hk.2) (.slice Ao41 t253.length co41)) (fun _ h_ => h_.1))) hb); have n2_ := Am (rB (by (with_reducible repeat (first | apply rA | apply rN | apply rD)); exact (rM (rF (p := ⟨gb257, 1, none⟩) (rF (p := ⟨gb257, 0, none⟩) (rT HO237.out BK257.out (by decide)) (fun _ hk => hk.2) (.slice Ao36 t250.length co36)) (fun _ hk => hk.2) (.slice Ao41 t253.length co41)) (fun _ h_ => h_.1))) hb); have n3_ := Am (rB (by (with_reducible repeat (first | apply rA | apply rN | apply rD)); exact (rM (rF (p := ⟨gb257, 1, none⟩) (rF (p := ⟨gb257, 0, none⟩) (rT HO240.out BK257.out (by decide)) (fun _ hk => hk.2) (.slice Ao36 t250.length co36)) (fun _ hk => hk.2) (.slice Ao41 t253.length co41)) (fun _ h_ => h_.1))) hb); have n4_ := Am (rB (by (with_reducible repeat (first | apply rA | apply rN | apply rD)); exact (rM (rF (p := ⟨gb257, 1, none⟩) (rF (p := ⟨gb257, 0, none⟩) (rT HO245.out BK257.out (by decide)) (fun _ hk => hk.2) (.slice Ao36 t250.length co36)) (fun _ hk => hk.2) (.slice Ao41 t253.length co41)) (fun _ h_ => h_.1))) hb); have n5_ := Am (rB (by (with_reducible repeat (first | apply rA | apply rN | apply rD)); exact (rM (rF (p := ⟨gb257, 1, none⟩) (rF (p := ⟨gb257, 0, none⟩) (rT HO248.out BK257.out (by decide)) (fun _ hk => hk.2) (.slice Ao36 t250.length co36)) (fun _ hk => hk.2) (.slice Ao41 t253.length co41)) (fun _ h_ => h_.1))) hb); have n6_ := Am (rB (by (with_reducible repeat (first | apply rA | apply rN | apply rD)); exact (rM (rF (p := ⟨gb257, 1, none⟩) (rF (p := ⟨gb257, 0, none⟩) (rT HO252.out BK257.out (by decide)) (fun _ hk => hk.2) (.slice Ao36 t250.length co36)) (fun _ hk => hk.2) (.slice Ao41 t253.length co41)) (fun _ h_ => h_.1))) hb); have n7_ := Am (rB (by (with_reducible repeat (first | apply rA | apply rN | apply rD)); exact (rM (rF (p := ⟨gb257, 1, none⟩) (rF (p := ⟨gb257, 0, none⟩) (rT HO255.out BK257.out (by decide)) (fun _ hk => hk.2) (.slice Ao36 t250.length co36)) (fun _ hk => hk.2) (.slice Ao41 t253.length co41)) (fun _ h_ => h_.1))) hb); have n8_ := Am (bB (g := gb227) (o := .cells #[.slice A0_0 l0_0.length c0_0, .slice A0_1 l0_1.length c0_1] 59 (0, 0)) (by (with_reducible repeat (first | refine bN ?_ _ | refine bD ?_ | refine bA ?_ _)); refine blk_far ?_ NB227_257.out _; (with_reducible repeat (first | refine bN ?_ _ | refine bD ?_ | refine bA ?_ _)); refine blk_far ?_ NB227_257.out _; (with_reducible repeat (first | refine bN ?_ _ | refine bD ?_ | refine bA ?_ _)); exact BK227.out) hb); have n9_ := Am (bB (g := gb242) (o := .cells #[.slice Ao22 t235.length co22, .slice Ao25 t238.length co25] 61 (0, 0)) (by (with_reducible repeat (first | refine bN ?_ _ | refine bD ?_ | refine bA ?_ _)); refine blk_far ?_ NB242_257.out _; (with_reducible repeat (first | refine bN ?_ _ | refine bD ?_ | refine bA ?_ _)); refine blk_far ?_ NB242_257.out _; (with_reducible repeat (first | refine bN ?_ _ | refine bD ?_ | refine bA ?_ _)); exact BK242.out) hb); have n10_ := Am (bB (g := gb249) (o := .cells #[.slice Ao29 t243.length co29, .slice Ao33 t246.length co33] 61 (0, 0)) (by (with_reducible repeat (first | refine bN ?_ _ | refine bD ?_ | refine bA ?_ _)); refine blk_far ?_ NB249_257.out _; (with_reducible repeat (first | refine bN ?_ _ | refine bD ?_ | refine bA ?_ _)); refine blk_far ?_ NB249_257.out _; (with_reducible repeat (first | refine bN ?_ _ | refine bD ?_ | refine bA ?_ _)); exact BK249.out) hb); have n11_ := Am (bB (g := gb257) (o := .cells #[.slice Ao36 t250.length co36, .slice Ao41 t253.length co41] 61 (0, 0)) (by (with_reducible repeat (first | refine bN ?_ _ | refine bD ?_ | refine bA ?_ _)); refine blk_put (cs := #[.slice Ao36 t250.length co36, .slice none 0 0]) ?_ 1 _ rfl; (with_reducible repeat (first | refine bN ?_ _ | refine bD ?_ | refine bA ?_ _)); refine blk_put (cs := #[.slice none 0 0, .slice none 0 0]) ?_ 0 _ rfl; (with_reducible repeat (first | refine bN ?_ _ | refine bD ?_ | refine bA ?_ _)); exact BK257.out) hb); have n12_ := Am (bP (by repeat (first | (with_reducible first | exact HB.out | apply oA | apply pN | apply o1 | refine bS ?_ GE227.out | refine bS ?_ GE242.out | refine bS ?_ GE249.out | refine bS ?_ GE257.out) | exact HB.out)) hb); clear HO231; clear HO234; clear HO237; clear HO240; clear HO245; clear HO248; clear HO252; clear HO255; clear BK227; clear BK242; clear BK249; clear BK257; clear HB; have HO231 := n0_; have HO234 := n1_; have HO237 := n2_; have HO240 := n3_; have HO245 := n4_; have HO248 := n5_; have HO252 := n6_; have HO255 := n7_; have BK227 := n8_; have BK242 := n9_; have BK249 := n10_; have BK257 := n11_; have HB := n12_; clear n0_ n1_ n2_ n3_ n4_ n5_ n6_ n7_ n8_ n9_ n10_ n11_ n12_; (try clear hb); (try clear hb2); (try clear hk); (try clear hi)))
    go_meet
    case rel => exact ⟨_, (true), (by first | rfl | (simp; done) | (simp [*]; done)), H', ⟨by first | omega | exact Nat.le_refl _⟩, ⟨by (with_reducible repeat (first | apply rA | apply rN | apply rD)); exact rM HO237.out (fun _ hk => ⟨hk.1.2, hk.2⟩)⟩, ⟨by (with_reducible repeat (first | apply rA | apply rN | apply rD)); exact rM HO240.out (fun _ hk => ⟨hk.1.2, hk.2⟩)⟩, ⟨by (with_reducible repeat (first | apply rA | apply rN | apply rD)); exact rM HO245.out (fun _ hk => ⟨hk.1.2, hk.2⟩)⟩, ⟨by (with_reducible repeat (first | apply rA | apply rN | apply rD)); exact rM HO248.out (fun _ hk => ⟨hk.1.2, hk.2⟩)⟩, ⟨by (with_reducible repeat (first | apply rA | apply rN | apply rD)); exact rM HO252.out (fun _ hk => ⟨hk.1.2, hk.2⟩)⟩, ⟨by (with_reducible repeat (first | apply rA | apply rN | apply rD)); exact rM HO255.out (fun _ hk => ⟨hk.1.2, hk.2⟩)⟩, ⟨by (with_reducible repeat (first | refine bN ?_ _ | refine bD ?_ | refine bA ?_ _)); exact BK227.out⟩, ⟨by (with_reducible repeat (first | refine bN ?_ _ | refine bD ?_ | refine bA ?_ _)); exact BK242.out⟩, ⟨by (with_reducible repeat (first | refine bN ?_ _ | refine bD ?_ | refine bA ?_ _)); exact BK249.out⟩, ⟨by (with_reducible repeat (first | refine bN ?_ _ | refine bD ?_ | refine bA ?_ _)); exact BK257.out⟩, ⟨by repeat (first | (with_reducible first | exact HB.out | apply oA | apply pN | apply o1 | refine bS ?_ GE227.out | refine bS ?_ GE242.out | refine bS ?_ GE249.out | refine bS ?_ GE257.out) | exact HB.out)⟩⟩
  case rest =>
   clear HC12
   try clear c1
   try clear c2
   try clear p2
   try clear c3
   try clear c4
   try clear c4b0
   try clear c5
   try clear c11
   try clear c23
   try clear c30
   try clear c31
   try clear c37
   try clear c38
   try clear c39
   try clear c42
   try clear c43
   try clear c44
   try clear c45
   try clear c46
   try clear c48
   try clear c49
   try clear c52
   try clear c53
   try clear c54
   try clear c56
   try clear c57
   try clear hcz14_0
   try clear hcz14_1
   try clear hcz16_0
   try clear hcz16_1
   try clear hcz24_0
   try clear hcz24_1
   try clear hcz26_0
   try clear hcz26_1
   try clear hcz32_0
   try clear hcz32_1
   try clear hcz40_0
   try clear hcz40_1
   try clear hcz47_0
   try clear hcz47_1
   try clear hcz50_0
   try clear hcz50_1
   try clear hcz55_0
   try clear hcz55_1
   try clear hcz58_0
   try clear hcz58_1
   try clear hcz6_0
   try clear hcz6_1
   try clear hfz14_0
   try clear hfz14_1
   try clear hfz16_0
   try clear hfz16_1
   try clear hfz24_0
   try clear hfz24_1
   try clear hfz26_0
   try clear hfz26_1
   try clear hfz32_0
   try clear hfz32_1
   try clear hfz40_0
   try clear hfz40_1
   try clear hfz47_0
   try clear hfz47_1
   try clear hfz50_0
   try clear hfz50_1
   try clear hfz55_0
   try clear hfz55_1
   try clear hfz58_0
   try clear hfz58_1
   try clear hfz6_0
   try clear hfz6_1
   obtain ⟨kq, x44_11, rfl, HA, HJ11, HO_243000, HO_243001, HO_250000, HO_250001, HO_258000, HO_258001, BK227, BK242, BK249, BK257, HB⟩ := hcut
   cases kq with
   | zero => exact absurd HA.out (by simp [laws_FnExactPagesKeep.j0])
   | succ kj11 =>
    have H := HA.out
    clear HA
    simp only [laws_FnExactPagesKeep.j0] at H
    by_cases c60 : x44_11 = true
    ·subst c60
     have H1 : (some false) = some r := by rw [if_pos rfl] at H; exact H
     clear H
     have H := H1
     clear H1
     exact absurd ((Option.some.inj H).trans hT_.out) (by decide)
    ·replace c60 := Bool.eq_false_iff.mpr c60
     subst c60
     have H1 : ((laws_toPages.f kj11 l0_0 l0_1).bind fun bt259 => ((laws_eqPages.f kj11 t243 t246 bt259.1 bt259.2).bind fun t265 => (if t265 = true then ((laws_markPages.f kj11 t243 t246 1).bind fun bt266 => (if bt266.1 < 0 then (laws_FnExactPagesKeep.j1 kj11 a1 t241 true l0_0 l0_1 t235 t238 t250 t253) else ((laws_eqPages.f kj11 t250 t253 t235 t238).bind fun t269 => (if t269 = true then (laws_FnExactPagesKeep.j1 kj11 a1 t241 (t256 != t241) l0_0 l0_1 t235 t238 t250 t253) else (laws_FnExactPagesKeep.j1 kj11 a1 t241 true l0_0 l0_1 t235 t238 t250 t253))))) else (some false)))) = some r := by rw [if_neg (show ¬ (false = true) by decide)] at H; exact H
     clear H
     have H := H1
     clear H1
     replace H := Option.bind_eq_some_iff.mp H
     obtain ⟨⟨t259, t262⟩, A610, H⟩ := H
     replace H : ((laws_eqPages.f kj11 t243 t246 t259 t262).bind fun t265 => (if t265 = true then ((laws_markPages.f kj11 t243 t246 1).bind fun bt266 => (if bt266.1 < 0 then (laws_FnExactPagesKeep.j1 kj11 a1 t241 true l0_0 l0_1 t235 t238 t250 t253) else ((laws_eqPages.f kj11 t250 t253 t235 t238).bind fun t269 => (if t269 = true then (laws_FnExactPagesKeep.j1 kj11 a1 t241 (t256 != t241) l0_0 l0_1 t235 t238 t250 t253) else (laws_FnExactPagesKeep.j1 kj11 a1 t241 true l0_0 l0_1 t235 t238 t250 t253))))) else (some false))) = some r := H
     have A61 := Am A610
     clear A610
     replace H := Option.bind_eq_some_iff.mp H
     obtain ⟨t265, A620, H⟩ := H
     replace H : (if t265 = true then ((laws_markPages.f kj11 t243 t246 1).bind fun bt266 => (if bt266.1 < 0 then (laws_FnExactPagesKeep.j1 kj11 a1 t241 true l0_0 l0_1 t235 t238 t250 t253) else ((laws_eqPages.f kj11 t250 t253 t235 t238).bind fun t269 => (if t269 = true then (laws_FnExactPagesKeep.j1 kj11 a1 t241 (t256 != t241) l0_0 l0_1 t235 t238 t250 t253) else (laws_FnExactPagesKeep.j1 kj11 a1 t241 true l0_0 l0_1 t235 t238 t250 t253))))) else (some false)) = some r := H
     have A62 := Am A620
     clear A620
     by_cases c63 : t265 = true
     ·subst c63
      have H1 : ((laws_markPages.f kj11 t243 t246 1).bind fun bt266 => (if bt266.1 < 0 then (laws_FnExactPagesKeep.j1 kj11 a1 t241 true l0_0 l0_1 t235 t238 t250 t253) else ((laws_eqPages.f kj11 t250 t253 t235 t238).bind fun t269 => (if t269 = true then (laws_FnExactPagesKeep.j1 kj11 a1 t241 (t256 != t241) l0_0 l0_1 t235 t238 t250 t253) else (laws_FnExactPagesKeep.j1 kj11 a1 t241 true l0_0 l0_1 t235 t238 t250 t253))))) = some r := by rw [if_pos rfl] at H; exact H
      clear H
      have H := H1
      clear H1
      replace H := Option.bind_eq_some_iff.mp H
      obtain ⟨⟨t266, t267, t268⟩, A640, H⟩ := H
      replace H : (if t266 < 0 then (laws_FnExactPagesKeep.j1 kj11 a1 t241 true l0_0 l0_1 t235 t238 t250 t253) else ((laws_eqPages.f kj11 t250 t253 t235 t238).bind fun t269 => (if t269 = true then (laws_FnExactPagesKeep.j1 kj11 a1 t241 (t256 != t241) l0_0 l0_1 t235 t238 t250 t253) else (laws_FnExactPagesKeep.j1 kj11 a1 t241 true l0_0 l0_1 t235 t238 t250 t253)))) = some r := H
      have A64 := Am A640
      clear A640
      have HC65 := Am H
      clear H
      try go_wp2
      have n0_ := Am (rD HO_243000.out)
      have n1_ := Am (rD HO_243001.out)
      have n2_ := Am (rD HO_250000.out)
      have n3_ := Am (rD HO_250001.out)
      have n4_ := Am (rD HO_258000.out)
      have n5_ := Am (rD HO_258001.out)
      have n6_ := Am (bD BK227.out)
      have n7_ := Am (bD BK242.out)
      have n8_ := Am (bD BK249.out)
      have n9_ := Am (bD BK257.out)
      have n10_ := Am (o1 HB.out)
      clear HO_243000
      clear HO_243001
      clear HO_250000
      clear HO_250001
      clear HO_258000
      clear HO_258001
      clear BK227
      clear BK242
      clear BK249
      clear BK257
      clear HB
      have HO_243000 := n0_
      have HO_243001 := n1_
      have HO_250000 := n2_
      have HO_250001 := n3_
      have HO_258000 := n4_
      have HO_258001 := n5_
      have BK227 := n6_
      have BK242 := n7_
      have BK249 := n8_
      have BK257 := n9_
      have HB := n10_
      clear n0_ n1_ n2_ n3_ n4_ n5_ n6_ n7_ n8_ n9_ n10_
      refine start_ (n := 5) (S := fun w' => w'.cell? ⟨gb249, 0, none⟩ = some (.slice Ao29 t243.length co29) ∧ w'.cell? ⟨gb249, 1, none⟩ = some (.slice Ao33 t246.length co33) ∧ w'.cell? ⟨gb227, 0, none⟩ = some (.slice A0_0 l0_0.length c0_0) ∧ w'.cell? ⟨gb227, 1, none⟩ = some (.slice A0_1 l0_1.length c0_1)) (ds := []) #[false, false, false, false, false] (by kernel_rfl) rfl rfl ⟨(bC BK249.out 0).trans rfl, (bC BK249.out 1).trans rfl, (bC BK227.out 0).trans rfl, (bC BK227.out 1).trans rfl⟩ (fun hHeld => ?_)
      generalize wc.drew = w66 at HO_243000 HO_243001 HO_250000 HO_250001 HO_258000 HO_258001 BK227 BK242 BK249 BK257 HB hHeld ⊢
      refine take_ (i := 0) (N := some 45) (v := ?_) (a' := ?_) #[true, false, false, false, false] rfl rfl (by kernel_rfl) (fun _ _ _ h => h) (Or.inl ⟨by rfl, ?_⟩) hHeld ?_ ?_
      rotate_left
      ·rintro w' ⟨s0, s1, s2, s3⟩
       go_simp
       with_reducible rfl
      rotate_left
      ·simp only [Act.put, lA, lZ, lS, i64_w, i32_w]
       rfl
      refine take_ (i := 1) (N := some 46) (v := ?_) (a' := ?_) #[true, true, false, false, false] rfl rfl (by kernel_rfl) (fun _ _ _ h => h) (Or.inl ⟨by rfl, ?_⟩) hHeld ?_ ?_
      rotate_left
      ·rintro w' ⟨s0, s1, s2, s3⟩
       go_simp
       with_reducible rfl
      rotate_left
      ·simp only [Act.put, lA, lZ, lS, i64_w, i32_w]
       rfl
      refine one_ (i := 2) (N := some 47) #[true, true, true, false, false] rfl rfl (by kernel_rfl) (by decide) (fun K hK => ?_)
      refine goes_ Try.func44 (by kernel_rfl) rfl #[.agg #[.slice A0_0 l0_0.length c0_0, .slice A0_1 l0_1.length c0_1]] (by rfl) rfl rfl (by (try simp only [lM, lC, lN]); first | done | rfl | (simp only [lD, lT]; rfl)) ?_
      with_reducible refine (laws_toPages.calls kj11 _ _ l0_0 _ _ l0_1 t259 t262 _ ?side1 ?side2 ?side3 ?side4 A61.out).mono ?_
      (case side1 => repeat (first | exact (cB HR0_0.out HB.out) | (with_reducible refine cA ?_ _) | (with_reducible refine cN ?_ _) | (with_reducible refine cD ?_)))
      (case side2 => exact HC0_0.out)
      (case side3 => repeat (first | exact (cB HR0_1.out HB.out) | (with_reducible refine cA ?_ _) | (with_reducible refine cN ?_ _) | (with_reducible refine cD ?_)))
      (case side4 => exact HC0_1.out)
      rintro e w67 ⟨v260, v263, rfl, ho0, ho1, hb⟩
      refine ⟨_, rfl, ?_⟩
      have n0_ := Am (Kd.R_elder' (by (with_reducible repeat (first | apply rA | apply rN | apply rD)); exact HO_243000.out) (Kd.R_base ho0) hb)
      have n1_ := Am (Kd.R_elder' (by (with_reducible repeat (first | apply rA | apply rN | apply rD)); exact HO_243001.out) (Kd.R_base ho1) hb)
      have n2_ := Am (Kd.R_elder' (by (with_reducible repeat (first | apply rA | apply rN | apply rD)); exact HO_250000.out) (Kd.R_base ho0) hb)
      have n3_ := Am (Kd.R_elder' (by (with_reducible repeat (first | apply rA | apply rN | apply rD)); exact HO_250001.out) (Kd.R_base ho1) hb)
      have n4_ := Am (Kd.R_elder' (by (with_reducible repeat (first | apply rA | apply rN | apply rD)); exact HO_258000.out) (Kd.R_base ho0) hb)
      have n5_ := Am (Kd.R_elder' (by (with_reducible repeat (first | apply rA | apply rN | apply rD)); exact HO_258001.out) (Kd.R_base ho1) hb)
      have n6_ := Am (Kd.R_lower (Kd.R_new' (Kd.R_new' (Kd.R_new' ho0 (Kd.R_lt (by (with_reducible repeat (first | apply rA | apply rN | apply rD)); exact HO_243000.out))) (Kd.R_lt (by (with_reducible repeat (first | apply rA | apply rN | apply rD)); exact HO_250000.out))) (Kd.R_lt (by (with_reducible repeat (first | apply rA | apply rN | apply rD)); exact HO_258000.out))) (bZ (by repeat (first | (with_reducible first | exact HB.out | apply oA | apply pN | apply o1 | refine bS ?_ GE227.out | refine bS ?_ GE242.out | refine bS ?_ GE249.out | refine bS ?_ GE257.out) | exact HB.out))))
      have n7_ := Am (Kd.R_lower (Kd.R_new' (Kd.R_new' (Kd.R_new' ho1 (Kd.R_lt (by (with_reducible repeat (first | apply rA | apply rN | apply rD)); exact HO_243001.out))) (Kd.R_lt (by (with_reducible repeat (first | apply rA | apply rN | apply rD)); exact HO_250001.out))) (Kd.R_lt (by (with_reducible repeat (first | apply rA | apply rN | apply rD)); exact HO_258001.out))) (bZ (by repeat (first | (with_reducible first | exact HB.out | apply oA | apply pN | apply o1 | refine bS ?_ GE227.out | refine bS ?_ GE242.out | refine bS ?_ GE249.out | refine bS ?_ GE257.out) | exact HB.out))))
      have n8_ := Am (bB (g := gb227) (o := .cells #[.slice A0_0 l0_0.length c0_0, .slice A0_1 l0_1.length c0_1] 59 (0, 0)) (by (with_reducible repeat (first | refine bN ?_ _ | refine bD ?_ | refine bA ?_ _)); exact BK227.out) hb)
      have n9_ := Am (bB (g := gb242) (o := .cells #[.slice Ao22 t235.length co22, .slice Ao25 t238.length co25] 61 (0, 0)) (by (with_reducible repeat (first | refine bN ?_ _ | refine bD ?_ | refine bA ?_ _)); exact BK242.out) hb)
      have n10_ := Am (bB (g := gb249) (o := .cells #[.slice Ao29 t243.length co29, .slice Ao33 t246.length co33] 61 (0, 0)) (by (with_reducible repeat (first | refine bN ?_ _ | refine bD ?_ | refine bA ?_ _)); exact BK249.out) hb)
      have n11_ := Am (bB (g := gb257) (o := .cells #[.slice Ao36 t250.length co36, .slice Ao41 t253.length co41] 61 (0, 0)) (by (with_reducible repeat (first | refine bN ?_ _ | refine bD ?_ | refine bA ?_ _)); exact BK257.out) hb)
      have n12_ := Am (bP (by repeat (first | (with_reducible first | exact HB.out | apply oA | apply pN | apply o1 | refine bS ?_ GE227.out | refine bS ?_ GE242.out | refine bS ?_ GE249.out | refine bS ?_ GE257.out) | exact HB.out)) hb)
      clear HO_243000
      clear HO_243001
      clear HO_250000
      clear HO_250001
      clear HO_258000
      clear HO_258001
      clear BK227
      clear BK242
      clear BK249
      clear BK257
      clear HB
      have HO_243000 := n0_
      have HO_243001 := n1_
      have HO_250000 := n2_
      have HO_250001 := n3_
      have HO_258000 := n4_
      have HO_258001 := n5_
      have HO261 := n6_
      have HO264 := n7_
      have BK227 := n8_
      have BK242 := n9_
      have BK249 := n10_
      have BK257 := n11_
      have HB := n12_
      clear n0_ n1_ n2_ n3_ n4_ n5_ n6_ n7_ n8_ n9_ n10_ n11_ n12_
      (try clear hb)
      (try clear hb2)
      (try clear hk)
      (try clear hi)
      (try clear ho0)
      (try clear ho1)
      obtain ⟨Ao68, co68, eo68⟩ := Kd.R_slice HO261.out
      (first | subst eo68 | (injection eo68 with f1_ f2_ f3_; have f4_ := f1_.symm; have f5_ := f3_.symm; clear f1_ f2_ f3_; subst f4_; subst f5_))
      obtain ⟨Ao69, co69, eo69⟩ := Kd.R_slice HO264.out
      (first | subst eo69 | (injection eo69 with f1_ f2_ f3_; have f4_ := f1_.symm; have f5_ := f3_.symm; clear f1_ f2_ f3_; subst f4_; subst f5_))
      refine hK.out _ _ ⟨(bC BK249.out 0).trans rfl, (bC BK249.out 1).trans rfl, (bC BK227.out 0).trans rfl, (bC BK227.out 1).trans rfl⟩ (fun hHeld => ?_)
      clear hK K
      refine norm_ (a' := ?_) ?_ ?_
      rotate_left
      ·show Act.put _ (some 47) _ = _
       simp only [Act.put, lA, lZ, lS, i64_w, i32_w]
       rfl
      refine one_ (i := 3) (N := some 48) #[true, true, true, true, false] rfl rfl (by kernel_rfl) (by decide) (fun K hK => ?_)
      refine goes_ Try.func46 (by kernel_rfl) rfl #[.agg #[.slice Ao29 t243.length co29, .slice Ao33 t246.length co33], .agg #[.slice Ao68 t259.length co68, .slice Ao69 t262.length co69]] (by rfl) rfl rfl (by (try simp only [lM, lC, lN]); first | done | rfl | (simp only [lD, lT]; rfl)) ?_
      with_reducible refine (laws_eqPages.calls kj11 _ _ t243 _ _ t246 _ _ t259 _ _ t262 true _ ?side1 ?side2 ?side3 ?side4 ?side5 ?side6 ?side7 ?side8 A62.out).mono ?_
      (case side1 => repeat (first | exact (Kd.R_reads' HO_250000.out).2.2 | (with_reducible refine cA ?_ _) | (with_reducible refine cN ?_ _) | (with_reducible refine cD ?_)))
      (case side2 => exact (Kd.R_reads' HO_250000.out).2.1)
      (case side3 => repeat (first | exact (Kd.R_reads' HO_250001.out).2.2 | (with_reducible refine cA ?_ _) | (with_reducible refine cN ?_ _) | (with_reducible refine cD ?_)))
      (case side4 => exact (Kd.R_reads' HO_250001.out).2.1)
      (case side5 => repeat (first | exact (Kd.R_reads' HO261.out).2.2 | (with_reducible refine cA ?_ _) | (with_reducible refine cN ?_ _) | (with_reducible refine cD ?_)))
      (case side6 => exact (Kd.R_reads' HO261.out).2.1)
      (case side7 => repeat (first | exact (Kd.R_reads' HO264.out).2.2 | (with_reducible refine cA ?_ _) | (with_reducible refine cN ?_ _) | (with_reducible refine cD ?_)))
      (case side8 => exact (Kd.R_reads' HO264.out).2.1)
      rintro e w70 ⟨rfl, hb⟩
      refine ⟨_, rfl, ?_⟩
      have n0_ := Am (rB (by (with_reducible repeat (first | apply rA | apply rN | apply rD)); exact HO_243000.out) hb)
      have n1_ := Am (rB (by (with_reducible repeat (first | apply rA | apply rN | apply rD)); exact HO_243001.out) hb)
      have n2_ := Am (rB (by (with_reducible repeat (first | apply rA | apply rN | apply rD)); exact HO_250000.out) hb)
      have n3_ := Am (rB (by (with_reducible repeat (first | apply rA | apply rN | apply rD)); exact HO_250001.out) hb)
      have n4_ := Am (rB (by (with_reducible repeat (first | apply rA | apply rN | apply rD)); exact HO_258000.out) hb)
      have n5_ := Am (rB (by (with_reducible repeat (first | apply rA | apply rN | apply rD)); exact HO_258001.out) hb)
      have n6_ := Am (rB (by (with_reducible repeat (first | apply rA | apply rN | apply rD)); exact HO261.out) hb)
      have n7_ := Am (rB (by (with_reducible repeat (first | apply rA | apply rN | apply rD)); exact HO264.out) hb)
      have n8_ := Am (bB (g := gb227) (o := .cells #[.slice A0_0 l0_0.length c0_0, .slice A0_1 l0_1.length c0_1] 59 (0, 0)) (by (with_reducible repeat (first | refine bN ?_ _ | refine bD ?_ | refine bA ?_ _)); exact BK227.out) hb)
      have n9_ := Am (bB (g := gb242) (o := .cells #[.slice Ao22 t235.length co22, .slice Ao25 t238.length co25] 61 (0, 0)) (by (with_reducible repeat (first | refine bN ?_ _ | refine bD ?_ | refine bA ?_ _)); exact BK242.out) hb)
      have n10_ := Am (bB (g := gb249) (o := .cells #[.slice Ao29 t243.length co29, .slice Ao33 t246.length co33] 61 (0, 0)) (by (with_reducible repeat (first | refine bN ?_ _ | refine bD ?_ | refine bA ?_ _)); exact BK249.out) hb)
      have n11_ := Am (bB (g := gb257) (o := .cells #[.slice Ao36 t250.length co36, .slice Ao41 t253.length co41] 61 (0, 0)) (by (with_reducible repeat (first | refine bN ?_ _ | refine bD ?_ | refine bA ?_ _)); exact BK257.out) hb)
      have n12_ := Am (bP (by repeat (first | (with_reducible first | exact HB.out | apply oA | apply pN | apply o1 | refine bS ?_ GE227.out | refine bS ?_ GE242.out | refine bS ?_ GE249.out | refine bS ?_ GE257.out) | exact HB.out)) hb)
      clear HO_243000
      clear HO_243001
      clear HO_250000
      clear HO_250001
      clear HO_258000
      clear HO_258001
      clear HO261
      clear HO264
      clear BK227
      clear BK242
      clear BK249
      clear BK257
      clear HB
      have HO_243000 := n0_
      have HO_243001 := n1_
      have HO_250000 := n2_
      have HO_250001 := n3_
      have HO_258000 := n4_
      have HO_258001 := n5_
      have HO261 := n6_
      have HO264 := n7_
      have BK227 := n8_
      have BK242 := n9_
      have BK249 := n10_
      have BK257 := n11_
      have HB := n12_
      clear n0_ n1_ n2_ n3_ n4_ n5_ n6_ n7_ n8_ n9_ n10_ n11_ n12_
      (try clear hb)
      (try clear hb2)
      (try clear hk)
      (try clear hi)
      refine hK.out _ _ ⟨(bC BK249.out 0).trans rfl, (bC BK249.out 1).trans rfl, (bC BK227.out 0).trans rfl, (bC BK227.out 1).trans rfl⟩ (fun hHeld => ?_)
      clear hK K
      refine norm_ (a' := ?_) ?_ ?_
      rotate_left
      ·show Act.put _ (some 48) _ = _
       simp only [Act.put, lA, lZ, lS, i64_w, i32_w]
       rfl
      refine pure_ (i := 4) (N := some 49) (v := ?_) (a' := ?_) #[true, true, true, true, true] rfl rfl (by kernel_rfl) (fun _ _ _ h => h) (Or.inl ⟨by rfl, ?_⟩) ?_ ?_
      rotate_left
      ·intro w'
       go_simp
       with_reducible rfl
      rotate_left
      ·simp only [Act.put, lA, lZ, lS, i64_w, i32_w]
       rfl
      refine done_ (by kernel_rfl) ?_
      have hnb71 := NB249_227.out
      have hnc71 := NB227_249.out
      have hnb72 := NB249_242.out
      have hnc72 := NB242_249.out
      have hnb73 := NB249_257.out
      have hnc73 := NB257_249.out
      have hcz74_0 : w70.cell? ⟨gb249, 0, none⟩ = some (.slice Ao29 t243.length co29) := (bC BK249.out 0).trans rfl
      have hcz74_1 : w70.cell? ⟨gb249, 1, none⟩ = some (.slice Ao33 t246.length co33) := (bC BK249.out 1).trans rfl
      have hfz74_0 := bF BK249.out 0
      have hfz74_1 := bF BK249.out 1
      go_upto_region 14 with (first | ((with_reducible refine gate_callee (f := 47) rfl ?_); refine goesL_ (some 52) rfl rfl Try.func47 (by kernel_rfl) rfl #[.agg #[.slice Ao29 t243.length co29, .slice Ao33 t246.length co33], .int .i64 1] rfl (by (try simp only [lM, lC, lN]); first | done | rfl | (simp only [lD, lT]; rfl)) ?_; (with_reducible refine (laws_markPages.calls kj11 (fun k_ => some k_ = (.slice Ao29 t243.length co29 : Value).ownBlock) (.slice Ao29 t243.length co29) t243 (fun k_ => some k_ = (.slice Ao33 t246.length co33 : Value).ownBlock) (.slice Ao33 t246.length co33) t246 1 t266 t267 t268 w _ ?side1 ?side2 ?side3 A64.out).mono ?_); (case side1 => repeat (first | (with_reducible first | exact HB.out | apply oA | apply pN | apply o1 | refine bS ?_ GE227.out | refine bS ?_ GE242.out | refine bS ?_ GE249.out | refine bS ?_ GE257.out) | exact HB.out)); (case side2 => exact Kd.R_tight rfl HO_250000.out); (case side3 => exact Kd.R_tight rfl HO_250001.out); rintro e w75 ⟨rfl, hy0, hy1, hb, hkp⟩; refine ⟨_, rfl, ?_⟩; have n0_ := Am (rM (ok' := fun k_ => some k_ ≠ (.slice Ao29 t243.length co29 : Value).ownBlock ∧ some k_ ≠ (.slice Ao36 t250.length co36 : Value).ownBlock ∧ some k_ ≠ (.slice Ao68 t259.length co68 : Value).ownBlock) (Kd.R_keptB ((Kd.R_apart' HO_243000.out (Kd.R_typed HO_250001.out) (by decide))) hkp (fun k_ hk_ hs_ => Or.elim hs_ (fun e_ => (hk_.1.1.1) e_) (fun e_ => (hk_.2) e_))) (fun k_ hk_ => ⟨hk_.1.1.1.1, hk_.1.1.1.2, hk_.1.1.2⟩)); have n1_ := Am (rM (ok' := fun k_ => some k_ ≠ (.slice Ao33 t246.length co33 : Value).ownBlock ∧ some k_ ≠ (.slice Ao41 t253.length co41 : Value).ownBlock ∧ some k_ ≠ (.slice Ao69 t262.length co69 : Value).ownBlock) (Kd.R_keptB ((Kd.R_apart' HO_243001.out (Kd.R_typed HO_250000.out) (by decide))) hkp (fun k_ hk_ hs_ => Or.elim hs_ (fun e_ => (hk_.2) e_) (fun e_ => (hk_.1.1.1) e_))) (fun k_ hk_ => ⟨hk_.1.1.1.1, hk_.1.1.1.2, hk_.1.1.2⟩)); have n2_ := Am (Kd.R_reok rfl hy0 (fun k_ e_ => HO_250000.out.1 k_ e_)); have n3_ := Am (Kd.R_reok rfl hy1 (fun k_ e_ => HO_250001.out.1 k_ e_)); have n4_ := Am (rM (ok' := fun k_ => some k_ ≠ (.slice Ao22 t235.length co22 : Value).ownBlock ∧ some k_ ≠ (.slice Ao29 t243.length co29 : Value).ownBlock ∧ some k_ ≠ (.slice Ao68 t259.length co68 : Value).ownBlock) (Kd.R_keptB ((Kd.R_apart' HO_258000.out (Kd.R_typed HO_250001.out) (by decide))) hkp (fun k_ hk_ hs_ => Or.elim hs_ (fun e_ => (hk_.1.1.2) e_) (fun e_ => (hk_.2) e_))) (fun k_ hk_ => ⟨hk_.1.1.1.1, hk_.1.1.1.2, hk_.1.1.2⟩)); have n5_ := Am (rM (ok' := fun k_ => some k_ ≠ (.slice Ao25 t238.length co25 : Value).ownBlock ∧ some k_ ≠ (.slice Ao33 t246.length co33 : Value).ownBlock ∧ some k_ ≠ (.slice Ao69 t262.length co69 : Value).ownBlock) (Kd.R_keptB ((Kd.R_apart' HO_258001.out (Kd.R_typed HO_250000.out) (by decide))) hkp (fun k_ hk_ hs_ => Or.elim hs_ (fun e_ => (hk_.2) e_) (fun e_ => (hk_.1.1.2) e_))) (fun k_ hk_ => ⟨hk_.1.1.1.1, hk_.1.1.1.2, hk_.1.1.2⟩)); have n6_ := Am (blk_kept (by (with_reducible repeat (first | refine bN ?_ _ | refine bD ?_ | refine bA ?_ _)); exact BK227.out) hkp (fun hs_ => Or.elim hs_ (fun e_ => (fun e_ => (Kd.R_ne HO_250000.out BK227.out (by decide)) e_) e_) (fun e_ => (fun e_ => (Kd.R_ne HO_250001.out BK227.out (by decide)) e_) e_))); have n7_ := Am (blk_kept (by (with_reducible repeat (first | refine bN ?_ _ | refine bD ?_ | refine bA ?_ _)); exact BK242.out) hkp (fun hs_ => Or.elim hs_ (fun e_ => (fun e_ => (Kd.R_ne HO_250000.out BK242.out (by decide)) e_) e_) (fun e_ => (fun e_ => (Kd.R_ne HO_250001.out BK242.out (by decide)) e_) e_))); have n8_ := Am (blk_kept (by (with_reducible repeat (first | refine bN ?_ _ | refine bD ?_ | refine bA ?_ _)); exact BK249.out) hkp (fun hs_ => Or.elim hs_ (fun e_ => (fun e_ => (Kd.R_ne HO_250000.out BK249.out (by decide)) e_) e_) (fun e_ => (fun e_ => (Kd.R_ne HO_250001.out BK249.out (by decide)) e_) e_))); have n9_ := Am (blk_kept (by (with_reducible repeat (first | refine bN ?_ _ | refine bD ?_ | refine bA ?_ _)); exact BK257.out) hkp (fun hs_ => Or.elim hs_ (fun e_ => (fun e_ => (Kd.R_ne HO_250000.out BK257.out (by decide)) e_) e_) (fun e_ => (fun e_ => (Kd.R_ne HO_250001.out BK257.out (by decide)) e_) e_))); have n10_ := Am (rM (ok' := fun k_ => some k_ ≠ (.slice Ao22 t235.length co22 : Value).ownBlock ∧ some k_ ≠ (.slice Ao29 t243.length co29 : Value).ownBlock ∧ some k_ ≠ (.slice Ao36 t250.length co36 : Value).ownBlock) (Kd.R_keptB ((Kd.R_apart' HO261.out (Kd.R_typed HO_250001.out) (by decide))) hkp (fun k_ hk_ hs_ => Or.elim hs_ (fun e_ => (hk_.1.1.2) e_) (fun e_ => (hk_.2) e_))) (fun k_ hk_ => ⟨hk_.1.1.1.1.2, hk_.1.1.1.2, hk_.1.1.2⟩)); have n11_ := Am (rM (ok' := fun k_ => some k_ ≠ (.slice Ao25 t238.length co25 : Value).ownBlock ∧ some k_ ≠ (.slice Ao33 t246.length co33 : Value).ownBlock ∧ some k_ ≠ (.slice Ao41 t253.length co41 : Value).ownBlock) (Kd.R_keptB ((Kd.R_apart' HO264.out (Kd.R_typed HO_250000.out) (by decide))) hkp (fun k_ hk_ hs_ => Or.elim hs_ (fun e_ => (hk_.2) e_) (fun e_ => (hk_.1.1.2) e_))) (fun k_ hk_ => ⟨hk_.1.1.1.1.2, hk_.1.1.1.2, hk_.1.1.2⟩)); have n12_ := Am (hb); clear HO_243000; clear HO_243001; clear HO_250000; clear HO_250001; clear HO_258000; clear HO_258001; clear BK227; clear BK242; clear BK249; clear BK257; clear HO261; clear HO264; clear HB; have HO_243000 := n0_; have HO_243001 := n1_; have HO_250000 := n2_; have HO_250001 := n3_; have HO_258000 := n4_; have HO_258001 := n5_; have BK227 := n6_; have BK242 := n7_; have BK249 := n8_; have BK257 := n9_; have HO261 := n10_; have HO264 := n11_; have HB := n12_; clear n0_ n1_ n2_ n3_ n4_ n5_ n6_ n7_ n8_ n9_ n10_ n11_ n12_; (try clear hb); (try clear hkp); (try clear hy0); (try clear hy1)))
      (try simp only [Act.put, lA, lZ, lS])
      go_cut [65] (fun v65 wc => ∃ (kq : Nat) (x65_64 : Bool), v65 = .bool x65_64 ∧ Aside0 (laws_FnExactPagesKeep.j1 kq a1 t241 x65_64 l0_0 l0_1 t235 t238 t250 t253 = some r) ∧ Aside0 (kq ≤ kj11) ∧ Aside0 (Kd.R Kd.string 9 wc w.heap.size (fun k_ => some k_ ≠ ((.slice Ao29 t243.length co29) : Value).ownBlock ∧ some k_ ≠ ((.slice Ao36 t250.length co36) : Value).ownBlock) (.slice Ao22 t235.length co22) t235) ∧ Aside0 (Kd.R (Kd.int .i64) 3 wc w.heap.size (fun k_ => some k_ ≠ ((.slice Ao33 t246.length co33) : Value).ownBlock ∧ some k_ ≠ ((.slice Ao41 t253.length co41) : Value).ownBlock) (.slice Ao25 t238.length co25) t238) ∧ Aside0 (Kd.R Kd.string 9 wc w.heap.size (fun k_ => some k_ ≠ ((.slice Ao22 t235.length co22) : Value).ownBlock ∧ some k_ ≠ ((.slice Ao36 t250.length co36) : Value).ownBlock) (.slice Ao29 t243.length co29) t267) ∧ Aside0 (Kd.R (Kd.int .i64) 3 wc w.heap.size (fun k_ => some k_ ≠ ((.slice Ao25 t238.length co25) : Value).ownBlock ∧ some k_ ≠ ((.slice Ao41 t253.length co41) : Value).ownBlock) (.slice Ao33 t246.length co33) t268) ∧ Aside0 (Kd.R Kd.string 9 wc w.heap.size (fun k_ => some k_ ≠ ((.slice Ao22 t235.length co22) : Value).ownBlock ∧ some k_ ≠ ((.slice Ao29 t243.length co29) : Value).ownBlock) (.slice Ao36 t250.length co36) t250) ∧ Aside0 (Kd.R (Kd.int .i64) 3 wc w.heap.size (fun k_ => some k_ ≠ ((.slice Ao25 t238.length co25) : Value).ownBlock ∧ some k_ ≠ ((.slice Ao33 t246.length co33) : Value).ownBlock) (.slice Ao41 t253.length co41) t253) ∧ Aside0 (wc.heap[gb227]? = some (.cells #[(.slice A0_0 l0_0.length c0_0), (.slice A0_1 l0_1.length c0_1)] 59 (0, 0))) ∧ Aside0 (wc.heap[gb242]? = some (.cells #[(.slice Ao22 t235.length co22), (.slice Ao25 t238.length co25)] 61 (0, 0))) ∧ Aside0 (wc.heap[gb249]? = some (.cells #[(.slice Ao29 t243.length co29), (.slice Ao33 t246.length co33)] 61 (0, 0))) ∧ Aside0 (wc.heap[gb257]? = some (.cells #[(.slice Ao36 t250.length co36), (.slice Ao41 t253.length co41)] 61 (0, 0))) ∧ Aside0 (Below w.heap.size w wc))
      case first =>
       have H := HC65.out
       clear HC65
       by_cases c76 : t266 < 0
       ·rw [if_pos c76] at H
        have c76b0 : decide (t266 < 0) = true := decide_eq_true c76
        clear c76
        (first | rw [c76b0] | (simp only [i64_w, i32_w]; rw [c76b0]) | skip)
        have H' := Am H
        clear H
        go_wp2
        go_meet
        case rel => exact ⟨_, (true), (by first | rfl | (simp; done) | (simp [*]; done)), H', ⟨by have := HJ11.out; first | omega | exact Nat.le_refl _⟩, ⟨by (with_reducible repeat (first | apply rA | apply rN | apply rD)); exact rM HO_243000.out (fun _ hk => ⟨hk.1, hk.2.1⟩)⟩, ⟨by (with_reducible repeat (first | apply rA | apply rN | apply rD)); exact rM HO_243001.out (fun _ hk => ⟨hk.1, hk.2.1⟩)⟩, ⟨by (with_reducible repeat (first | apply rA | apply rN | apply rD)); exact rM HO_250000.out (fun _ hk => ⟨hk.1.1, hk.1.2⟩)⟩, ⟨by (with_reducible repeat (first | apply rA | apply rN | apply rD)); exact rM HO_250001.out (fun _ hk => ⟨hk.1.1, hk.1.2⟩)⟩, ⟨by (with_reducible repeat (first | apply rA | apply rN | apply rD)); exact rM HO_258000.out (fun _ hk => ⟨hk.1, hk.2.1⟩)⟩, ⟨by (with_reducible repeat (first | apply rA | apply rN | apply rD)); exact rM HO_258001.out (fun _ hk => ⟨hk.1, hk.2.1⟩)⟩, ⟨by (with_reducible repeat (first | refine bN ?_ _ | refine bD ?_ | refine bA ?_ _)); exact BK227.out⟩, ⟨by (with_reducible repeat (first | refine bN ?_ _ | refine bD ?_ | refine bA ?_ _)); exact BK242.out⟩, ⟨by (with_reducible repeat (first | refine bN ?_ _ | refine bD ?_ | refine bA ?_ _)); exact BK249.out⟩, ⟨by (with_reducible repeat (first | refine bN ?_ _ | refine bD ?_ | refine bA ?_ _)); exact BK257.out⟩, ⟨by repeat (first | (with_reducible first | exact HB.out | apply oA | apply pN | apply o1 | refine bS ?_ GE227.out | refine bS ?_ GE242.out | refine bS ?_ GE249.out | refine bS ?_ GE257.out) | exact HB.out)⟩⟩
       ·rw [if_neg c76] at H
        have c76b0 : decide (t266 < 0) = false := decide_eq_false c76
        clear c76
        (first | rw [c76b0] | (simp only [i64_w, i32_w]; rw [c76b0]) | skip)
        replace H := Option.bind_eq_some_iff.mp H
        obtain ⟨t269, A770, H⟩ := H
        replace H : (if t269 = true then (laws_FnExactPagesKeep.j1 kj11 a1 t241 (t256 != t241) l0_0 l0_1 t235 t238 t250 t253) else (laws_FnExactPagesKeep.j1 kj11 a1 t241 true l0_0 l0_1 t235 t238 t250 t253)) = some r := H
        have A77 := Am A770
        clear A770
        by_cases c78 : t269 = true
        ·subst c78
         have H1 : (laws_FnExactPagesKeep.j1 kj11 a1 t241 (t256 != t241) l0_0 l0_1 t235 t238 t250 t253) = some r := by rw [if_pos rfl] at H; exact H
         clear H
         have H := H1
         clear H1
         have H' := Am H
         clear H
         have hnb79 := NB257_227.out
         have hnc79 := NB227_257.out
         have hnb80 := NB257_242.out
         have hnc80 := NB242_257.out
         have hnb81 := NB257_249.out
         have hnc81 := NB249_257.out
         have hcz82_0 : w75.cell? ⟨gb257, 0, none⟩ = some (.slice Ao36 t250.length co36) := (bC BK257.out 0).trans rfl
         have hcz82_1 : w75.cell? ⟨gb257, 1, none⟩ = some (.slice Ao41 t253.length co41) := (bC BK257.out 1).trans rfl
         have hfz82_0 := bF BK257.out 0
         have hfz82_1 := bF BK257.out 1
         have hnb83 := NB242_227.out
         have hnc83 := NB227_242.out
         have hnb84 := NB242_249.out
         have hnc84 := NB249_242.out
         have hcz85_0 : w75.cell? ⟨gb242, 0, none⟩ = some (.slice Ao22 t235.length co22) := (bC BK242.out 0).trans rfl
         have hcz85_1 : w75.cell? ⟨gb242, 1, none⟩ = some (.slice Ao25 t238.length co25) := (bC BK242.out 1).trans rfl
         have hfz85_0 := bF BK242.out 0
         have hfz85_1 := bF BK242.out 1
         go_wp2_with (first | (go_at_call 46; (with_reducible refine (laws_eqPages.calls kj11 _ _ t250 _ _ t253 _ _ t235 _ _ t238 true _ ?side1 ?side2 ?side3 ?side4 ?side5 ?side6 ?side7 ?side8 A77.out).mono ?_); (case side1 => repeat (first | exact (Kd.R_reads' HO_258000.out).2.2 | (with_reducible refine cA ?_ _) | (with_reducible refine cN ?_ _) | (with_reducible refine cD ?_))); (case side2 => exact (Kd.R_reads' HO_258000.out).2.1); (case side3 => repeat (first | exact (Kd.R_reads' HO_258001.out).2.2 | (with_reducible refine cA ?_ _) | (with_reducible refine cN ?_ _) | (with_reducible refine cD ?_))); (case side4 => exact (Kd.R_reads' HO_258001.out).2.1); (case side5 => repeat (first | exact (Kd.R_reads' HO_243000.out).2.2 | (with_reducible refine cA ?_ _) | (with_reducible refine cN ?_ _) | (with_reducible refine cD ?_))); (case side6 => exact (Kd.R_reads' HO_243000.out).2.1); (case side7 => repeat (first | exact (Kd.R_reads' HO_243001.out).2.2 | (with_reducible refine cA ?_ _) | (with_reducible refine cN ?_ _) | (with_reducible refine cD ?_))); (case side8 => exact (Kd.R_reads' HO_243001.out).2.1); rintro e w86 ⟨rfl, hb⟩; have n0_ := Am (rB (by (with_reducible repeat (first | apply rA | apply rN | apply rD)); exact HO_243000.out) hb); have n1_ := Am (rB (by (with_reducible repeat (first | apply rA | apply rN | apply rD)); exact HO_243001.out) hb); have n2_ := Am (rB (by (with_reducible repeat (first | apply rA | apply rN | apply rD)); exact HO_250000.out) hb); have n3_ := Am (rB (by (with_reducible repeat (first | apply rA | apply rN | apply rD)); exact HO_250001.out) hb); have n4_ := Am (rB (by (with_reducible repeat (first | apply rA | apply rN | apply rD)); exact HO_258000.out) hb); have n5_ := Am (rB (by (with_reducible repeat (first | apply rA | apply rN | apply rD)); exact HO_258001.out) hb); have n6_ := Am (rB (by (with_reducible repeat (first | apply rA | apply rN | apply rD)); exact HO261.out) hb); have n7_ := Am (rB (by (with_reducible repeat (first | apply rA | apply rN | apply rD)); exact HO264.out) hb); have n8_ := Am (bB (g := gb227) (o := .cells #[.slice A0_0 l0_0.length c0_0, .slice A0_1 l0_1.length c0_1] 59 (0, 0)) (by (with_reducible repeat (first | refine bN ?_ _ | refine bD ?_ | refine bA ?_ _)); exact BK227.out) hb); have n9_ := Am (bB (g := gb242) (o := .cells #[.slice Ao22 t235.length co22, .slice Ao25 t238.length co25] 61 (0, 0)) (by (with_reducible repeat (first | refine bN ?_ _ | refine bD ?_ | refine bA ?_ _)); exact BK242.out) hb); have n10_ := Am (bB (g := gb249) (o := .cells #[.slice Ao29 t243.length co29, .slice Ao33 t246.length co33] 61 (0, 0)) (by (with_reducible repeat (first | refine bN ?_ _ | refine bD ?_ | refine bA ?_ _)); exact BK249.out) hb); have n11_ := Am (bB (g := gb257) (o := .cells #[.slice Ao36 t250.length co36, .slice Ao41 t253.length co41] 61 (0, 0)) (by (with_reducible repeat (first | refine bN ?_ _ | refine bD ?_ | refine bA ?_ _)); exact BK257.out) hb); have n12_ := Am (bP (by repeat (first | (with_reducible first | exact HB.out | apply oA | apply pN | apply o1 | refine bS ?_ GE227.out | refine bS ?_ GE242.out | refine bS ?_ GE249.out | refine bS ?_ GE257.out) | exact HB.out)) hb); clear HO_243000; clear HO_243001; clear HO_250000; clear HO_250001; clear HO_258000; clear HO_258001; clear HO261; clear HO264; clear BK227; clear BK242; clear BK249; clear BK257; clear HB; have HO_243000 := n0_; have HO_243001 := n1_; have HO_250000 := n2_; have HO_250001 := n3_; have HO_258000 := n4_; have HO_258001 := n5_; have HO261 := n6_; have HO264 := n7_; have BK227 := n8_; have BK242 := n9_; have BK249 := n10_; have BK257 := n11_; have HB := n12_; clear n0_ n1_ n2_ n3_ n4_ n5_ n6_ n7_ n8_ n9_ n10_ n11_ n12_; (try clear hb); (try clear hb2); (try clear hk); (try clear hi)))
         go_meet
         case rel => exact ⟨_, ((t256 != t241)), (by first | rfl | (simp; done) | (simp [*]; done)), H', ⟨by have := HJ11.out; first | omega | exact Nat.le_refl _⟩, ⟨by (with_reducible repeat (first | apply rA | apply rN | apply rD)); exact rM HO_243000.out (fun _ hk => ⟨hk.1, hk.2.1⟩)⟩, ⟨by (with_reducible repeat (first | apply rA | apply rN | apply rD)); exact rM HO_243001.out (fun _ hk => ⟨hk.1, hk.2.1⟩)⟩, ⟨by (with_reducible repeat (first | apply rA | apply rN | apply rD)); exact rM HO_250000.out (fun _ hk => ⟨hk.1.1, hk.1.2⟩)⟩, ⟨by (with_reducible repeat (first | apply rA | apply rN | apply rD)); exact rM HO_250001.out (fun _ hk => ⟨hk.1.1, hk.1.2⟩)⟩, ⟨by (with_reducible repeat (first | apply rA | apply rN | apply rD)); exact rM HO_258000.out (fun _ hk => ⟨hk.1, hk.2.1⟩)⟩, ⟨by (with_reducible repeat (first | apply rA | apply rN | apply rD)); exact rM HO_258001.out (fun _ hk => ⟨hk.1, hk.2.1⟩)⟩, ⟨by (with_reducible repeat (first | refine bN ?_ _ | refine bD ?_ | refine bA ?_ _)); exact BK227.out⟩, ⟨by (with_reducible repeat (first | refine bN ?_ _ | refine bD ?_ | refine bA ?_ _)); exact BK242.out⟩, ⟨by (with_reducible repeat (first | refine bN ?_ _ | refine bD ?_ | refine bA ?_ _)); exact BK249.out⟩, ⟨by (with_reducible repeat (first | refine bN ?_ _ | refine bD ?_ | refine bA ?_ _)); exact BK257.out⟩, ⟨by repeat (first | (with_reducible first | exact HB.out | apply oA | apply pN | apply o1 | refine bS ?_ GE227.out | refine bS ?_ GE242.out | refine bS ?_ GE249.out | refine bS ?_ GE257.out) | exact HB.out)⟩⟩
        ·replace c78 := Bool.eq_false_iff.mpr c78
         subst c78
         have H1 : (laws_FnExactPagesKeep.j1 kj11 a1 t241 true l0_0 l0_1 t235 t238 t250 t253) = some r := by rw [if_neg (show ¬ (false = true) by decide)] at H; exact H
         clear H
         have H := H1
         clear H1
         have H' := Am H
         clear H
         have hnb87 := NB257_227.out
         have hnc87 := NB227_257.out
         have hnb88 := NB257_242.out
         have hnc88 := NB242_257.out
         have hnb89 := NB257_249.out
         have hnc89 := NB249_257.out
         have hcz90_0 : w75.cell? ⟨gb257, 0, none⟩ = some (.slice Ao36 t250.length co36) := (bC BK257.out 0).trans rfl
         have hcz90_1 : w75.cell? ⟨gb257, 1, none⟩ = some (.slice Ao41 t253.length co41) := (bC BK257.out 1).trans rfl
         have hfz90_0 := bF BK257.out 0
         have hfz90_1 := bF BK257.out 1
         have hnb91 := NB242_227.out
         have hnc91 := NB227_242.out
         have hnb92 := NB242_249.out
         have hnc92 := NB249_242.out
         have hcz93_0 : w75.cell? ⟨gb242, 0, none⟩ = some (.slice Ao22 t235.length co22) := (bC BK242.out 0).trans rfl
         have hcz93_1 : w75.cell? ⟨gb242, 1, none⟩ = some (.slice Ao25 t238.length co25) := (bC BK242.out 1).trans rfl
         have hfz93_0 := bF BK242.out 0
         have hfz93_1 := bF BK242.out 1
         go_wp2_with (first | (go_at_call 46; (with_reducible refine (laws_eqPages.calls kj11 _ _ t250 _ _ t253 _ _ t235 _ _ t238 false _ ?side1 ?side2 ?side3 ?side4 ?side5 ?side6 ?side7 ?side8 A77.out).mono ?_); (case side1 => repeat (first | exact (Kd.R_reads' HO_258000.out).2.2 | (with_reducible refine cA ?_ _) | (with_reducible refine cN ?_ _) | (with_reducible refine cD ?_))); (case side2 => exact (Kd.R_reads' HO_258000.out).2.1); (case side3 => repeat (first | exact (Kd.R_reads' HO_258001.out).2.2 | (with_reducible refine cA ?_ _) | (with_reducible refine cN ?_ _) | (with_reducible refine cD ?_))); (case side4 => exact (Kd.R_reads' HO_258001.out).2.1); (case side5 => repeat (first | exact (Kd.R_reads' HO_243000.out).2.2 | (with_reducible refine cA ?_ _) | (with_reducible refine cN ?_ _) | (with_reducible refine cD ?_))); (case side6 => exact (Kd.R_reads' HO_243000.out).2.1); (case side7 => repeat (first | exact (Kd.R_reads' HO_243001.out).2.2 | (with_reducible refine cA ?_ _) | (with_reducible refine cN ?_ _) | (with_reducible refine cD ?_))); (case side8 => exact (Kd.R_reads' HO_243001.out).2.1); rintro e w94 ⟨rfl, hb⟩; have n0_ := Am (rB (by (with_reducible repeat (first | apply rA | apply rN | apply rD)); exact HO_243000.out) hb); have n1_ := Am (rB (by (with_reducible repeat (first | apply rA | apply rN | apply rD)); exact HO_243001.out) hb); have n2_ := Am (rB (by (with_reducible repeat (first | apply rA | apply rN | apply rD)); exact HO_250000.out) hb); have n3_ := Am (rB (by (with_reducible repeat (first | apply rA | apply rN | apply rD)); exact HO_250001.out) hb); have n4_ := Am (rB (by (with_reducible repeat (first | apply rA | apply rN | apply rD)); exact HO_258000.out) hb); have n5_ := Am (rB (by (with_reducible repeat (first | apply rA | apply rN | apply rD)); exact HO_258001.out) hb); have n6_ := Am (rB (by (with_reducible repeat (first | apply rA | apply rN | apply rD)); exact HO261.out) hb); have n7_ := Am (rB (by (with_reducible repeat (first | apply rA | apply rN | apply rD)); exact HO264.out) hb); have n8_ := Am (bB (g := gb227) (o := .cells #[.slice A0_0 l0_0.length c0_0, .slice A0_1 l0_1.length c0_1] 59 (0, 0)) (by (with_reducible repeat (first | refine bN ?_ _ | refine bD ?_ | refine bA ?_ _)); exact BK227.out) hb); have n9_ := Am (bB (g := gb242) (o := .cells #[.slice Ao22 t235.length co22, .slice Ao25 t238.length co25] 61 (0, 0)) (by (with_reducible repeat (first | refine bN ?_ _ | refine bD ?_ | refine bA ?_ _)); exact BK242.out) hb); have n10_ := Am (bB (g := gb249) (o := .cells #[.slice Ao29 t243.length co29, .slice Ao33 t246.length co33] 61 (0, 0)) (by (with_reducible repeat (first | refine bN ?_ _ | refine bD ?_ | refine bA ?_ _)); exact BK249.out) hb); have n11_ := Am (bB (g := gb257) (o := .cells #[.slice Ao36 t250.length co36, .slice Ao41 t253.length co41] 61 (0, 0)) (by (with_reducible repeat (first | refine bN ?_ _ | refine bD ?_ | refine bA ?_ _)); exact BK257.out) hb); have n12_ := Am (bP (by repeat (first | (with_reducible first | exact HB.out | apply oA | apply pN | apply o1 | refine bS ?_ GE227.out | refine bS ?_ GE242.out | refine bS ?_ GE249.out | refine bS ?_ GE257.out) | exact HB.out)) hb); clear HO_243000; clear HO_243001; clear HO_250000; clear HO_250001; clear HO_258000; clear HO_258001; clear HO261; clear HO264; clear BK227; clear BK242; clear BK249; clear BK257; clear HB; have HO_243000 := n0_; have HO_243001 := n1_; have HO_250000 := n2_; have HO_250001 := n3_; have HO_258000 := n4_; have HO_258001 := n5_; have HO261 := n6_; have HO264 := n7_; have BK227 := n8_; have BK242 := n9_; have BK249 := n10_; have BK257 := n11_; have HB := n12_; clear n0_ n1_ n2_ n3_ n4_ n5_ n6_ n7_ n8_ n9_ n10_ n11_ n12_; (try clear hb); (try clear hb2); (try clear hk); (try clear hi)))
         go_meet
         case rel => exact ⟨_, (true), (by first | rfl | (simp; done) | (simp [*]; done)), H', ⟨by have := HJ11.out; first | omega | exact Nat.le_refl _⟩, ⟨by (with_reducible repeat (first | apply rA | apply rN | apply rD)); exact rM HO_243000.out (fun _ hk => ⟨hk.1, hk.2.1⟩)⟩, ⟨by (with_reducible repeat (first | apply rA | apply rN | apply rD)); exact rM HO_243001.out (fun _ hk => ⟨hk.1, hk.2.1⟩)⟩, ⟨by (with_reducible repeat (first | apply rA | apply rN | apply rD)); exact rM HO_250000.out (fun _ hk => ⟨hk.1.1, hk.1.2⟩)⟩, ⟨by (with_reducible repeat (first | apply rA | apply rN | apply rD)); exact rM HO_250001.out (fun _ hk => ⟨hk.1.1, hk.1.2⟩)⟩, ⟨by (with_reducible repeat (first | apply rA | apply rN | apply rD)); exact rM HO_258000.out (fun _ hk => ⟨hk.1, hk.2.1⟩)⟩, ⟨by (with_reducible repeat (first | apply rA | apply rN | apply rD)); exact rM HO_258001.out (fun _ hk => ⟨hk.1, hk.2.1⟩)⟩, ⟨by (with_reducible repeat (first | refine bN ?_ _ | refine bD ?_ | refine bA ?_ _)); exact BK227.out⟩, ⟨by (with_reducible repeat (first | refine bN ?_ _ | refine bD ?_ | refine bA ?_ _)); exact BK242.out⟩, ⟨by (with_reducible repeat (first | refine bN ?_ _ | refine bD ?_ | refine bA ?_ _)); exact BK249.out⟩, ⟨by (with_reducible repeat (first | refine bN ?_ _ | refine bD ?_ | refine bA ?_ _)); exact BK257.out⟩, ⟨by repeat (first | (with_reducible first | exact HB.out | apply oA | apply pN | apply o1 | refine bS ?_ GE227.out | refine bS ?_ GE242.out | refine bS ?_ GE249.out | refine bS ?_ GE257.out) | exact HB.out)⟩⟩
      case rest =>
       clear HC65
       try clear c1
       try clear c2
       try clear p2
       try clear c3
       try clear c4
       try clear c4b0
       try clear c5
       try clear c6
       try clear c7
       try clear c8
       try clear c9
       try clear c11
       try clear c23
       try clear c30
       try clear c31
       try clear c37
       try clear c38
       try clear c39
       try clear c42
       try clear c43
       try clear c44
       try clear c45
       try clear c46
       try clear c47
       try clear c48
       try clear c49
       try clear c52
       try clear c53
       try clear c54
       try clear c56
       try clear c57
       try clear c60
       try clear c63
       try clear c71
       try clear c72
       try clear c73
       try clear c76
       try clear c76b0
       try clear c78
       try clear c79
       try clear c80
       try clear c81
       try clear c83
       try clear c84
       try clear c87
       try clear c88
       try clear c89
       try clear c91
       try clear c92
       try clear hcz14_0
       try clear hcz14_1
       try clear hcz16_0
       try clear hcz16_1
       try clear hcz24_0
       try clear hcz24_1
       try clear hcz26_0
       try clear hcz26_1
       try clear hcz32_0
       try clear hcz32_1
       try clear hcz40_0
       try clear hcz40_1
       try clear hcz47_0
       try clear hcz47_1
       try clear hcz50_0
       try clear hcz50_1
       try clear hcz55_0
       try clear hcz55_1
       try clear hcz58_0
       try clear hcz58_1
       try clear hcz6_0
       try clear hcz6_1
       try clear hcz74_0
       try clear hcz74_1
       try clear hcz82_0
       try clear hcz82_1
       try clear hcz85_0
       try clear hcz85_1
       try clear hcz90_0
       try clear hcz90_1
       try clear hcz93_0
       try clear hcz93_1
       try clear hfz14_0
       try clear hfz14_1
       try clear hfz16_0
       try clear hfz16_1
       try clear hfz24_0
       try clear hfz24_1
       try clear hfz26_0
       try clear hfz26_1
       try clear hfz32_0
       try clear hfz32_1
       try clear hfz40_0
       try clear hfz40_1
       try clear hfz47_0
       try clear hfz47_1
       try clear hfz50_0
       try clear hfz50_1
       try clear hfz55_0
       try clear hfz55_1
       try clear hfz58_0
       try clear hfz58_1
       try clear hfz6_0
       try clear hfz6_1
       try clear hfz74_0
       try clear hfz74_1
       try clear hfz82_0
       try clear hfz82_1
       try clear hfz85_0
       try clear hfz85_1
       try clear hfz90_0
       try clear hfz90_1
       try clear hfz93_0
       try clear hfz93_1
       try clear p2
       obtain ⟨kq, x65_64, rfl, HA, HJ64, HO_243000, HO_243001, HO_250000, HO_250001, HO_258000, HO_258001, BK227, BK242, BK249, BK257, HB⟩ := hcut
       have hl250000_64 := (Kd.R_reads' HO_250000.out).1
       rw [hl250000_64] at HO_250000
       (try simp only [hl250000_64])
       (try simp only [hl250000_64] at BK227)
       (try simp only [hl250000_64] at BK242)
       (try simp only [hl250000_64] at BK249)
       (try simp only [hl250000_64] at BK257)
       (try simp only [hl250000_64] at HO_243000)
       (try simp only [hl250000_64] at HO_243001)
       (try simp only [hl250000_64] at HO_250001)
       (try simp only [hl250000_64] at HO_258000)
       (try simp only [hl250000_64] at HO_258001)
       have hl250001_64 := (Kd.R_reads' HO_250001.out).1
       rw [hl250001_64] at HO_250001
       (try simp only [hl250001_64])
       (try simp only [hl250001_64] at BK227)
       (try simp only [hl250001_64] at BK242)
       (try simp only [hl250001_64] at BK249)
       (try simp only [hl250001_64] at BK257)
       (try simp only [hl250001_64] at HO_243000)
       (try simp only [hl250001_64] at HO_243001)
       (try simp only [hl250001_64] at HO_250000)
       (try simp only [hl250001_64] at HO_258000)
       (try simp only [hl250001_64] at HO_258001)
       cases kq with
       | zero => exact absurd HA.out (by simp [laws_FnExactPagesKeep.j1])
       | succ kj64 =>
        have H := HA.out
        clear HA
        simp only [laws_FnExactPagesKeep.j1] at H
        by_cases c95 : x65_64 = true
        ·subst c95
         have H1 : (some false) = some r := by rw [if_pos rfl] at H; exact H
         clear H
         have H := H1
         clear H1
         exact absurd ((Option.some.inj H).trans hT_.out) (by decide)
        ·replace c95 := Bool.eq_false_iff.mpr c95
         subst c95
         have H1 : ((laws_markPages.f kj64 t250 t253 1).bind fun bt270 => ((laws_heldPages.f kj64 bt270.2.1 bt270.2.2 1).bind fun t273 => (if t273 < 0 then (some false) else (if t273 = bt270.1 then ((laws_toPages.f kj64 l0_0 l0_1).bind fun bt274 => ((impl_PagesKeep.f kj64 bt274.1 bt274.2 a1).bind fun bt280 => ((laws_eqPages.f kj64 bt280.1 bt280.2.1 t235 t238).bind fun t288 => (if t288 = true then (laws_FnExactPagesKeep.j2 kj64 bt270.1 (bt280.2.2 != t241) bt270.2.1 bt270.2.2) else (laws_FnExactPagesKeep.j2 kj64 bt270.1 true bt270.2.1 bt270.2.2))))) else (some false))))) = some r := by rw [if_neg (show ¬ (false = true) by decide)] at H; exact H
         clear H
         have H := H1
         clear H1
         replace H := Option.bind_eq_some_iff.mp H
         obtain ⟨⟨t270, t271, t272⟩, A960, H⟩ := H
         replace H : ((laws_heldPages.f kj64 t271 t272 1).bind fun t273 => (if t273 < 0 then (some false) else (if t273 = t270 then ((laws_toPages.f kj64 l0_0 l0_1).bind fun bt274 => ((impl_PagesKeep.f kj64 bt274.1 bt274.2 a1).bind fun bt280 => ((laws_eqPages.f kj64 bt280.1 bt280.2.1 t235 t238).bind fun t288 => (if t288 = true then (laws_FnExactPagesKeep.j2 kj64 t270 (bt280.2.2 != t241) t271 t272) else (laws_FnExactPagesKeep.j2 kj64 t270 true t271 t272))))) else (some false)))) = some r := H
         have A96 := Am A960
         clear A960
         replace H := Option.bind_eq_some_iff.mp H
         obtain ⟨t273, A970, H⟩ := H
         replace H : (if t273 < 0 then (some false) else (if t273 = t270 then ((laws_toPages.f kj64 l0_0 l0_1).bind fun bt274 => ((impl_PagesKeep.f kj64 bt274.1 bt274.2 a1).bind fun bt280 => ((laws_eqPages.f kj64 bt280.1 bt280.2.1 t235 t238).bind fun t288 => (if t288 = true then (laws_FnExactPagesKeep.j2 kj64 t270 (bt280.2.2 != t241) t271 t272) else (laws_FnExactPagesKeep.j2 kj64 t270 true t271 t272))))) else (some false))) = some r := H
         have A97 := Am A970
         clear A970
         by_cases c98 : t273 < 0
         ·rw [if_pos c98] at H
          have c98b0 : decide (t273 < 0) = true := decide_eq_true c98
          clear c98
          exact absurd ((Option.some.inj H).trans hT_.out) (by decide)
         ·rw [if_neg c98] at H
          have c98b0 : decide (t273 < 0) = false := decide_eq_false c98
          clear c98
          by_cases c99 : t273 = t270
          ·rw [if_pos c99] at H
           have c99b0 : (t273 == t270) = true := beq_iff_eq.mpr c99
           have c99b1 : (t273 != t270) = false := bne_eq_false_iff_eq.mpr c99
           clear c99
           replace H := Option.bind_eq_some_iff.mp H
           obtain ⟨⟨t274, t277⟩, A1000, H⟩ := H
           replace H : ((impl_PagesKeep.f kj64 t274 t277 a1).bind fun bt280 => ((laws_eqPages.f kj64 bt280.1 bt280.2.1 t235 t238).bind fun t288 => (if t288 = true then (laws_FnExactPagesKeep.j2 kj64 t270 (bt280.2.2 != t241) t271 t272) else (laws_FnExactPagesKeep.j2 kj64 t270 true t271 t272)))) = some r := H
           have A100 := Am A1000
           clear A1000
           replace H := Option.bind_eq_some_iff.mp H
           obtain ⟨⟨t280, t283, t286⟩, A1010, H⟩ := H
           replace H : ((laws_eqPages.f kj64 t280 t283 t235 t238).bind fun t288 => (if t288 = true then (laws_FnExactPagesKeep.j2 kj64 t270 (t286 != t241) t271 t272) else (laws_FnExactPagesKeep.j2 kj64 t270 true t271 t272))) = some r := H
           have A101 := Am A1010
           clear A1010
           have HC102 := Am H
           clear H
           have hnb103 := NB257_227.out
           have hnc103 := NB227_257.out
           have hnb104 := NB257_242.out
           have hnc104 := NB242_257.out
           have hnb105 := NB257_249.out
           have hnc105 := NB249_257.out
           have hcz106_0 : wc.cell? ⟨gb257, 0, none⟩ = some (.slice Ao36 t250.length co36) := (bC BK257.out 0).trans rfl
           have hcz106_1 : wc.cell? ⟨gb257, 1, none⟩ = some (.slice Ao41 t253.length co41) := (bC BK257.out 1).trans rfl
           have hfz106_0 := bF BK257.out 0
           have hfz106_1 := bF BK257.out 1
           go_upto_region 25 with (first | ((with_reducible refine gate_callee (f := 47) rfl ?_); refine goesL_ (some 68) rfl rfl Try.func47 (by kernel_rfl) rfl #[.agg #[.slice Ao36 t250.length co36, .slice Ao41 t253.length co41], .int .i64 1] rfl (by (try simp only [lM, lC, lN]); first | done | rfl | (simp only [lD, lT]; rfl)) ?_; (with_reducible refine (laws_markPages.calls kj64 (fun k_ => some k_ = (.slice Ao36 t250.length co36 : Value).ownBlock) (.slice Ao36 t250.length co36) t250 (fun k_ => some k_ = (.slice Ao41 t253.length co41 : Value).ownBlock) (.slice Ao41 t253.length co41) t253 1 t270 t271 t272 w _ ?side1 ?side2 ?side3 A96.out).mono ?_); (case side1 => repeat (first | (with_reducible first | exact HB.out | apply oA | apply pN | apply o1 | refine bS ?_ GE227.out | refine bS ?_ GE242.out | refine bS ?_ GE249.out | refine bS ?_ GE257.out) | exact HB.out)); (case side2 => exact Kd.R_tight rfl HO_258000.out); (case side3 => exact Kd.R_tight rfl HO_258001.out); rintro e w107 ⟨rfl, hy0, hy1, hb, hkp⟩; refine ⟨_, rfl, ?_⟩; have n0_ := Am (rM (ok' := fun k_ => some k_ ≠ (.slice Ao29 t267.length co29 : Value).ownBlock ∧ some k_ ≠ (.slice Ao36 t250.length co36 : Value).ownBlock) (Kd.R_keptB ((Kd.R_apart' HO_243000.out (Kd.R_typed HO_258001.out) (by decide))) hkp (fun k_ hk_ hs_ => Or.elim hs_ (fun e_ => (hk_.1.2) e_) (fun e_ => (hk_.2) e_))) (fun k_ hk_ => ⟨hk_.1.1.1, hk_.1.1.2⟩)); have n1_ := Am (rM (ok' := fun k_ => some k_ ≠ (.slice Ao33 t268.length co33 : Value).ownBlock ∧ some k_ ≠ (.slice Ao41 t253.length co41 : Value).ownBlock) (Kd.R_keptB ((Kd.R_apart' HO_243001.out (Kd.R_typed HO_258000.out) (by decide))) hkp (fun k_ hk_ hs_ => Or.elim hs_ (fun e_ => (hk_.2) e_) (fun e_ => (hk_.1.2) e_))) (fun k_ hk_ => ⟨hk_.1.1.1, hk_.1.1.2⟩)); have n2_ := Am (rM (ok' := fun k_ => some k_ ≠ (.slice Ao22 t235.length co22 : Value).ownBlock ∧ some k_ ≠ (.slice Ao36 t250.length co36 : Value).ownBlock) (Kd.R_keptB ((Kd.R_apart' HO_250000.out (Kd.R_typed HO_258001.out) (by decide))) hkp (fun k_ hk_ hs_ => Or.elim hs_ (fun e_ => (hk_.1.2) e_) (fun e_ => (hk_.2) e_))) (fun k_ hk_ => ⟨hk_.1.1.1, hk_.1.1.2⟩)); have n3_ := Am (rM (ok' := fun k_ => some k_ ≠ (.slice Ao25 t238.length co25 : Value).ownBlock ∧ some k_ ≠ (.slice Ao41 t253.length co41 : Value).ownBlock) (Kd.R_keptB ((Kd.R_apart' HO_250001.out (Kd.R_typed HO_258000.out) (by decide))) hkp (fun k_ hk_ hs_ => Or.elim hs_ (fun e_ => (hk_.2) e_) (fun e_ => (hk_.1.2) e_))) (fun k_ hk_ => ⟨hk_.1.1.1, hk_.1.1.2⟩)); have n4_ := Am (Kd.R_reok rfl hy0 (fun k_ e_ => HO_258000.out.1 k_ e_)); have n5_ := Am (Kd.R_reok rfl hy1 (fun k_ e_ => HO_258001.out.1 k_ e_)); have n6_ := Am (blk_kept (by (with_reducible repeat (first | refine bN ?_ _ | refine bD ?_ | refine bA ?_ _)); exact BK227.out) hkp (fun hs_ => Or.elim hs_ (fun e_ => (fun e_ => (Kd.R_ne HO_258000.out BK227.out (by decide)) e_) e_) (fun e_ => (fun e_ => (Kd.R_ne HO_258001.out BK227.out (by decide)) e_) e_))); have n7_ := Am (blk_kept (by (with_reducible repeat (first | refine bN ?_ _ | refine bD ?_ | refine bA ?_ _)); exact BK242.out) hkp (fun hs_ => Or.elim hs_ (fun e_ => (fun e_ => (Kd.R_ne HO_258000.out BK242.out (by decide)) e_) e_) (fun e_ => (fun e_ => (Kd.R_ne HO_258001.out BK242.out (by decide)) e_) e_))); have n8_ := Am (blk_kept (by (with_reducible repeat (first | refine bN ?_ _ | refine bD ?_ | refine bA ?_ _)); exact BK249.out) hkp (fun hs_ => Or.elim hs_ (fun e_ => (fun e_ => (Kd.R_ne HO_258000.out BK249.out (by decide)) e_) e_) (fun e_ => (fun e_ => (Kd.R_ne HO_258001.out BK249.out (by decide)) e_) e_))); have n9_ := Am (blk_kept (by (with_reducible repeat (first | refine bN ?_ _ | refine bD ?_ | refine bA ?_ _)); exact BK257.out) hkp (fun hs_ => Or.elim hs_ (fun e_ => (fun e_ => (Kd.R_ne HO_258000.out BK257.out (by decide)) e_) e_) (fun e_ => (fun e_ => (Kd.R_ne HO_258001.out BK257.out (by decide)) e_) e_))); have n10_ := Am (hb); clear HO_243000; clear HO_243001; clear HO_250000; clear HO_250001; clear HO_258000; clear HO_258001; clear BK227; clear BK242; clear BK249; clear BK257; clear HB; have HO_243000 := n0_; have HO_243001 := n1_; have HO_250000 := n2_; have HO_250001 := n3_; have HO_258000 := n4_; have HO_258001 := n5_; have BK227 := n6_; have BK242 := n7_; have BK249 := n8_; have BK257 := n9_; have HB := n10_; clear n0_ n1_ n2_ n3_ n4_ n5_ n6_ n7_ n8_ n9_ n10_; (try clear hb); (try clear hkp); (try clear hy0); (try clear hy1); have hcz108_0 : w107.cell? ⟨gb257, 0, none⟩ = some (.slice Ao36 t250.length co36) := (bC BK257.out 0).trans rfl; have hcz108_1 : w107.cell? ⟨gb257, 1, none⟩ = some (.slice Ao41 t253.length co41) := (bC BK257.out 1).trans rfl; have hfz108_0 := bF BK257.out 0; have hfz108_1 := bF BK257.out 1) | ((with_reducible refine gate_callee (f := 48) rfl ?_); refine goesL_ (some 71) rfl rfl Try.func48 (by kernel_rfl) rfl #[.agg #[.slice Ao36 t271.length co36, .slice Ao41 t272.length co41], .int .i64 1] rfl (by (try simp only [lM, lC, lN]); first | done | (rw [show t271.length = t250.length from (Kd.R_reads' HO_258000.out).1.symm, show t272.length = t253.length from (Kd.R_reads' HO_258001.out).1.symm] <;> rfl) | rfl | (simp only [lD, lT]; rfl)) ?_; (with_reducible refine (laws_heldPages.calls kj64 _ _ t271 _ _ t272 1 t273 _ ?side1 ?side2 ?side3 ?side4 A97.out).mono ?_); (case side1 => repeat (first | exact (Kd.R_reads' HO_258000.out).2.2 | (with_reducible refine cA ?_ _) | (with_reducible refine cN ?_ _) | (with_reducible refine cD ?_))); (case side2 => rw [show t271.length = t250.length from (Kd.R_reads' HO_258000.out).1.symm]; exact (Kd.R_reads' HO_258000.out).2.1); (case side3 => repeat (first | exact (Kd.R_reads' HO_258001.out).2.2 | (with_reducible refine cA ?_ _) | (with_reducible refine cN ?_ _) | (with_reducible refine cD ?_))); (case side4 => rw [show t272.length = t253.length from (Kd.R_reads' HO_258001.out).1.symm]; exact (Kd.R_reads' HO_258001.out).2.1); rintro e w109 ⟨rfl, hb⟩; refine ⟨_, rfl, ?_⟩; have n0_ := Am (rB (by (with_reducible repeat (first | apply rA | apply rN | apply rD)); exact HO_243000.out) hb); have n1_ := Am (rB (by (with_reducible repeat (first | apply rA | apply rN | apply rD)); exact HO_243001.out) hb); have n2_ := Am (rB (by (with_reducible repeat (first | apply rA | apply rN | apply rD)); exact HO_250000.out) hb); have n3_ := Am (rB (by (with_reducible repeat (first | apply rA | apply rN | apply rD)); exact HO_250001.out) hb); have n4_ := Am (rB (by (with_reducible repeat (first | apply rA | apply rN | apply rD)); exact HO_258000.out) hb); have n5_ := Am (rB (by (with_reducible repeat (first | apply rA | apply rN | apply rD)); exact HO_258001.out) hb); have n6_ := Am (bB (g := gb227) (o := .cells #[.slice A0_0 l0_0.length c0_0, .slice A0_1 l0_1.length c0_1] 59 (0, 0)) (by (with_reducible repeat (first | refine bN ?_ _ | refine bD ?_ | refine bA ?_ _)); exact BK227.out) hb); have n7_ := Am (bB (g := gb242) (o := .cells #[.slice Ao22 t235.length co22, .slice Ao25 t238.length co25] 61 (0, 0)) (by (with_reducible repeat (first | refine bN ?_ _ | refine bD ?_ | refine bA ?_ _)); exact BK242.out) hb); have n8_ := Am (bB (g := gb249) (o := .cells #[.slice Ao29 t267.length co29, .slice Ao33 t268.length co33] 61 (0, 0)) (by (with_reducible repeat (first | refine bN ?_ _ | refine bD ?_ | refine bA ?_ _)); exact BK249.out) hb); have n9_ := Am (bB (g := gb257) (o := .cells #[.slice Ao36 t250.length co36, .slice Ao41 t253.length co41] 61 (0, 0)) (by (with_reducible repeat (first | refine bN ?_ _ | refine bD ?_ | refine bA ?_ _)); exact BK257.out) hb); have n10_ := Am (bP (by repeat (first | (with_reducible first | exact HB.out | apply oA | apply pN | apply o1 | refine bS ?_ GE227.out | refine bS ?_ GE242.out | refine bS ?_ GE249.out | refine bS ?_ GE257.out) | exact HB.out)) hb); clear HO_243000; clear HO_243001; clear HO_250000; clear HO_250001; clear HO_258000; clear HO_258001; clear BK227; clear BK242; clear BK249; clear BK257; clear HB; have HO_243000 := n0_; have HO_243001 := n1_; have HO_250000 := n2_; have HO_250001 := n3_; have HO_258000 := n4_; have HO_258001 := n5_; have BK227 := n6_; have BK242 := n7_; have BK249 := n8_; have BK257 := n9_; have HB := n10_; clear n0_ n1_ n2_ n3_ n4_ n5_ n6_ n7_ n8_ n9_ n10_; (try clear hb); (try clear hb2); (try clear hk); (try clear hi); have hnb110 := NB227_242.out; have hnc110 := NB242_227.out; have hnb111 := NB227_249.out; have hnc111 := NB249_227.out; have hcz112_0 : w109.cell? ⟨gb227, 0, none⟩ = some (.slice A0_0 l0_0.length c0_0) := (bC BK227.out 0).trans rfl; have hcz112_1 : w109.cell? ⟨gb227, 1, none⟩ = some (.slice A0_1 l0_1.length c0_1) := (bC BK227.out 1).trans rfl; have hfz112_0 := bF BK227.out 0; have hfz112_1 := bF BK227.out 1) | ((with_reducible refine gate_callee (f := 44) rfl ?_); refine goesL_ (some 79) rfl rfl Try.func44 (by kernel_rfl) rfl #[.agg #[.slice A0_0 l0_0.length c0_0, .slice A0_1 l0_1.length c0_1]] rfl (by (try simp only [lM, lC, lN]); first | done | rfl | (simp only [lD, lT]; rfl)) ?_; (with_reducible refine (laws_toPages.calls kj64 _ _ l0_0 _ _ l0_1 t274 t277 _ ?side1 ?side2 ?side3 ?side4 A100.out).mono ?_); (case side1 => repeat (first | exact (cB HR0_0.out HB.out) | (with_reducible refine cA ?_ _) | (with_reducible refine cN ?_ _) | (with_reducible refine cD ?_))); (case side2 => exact HC0_0.out); (case side3 => repeat (first | exact (cB HR0_1.out HB.out) | (with_reducible refine cA ?_ _) | (with_reducible refine cN ?_ _) | (with_reducible refine cD ?_))); (case side4 => exact HC0_1.out); rintro e w113 ⟨v275, v278, rfl, ho0, ho1, hb⟩; refine ⟨_, rfl, ?_⟩; have n0_ := Am (Kd.R_elder' (by (with_reducible repeat (first | apply rA | apply rN | apply rD)); exact HO_243000.out) (Kd.R_base ho0) hb); have n1_ := Am (Kd.R_elder' (by (with_reducible repeat (first | apply rA | apply rN | apply rD)); exact HO_243001.out) (Kd.R_base ho1) hb); have n2_ := Am (Kd.R_elder' (by (with_reducible repeat (first | apply rA | apply rN | apply rD)); exact HO_250000.out) (Kd.R_base ho0) hb); have n3_ := Am (Kd.R_elder' (by (with_reducible repeat (first | apply rA | apply rN | apply rD)); exact HO_250001.out) (Kd.R_base ho1) hb); have n4_ := Am (Kd.R_elder' (by (with_reducible repeat (first | apply rA | apply rN | apply rD)); exact HO_258000.out) (Kd.R_base ho0) hb); have n5_ := Am (Kd.R_elder' (by (with_reducible repeat (first | apply rA | apply rN | apply rD)); exact HO_258001.out) (Kd.R_base ho1) hb); have n6_ := Am (Kd.R_lower (Kd.R_new' (Kd.R_new' (Kd.R_new' ho0 (Kd.R_lt (by (with_reducible repeat (first | apply rA | apply rN | apply rD)); exact HO_243000.out))) (Kd.R_lt (by (with_reducible repeat (first | apply rA | apply rN | apply rD)); exact HO_250000.out))) (Kd.R_lt (by (with_reducible repeat (first | apply rA | apply rN | apply rD)); exact HO_258000.out))) (bZ (by repeat (first | (with_reducible first | exact HB.out | apply oA | apply pN | apply o1 | refine bS ?_ GE227.out | refine bS ?_ GE242.out | refine bS ?_ GE249.out | refine bS ?_ GE257.out) | exact HB.out)))); have n7_ := Am (Kd.R_lower (Kd.R_new' (Kd.R_new' (Kd.R_new' ho1 (Kd.R_lt (by (with_reducible repeat (first | apply rA | apply rN | apply rD)); exact HO_243001.out))) (Kd.R_lt (by (with_reducible repeat (first | apply rA | apply rN | apply rD)); exact HO_250001.out))) (Kd.R_lt (by (with_reducible repeat (first | apply rA | apply rN | apply rD)); exact HO_258001.out))) (bZ (by repeat (first | (with_reducible first | exact HB.out | apply oA | apply pN | apply o1 | refine bS ?_ GE227.out | refine bS ?_ GE242.out | refine bS ?_ GE249.out | refine bS ?_ GE257.out) | exact HB.out)))); have n8_ := Am (bB (g := gb227) (o := .cells #[.slice A0_0 l0_0.length c0_0, .slice A0_1 l0_1.length c0_1] 59 (0, 0)) (by (with_reducible repeat (first | refine bN ?_ _ | refine bD ?_ | refine bA ?_ _)); exact BK227.out) hb); have n9_ := Am (bB (g := gb242) (o := .cells #[.slice Ao22 t235.length co22, .slice Ao25 t238.length co25] 61 (0, 0)) (by (with_reducible repeat (first | refine bN ?_ _ | refine bD ?_ | refine bA ?_ _)); exact BK242.out) hb); have n10_ := Am (bB (g := gb249) (o := .cells #[.slice Ao29 t267.length co29, .slice Ao33 t268.length co33] 61 (0, 0)) (by (with_reducible repeat (first | refine bN ?_ _ | refine bD ?_ | refine bA ?_ _)); exact BK249.out) hb); have n11_ := Am (bB (g := gb257) (o := .cells #[.slice Ao36 t250.length co36, .slice Ao41 t253.length co41] 61 (0, 0)) (by (with_reducible repeat (first | refine bN ?_ _ | refine bD ?_ | refine bA ?_ _)); exact BK257.out) hb); have n12_ := Am (bP (by repeat (first | (with_reducible first | exact HB.out | apply oA | apply pN | apply o1 | refine bS ?_ GE227.out | refine bS ?_ GE242.out | refine bS ?_ GE249.out | refine bS ?_ GE257.out) | exact HB.out)) hb); clear HO_243000; clear HO_243001; clear HO_250000; clear HO_250001; clear HO_258000; clear HO_258001; clear BK227; clear BK242; clear BK249; clear BK257; clear HB; have HO_243000 := n0_; have HO_243001 := n1_; have HO_250000 := n2_; have HO_250001 := n3_; have HO_258000 := n4_; have HO_258001 := n5_; have HO276 := n6_; have HO279 := n7_; have BK227 := n8_; have BK242 := n9_; have BK249 := n10_; have BK257 := n11_; have HB := n12_; clear n0_ n1_ n2_ n3_ n4_ n5_ n6_ n7_ n8_ n9_ n10_ n11_ n12_; (try clear hb); (try clear hb2); (try clear hk); (try clear hi); (try clear ho0); (try clear ho1); obtain ⟨Ao114, co114, eo114⟩ := Kd.R_slice HO276.out; subst eo114; obtain ⟨Ao115, co115, eo115⟩ := Kd.R_slice HO279.out; subst eo115) | ((with_reducible refine gate_callee (f := 45) rfl ?_); refine goesL_ (some 81) rfl rfl Try.func45 (by kernel_rfl) rfl #[.agg #[.slice Ao114 t274.length co114, .slice Ao115 t277.length co115], .int .i64 a1] rfl (by (try simp only [lM, lC, lN]); first | done | rfl | (simp only [lD, lT]; rfl)) ?_; (with_reducible refine (impl_PagesKeep.calls kj64 _ _ t274 _ _ t277 a1 t280 t283 t286 _ ?side1 ?side2 ?side3 ?side4 A101.out).mono ?_); (case side1 => repeat (first | exact (Kd.R_reads' HO276.out).2.2 | (with_reducible refine cA ?_ _) | (with_reducible refine cN ?_ _) | (with_reducible refine cD ?_))); (case side2 => exact (Kd.R_reads' HO276.out).2.1); (case side3 => repeat (first | exact (Kd.R_reads' HO279.out).2.2 | (with_reducible refine cA ?_ _) | (with_reducible refine cN ?_ _) | (with_reducible refine cD ?_))); (case side4 => exact (Kd.R_reads' HO279.out).2.1); rintro e w116 ⟨v281, v284, rfl, ho0, ho1, hb⟩; refine ⟨_, rfl, ?_⟩; have n0_ := Am (Kd.R_elder' (by (with_reducible repeat (first | apply rA | apply rN | apply rD)); exact HO_243000.out) (Kd.R_base ho0) hb); have n1_ := Am (Kd.R_elder' (by (with_reducible repeat (first | apply rA | apply rN | apply rD)); exact HO_243001.out) (Kd.R_base ho1) hb); have n2_ := Am (Kd.R_elder' (by (with_reducible repeat (first | apply rA | apply rN | apply rD)); exact HO_250000.out) (Kd.R_base ho0) hb); have n3_ := Am (Kd.R_elder' (by (with_reducible repeat (first | apply rA | apply rN | apply rD)); exact HO_250001.out) (Kd.R_base ho1) hb); have n4_ := Am (Kd.R_elder' (by (with_reducible repeat (first | apply rA | apply rN | apply rD)); exact HO_258000.out) (Kd.R_base ho0) hb); have n5_ := Am (Kd.R_elder' (by (with_reducible repeat (first | apply rA | apply rN | apply rD)); exact HO_258001.out) (Kd.R_base ho1) hb); have n6_ := Am (Kd.R_elder' (by (with_reducible repeat (first | apply rA | apply rN | apply rD)); exact HO276.out) (Kd.R_base ho0) hb); have n7_ := Am (Kd.R_elder' (by (with_reducible repeat (first | apply rA | apply rN | apply rD)); exact HO279.out) (Kd.R_base ho1) hb); have n8_ := Am (Kd.R_lower (Kd.R_new' (Kd.R_new' (Kd.R_new' (Kd.R_new' ho0 (Kd.R_lt (by (with_reducible repeat (first | apply rA | apply rN | apply rD)); exact HO_243000.out))) (Kd.R_lt (by (with_reducible repeat (first | apply rA | apply rN | apply rD)); exact HO_250000.out))) (Kd.R_lt (by (with_reducible repeat (first | apply rA | apply rN | apply rD)); exact HO_258000.out))) (Kd.R_lt (by (with_reducible repeat (first | apply rA | apply rN | apply rD)); exact HO276.out))) (bZ (by repeat (first | (with_reducible first | exact HB.out | apply oA | apply pN | apply o1 | refine bS ?_ GE227.out | refine bS ?_ GE242.out | refine bS ?_ GE249.out | refine bS ?_ GE257.out) | exact HB.out)))); have n9_ := Am (Kd.R_lower (Kd.R_new' (Kd.R_new' (Kd.R_new' (Kd.R_new' ho1 (Kd.R_lt (by (with_reducible repeat (first | apply rA | apply rN | apply rD)); exact HO_243001.out))) (Kd.R_lt (by (with_reducible repeat (first | apply rA | apply rN | apply rD)); exact HO_250001.out))) (Kd.R_lt (by (with_reducible repeat (first | apply rA | apply rN | apply rD)); exact HO_258001.out))) (Kd.R_lt (by (with_reducible repeat (first | apply rA | apply rN | apply rD)); exact HO279.out))) (bZ (by repeat (first | (with_reducible first | exact HB.out | apply oA | apply pN | apply o1 | refine bS ?_ GE227.out | refine bS ?_ GE242.out | refine bS ?_ GE249.out | refine bS ?_ GE257.out) | exact HB.out)))); have n10_ := Am (bB (g := gb227) (o := .cells #[.slice A0_0 l0_0.length c0_0, .slice A0_1 l0_1.length c0_1] 59 (0, 0)) (by (with_reducible repeat (first | refine bN ?_ _ | refine bD ?_ | refine bA ?_ _)); exact BK227.out) hb); have n11_ := Am (bB (g := gb242) (o := .cells #[.slice Ao22 t235.length co22, .slice Ao25 t238.length co25] 61 (0, 0)) (by (with_reducible repeat (first | refine bN ?_ _ | refine bD ?_ | refine bA ?_ _)); exact BK242.out) hb); have n12_ := Am (bB (g := gb249) (o := .cells #[.slice Ao29 t267.length co29, .slice Ao33 t268.length co33] 61 (0, 0)) (by (with_reducible repeat (first | refine bN ?_ _ | refine bD ?_ | refine bA ?_ _)); exact BK249.out) hb); have n13_ := Am (bB (g := gb257) (o := .cells #[.slice Ao36 t250.length co36, .slice Ao41 t253.length co41] 61 (0, 0)) (by (with_reducible repeat (first | refine bN ?_ _ | refine bD ?_ | refine bA ?_ _)); exact BK257.out) hb); have n14_ := Am (bP (by repeat (first | (with_reducible first | exact HB.out | apply oA | apply pN | apply o1 | refine bS ?_ GE227.out | refine bS ?_ GE242.out | refine bS ?_ GE249.out | refine bS ?_ GE257.out) | exact HB.out)) hb); clear HO_243000; clear HO_243001; clear HO_250000; clear HO_250001; clear HO_258000; clear HO_258001; clear HO276; clear HO279; clear BK227; clear BK242; clear BK249; clear BK257; clear HB; have HO_243000 := n0_; have HO_243001 := n1_; have HO_250000 := n2_; have HO_250001 := n3_; have HO_258000 := n4_; have HO_258001 := n5_; have HO276 := n6_; have HO279 := n7_; have HO282 := n8_; have HO285 := n9_; have BK227 := n10_; have BK242 := n11_; have BK249 := n12_; have BK257 := n13_; have HB := n14_; clear n0_ n1_ n2_ n3_ n4_ n5_ n6_ n7_ n8_ n9_ n10_ n11_ n12_ n13_ n14_; (try clear hb); (try clear hb2); (try clear hk); (try clear hi); (try clear ho0); (try clear ho1)) | ((with_reducible refine gate_dst (N := 14) rfl ?_); refine box_event ?hg (N := 14) ?hd (cs := #[.slice none 0 0, .slice none 0 0]) (t := 61) ?hr ?_; (case hd => rfl); (case hg => rfl); (case hr => first | (go_simp; done) | (go_simp; rfl)); intro gb287 hg w117 hbox hb; have n0_ := Am (rB (by (with_reducible repeat (first | apply rA | apply rN | apply rD)); exact HO_243000.out) hb); have n1_ := Am (rB (by (with_reducible repeat (first | apply rA | apply rN | apply rD)); exact HO_243001.out) hb); have n2_ := Am (rB (by (with_reducible repeat (first | apply rA | apply rN | apply rD)); exact HO_250000.out) hb); have n3_ := Am (rB (by (with_reducible repeat (first | apply rA | apply rN | apply rD)); exact HO_250001.out) hb); have n4_ := Am (rB (by (with_reducible repeat (first | apply rA | apply rN | apply rD)); exact HO_258000.out) hb); have n5_ := Am (rB (by (with_reducible repeat (first | apply rA | apply rN | apply rD)); exact HO_258001.out) hb); have n6_ := Am (rB (by (with_reducible repeat (first | apply rA | apply rN | apply rD)); exact HO276.out) hb); have n7_ := Am (rB (by (with_reducible repeat (first | apply rA | apply rN | apply rD)); exact HO279.out) hb); have n8_ := Am (rB (by (with_reducible repeat (first | apply rA | apply rN | apply rD)); exact HO282.out) hb); have n9_ := Am (rB (by (with_reducible repeat (first | apply rA | apply rN | apply rD)); exact HO285.out) hb); have n10_ := Am (bB (g := gb227) (o := .cells #[.slice A0_0 l0_0.length c0_0, .slice A0_1 l0_1.length c0_1] 59 (0, 0)) (by (with_reducible repeat (first | refine bN ?_ _ | refine bD ?_ | refine bA ?_ _)); exact BK227.out) hb); have n11_ := Am (bB (g := gb242) (o := .cells #[.slice Ao22 t235.length co22, .slice Ao25 t238.length co25] 61 (0, 0)) (by (with_reducible repeat (first | refine bN ?_ _ | refine bD ?_ | refine bA ?_ _)); exact BK242.out) hb); have n12_ := Am (bB (g := gb249) (o := .cells #[.slice Ao29 t267.length co29, .slice Ao33 t268.length co33] 61 (0, 0)) (by (with_reducible repeat (first | refine bN ?_ _ | refine bD ?_ | refine bA ?_ _)); exact BK249.out) hb); have n13_ := Am (bB (g := gb257) (o := .cells #[.slice Ao36 t250.length co36, .slice Ao41 t253.length co41] 61 (0, 0)) (by (with_reducible repeat (first | refine bN ?_ _ | refine bD ?_ | refine bA ?_ _)); exact BK257.out) hb); have n14_ := Am (bP (by repeat (first | (with_reducible first | exact HB.out | apply oA | apply pN | apply o1 | refine bS ?_ GE227.out | refine bS ?_ GE242.out | refine bS ?_ GE249.out | refine bS ?_ GE257.out) | exact HB.out)) hb); have n15_ := Am (hbox); have n16_ := Am ((by rw [hg]; exact (bZ (by repeat (first | (with_reducible first | exact HB.out | apply oA | apply pN | apply o1 | refine bS ?_ GE227.out | refine bS ?_ GE242.out | refine bS ?_ GE249.out | refine bS ?_ GE257.out) | exact HB.out))) : w.heap.size ≤ gb287)); have n17_ := Am ((by rw [hg]; exact (bZ (by repeat (first | (with_reducible first | exact HB.out | apply oA | apply pN | apply o1 | refine bS ?_ GE227.out | refine bS ?_ GE242.out | refine bS ?_ GE249.out | refine bS ?_ GE257.out) | exact HB.out))) : w.heap.size ≤ gb287)); have n18_ := Am ((by rw [hg]; exact Nat.ne_of_lt (blk_lt (g := gb227) (o := .cells #[.slice A0_0 l0_0.length c0_0, .slice A0_1 l0_1.length c0_1] 59 (0, 0)) (by (with_reducible repeat (first | refine bN ?_ _ | refine bD ?_ | refine bA ?_ _)); exact BK227.out)) : gb227 ≠ gb287)); have n19_ := Am ((by rw [hg]; exact Nat.ne_of_gt (blk_lt (g := gb227) (o := .cells #[.slice A0_0 l0_0.length c0_0, .slice A0_1 l0_1.length c0_1] 59 (0, 0)) (by (with_reducible repeat (first | refine bN ?_ _ | refine bD ?_ | refine bA ?_ _)); exact BK227.out)) : gb287 ≠ gb227)); have n20_ := Am ((by rw [hg]; exact Nat.ne_of_lt (blk_lt (g := gb242) (o := .cells #[.slice Ao22 t235.length co22, .slice Ao25 t238.length co25] 61 (0, 0)) (by (with_reducible repeat (first | refine bN ?_ _ | refine bD ?_ | refine bA ?_ _)); exact BK242.out)) : gb242 ≠ gb287)); have n21_ := Am ((by rw [hg]; exact Nat.ne_of_gt (blk_lt (g := gb242) (o := .cells #[.slice Ao22 t235.length co22, .slice Ao25 t238.length co25] 61 (0, 0)) (by (with_reducible repeat (first | refine bN ?_ _ | refine bD ?_ | refine bA ?_ _)); exact BK242.out)) : gb287 ≠ gb242)); have n22_ := Am ((by rw [hg]; exact Nat.ne_of_lt (blk_lt (g := gb249) (o := .cells #[.slice Ao29 t267.length co29, .slice Ao33 t268.length co33] 61 (0, 0)) (by (with_reducible repeat (first | refine bN ?_ _ | refine bD ?_ | refine bA ?_ _)); exact BK249.out)) : gb249 ≠ gb287)); have n23_ := Am ((by rw [hg]; exact Nat.ne_of_gt (blk_lt (g := gb249) (o := .cells #[.slice Ao29 t267.length co29, .slice Ao33 t268.length co33] 61 (0, 0)) (by (with_reducible repeat (first | refine bN ?_ _ | refine bD ?_ | refine bA ?_ _)); exact BK249.out)) : gb287 ≠ gb249)); have n24_ := Am ((by rw [hg]; exact Nat.ne_of_lt (blk_lt (g := gb257) (o := .cells #[.slice Ao36 t250.length co36, .slice Ao41 t253.length co41] 61 (0, 0)) (by (with_reducible repeat (first | refine bN ?_ _ | refine bD ?_ | refine bA ?_ _)); exact BK257.out)) : gb257 ≠ gb287)); have n25_ := Am ((by rw [hg]; exact Nat.ne_of_gt (blk_lt (g := gb257) (o := .cells #[.slice Ao36 t250.length co36, .slice Ao41 t253.length co41] 61 (0, 0)) (by (with_reducible repeat (first | refine bN ?_ _ | refine bD ?_ | refine bA ?_ _)); exact BK257.out)) : gb287 ≠ gb257)); clear HO_243000; clear HO_243001; clear HO_250000; clear HO_250001; clear HO_258000; clear HO_258001; clear HO276; clear HO279; clear HO282; clear HO285; clear BK227; clear BK242; clear BK249; clear BK257; clear HB; have HO_243000 := n0_; have HO_243001 := n1_; have HO_250000 := n2_; have HO_250001 := n3_; have HO_258000 := n4_; have HO_258001 := n5_; have HO276 := n6_; have HO279 := n7_; have HO282 := n8_; have HO285 := n9_; have BK227 := n10_; have BK242 := n11_; have BK249 := n12_; have BK257 := n13_; have HB := n14_; have BK287 := n15_; have GW287 := n16_; have GE287 := n17_; have NB227_287 := n18_; have NB287_227 := n19_; have NB242_287 := n20_; have NB287_242 := n21_; have NB249_287 := n22_; have NB287_249 := n23_; have NB257_287 := n24_; have NB287_257 := n25_; clear n0_ n1_ n2_ n3_ n4_ n5_ n6_ n7_ n8_ n9_ n10_ n11_ n12_ n13_ n14_ n15_ n16_ n17_ n18_ n19_ n20_ n21_ n22_ n23_ n24_ n25_; clear hb hbox hg; obtain ⟨Ao118, co118, eo118⟩ := Kd.R_slice HO282.out; subst eo118; have hnb119 := NB287_227.out; have hnc119 := NB227_287.out; have hnb120 := NB287_242.out; have hnc120 := NB242_287.out; have hnb121 := NB287_249.out; have hnc121 := NB249_287.out; have hnb122 := NB287_257.out; have hnc122 := NB257_287.out; have hcz123_0 : w117.cell? ⟨gb287, 0, none⟩ = some (.slice none 0 0) := (bC BK287.out 0).trans rfl; have hcz123_1 : w117.cell? ⟨gb287, 1, none⟩ = some (.slice none 0 0) := (bC BK287.out 1).trans rfl; have hfz123_0 := bF BK287.out 0; have hfz123_1 := bF BK287.out 1; obtain ⟨Ao124, co124, eo124⟩ := Kd.R_slice HO285.out; subst eo124))
           (try simp only [Act.put, lA, lZ, lS])
           go_cut [92] (fun v92 wc => ∃ (kq : Nat) (x92_101 : Bool), v92 = .bool x92_101 ∧ Aside0 (laws_FnExactPagesKeep.j2 kq t270 x92_101 t271 t272 = some r) ∧ Aside0 (kq ≤ kj64) ∧ Aside0 (Kd.R Kd.string 9 wc w.heap.size (fun k_ => some k_ ≠ ((.slice Ao29 t267.length co29) : Value).ownBlock ∧ some k_ ≠ ((.slice Ao36 t250.length co36) : Value).ownBlock ∧ some k_ ≠ ((.slice Ao118 t280.length co118) : Value).ownBlock) (.slice Ao22 t235.length co22) t235) ∧ Aside0 (Kd.R (Kd.int .i64) 3 wc w.heap.size (fun k_ => some k_ ≠ ((.slice Ao33 t268.length co33) : Value).ownBlock ∧ some k_ ≠ ((.slice Ao41 t253.length co41) : Value).ownBlock ∧ some k_ ≠ ((.slice Ao124 t283.length co124) : Value).ownBlock) (.slice Ao25 t238.length co25) t238) ∧ Aside0 (Kd.R Kd.string 9 wc w.heap.size (fun k_ => some k_ ≠ ((.slice Ao22 t235.length co22) : Value).ownBlock ∧ some k_ ≠ ((.slice Ao36 t250.length co36) : Value).ownBlock ∧ some k_ ≠ ((.slice Ao118 t280.length co118) : Value).ownBlock) (.slice Ao29 t267.length co29) t267) ∧ Aside0 (Kd.R (Kd.int .i64) 3 wc w.heap.size (fun k_ => some k_ ≠ ((.slice Ao25 t238.length co25) : Value).ownBlock ∧ some k_ ≠ ((.slice Ao41 t253.length co41) : Value).ownBlock ∧ some k_ ≠ ((.slice Ao124 t283.length co124) : Value).ownBlock) (.slice Ao33 t268.length co33) t268) ∧ Aside0 (Kd.R Kd.string 9 wc w.heap.size (fun k_ => some k_ ≠ ((.slice Ao22 t235.length co22) : Value).ownBlock ∧ some k_ ≠ ((.slice Ao29 t267.length co29) : Value).ownBlock ∧ some k_ ≠ ((.slice Ao118 t280.length co118) : Value).ownBlock) (.slice Ao36 t250.length co36) t271) ∧ Aside0 (Kd.R (Kd.int .i64) 3 wc w.heap.size (fun k_ => some k_ ≠ ((.slice Ao25 t238.length co25) : Value).ownBlock ∧ some k_ ≠ ((.slice Ao33 t268.length co33) : Value).ownBlock ∧ some k_ ≠ ((.slice Ao124 t283.length co124) : Value).ownBlock) (.slice Ao41 t253.length co41) t272) ∧ Aside0 (Kd.R Kd.string 9 wc w.heap.size (fun k_ => some k_ ≠ ((.slice Ao22 t235.length co22) : Value).ownBlock ∧ some k_ ≠ ((.slice Ao29 t267.length co29) : Value).ownBlock ∧ some k_ ≠ ((.slice Ao36 t250.length co36) : Value).ownBlock) (.slice Ao118 t280.length co118) t280) ∧ Aside0 (Kd.R (Kd.int .i64) 3 wc w.heap.size (fun k_ => some k_ ≠ ((.slice Ao25 t238.length co25) : Value).ownBlock ∧ some k_ ≠ ((.slice Ao33 t268.length co33) : Value).ownBlock ∧ some k_ ≠ ((.slice Ao41 t253.length co41) : Value).ownBlock) (.slice Ao124 t283.length co124) t283) ∧ Aside0 (wc.heap[gb227]? = some (.cells #[(.slice A0_0 l0_0.length c0_0), (.slice A0_1 l0_1.length c0_1)] 59 (0, 0))) ∧ Aside0 (wc.heap[gb242]? = some (.cells #[(.slice Ao22 t235.length co22), (.slice Ao25 t238.length co25)] 61 (0, 0))) ∧ Aside0 (wc.heap[gb249]? = some (.cells #[(.slice Ao29 t267.length co29), (.slice Ao33 t268.length co33)] 61 (0, 0))) ∧ Aside0 (wc.heap[gb257]? = some (.cells #[(.slice Ao36 t250.length co36), (.slice Ao41 t253.length co41)] 61 (0, 0))) ∧ Aside0 (wc.heap[gb287]? = some (.cells #[(.slice Ao118 t280.length co118), (.slice Ao124 t283.length co124)] 61 (0, 0))) ∧ Aside0 (Below w.heap.size w wc))
           case first =>
            have H := HC102.out
            clear HC102
            replace H := Option.bind_eq_some_iff.mp H
            obtain ⟨t288, A1250, H⟩ := H
            replace H : (if t288 = true then (laws_FnExactPagesKeep.j2 kj64 t270 (t286 != t241) t271 t272) else (laws_FnExactPagesKeep.j2 kj64 t270 true t271 t272)) = some r := H
            have A125 := Am A1250
            clear A1250
            by_cases c126 : t288 = true
            ·subst c126
             have H1 : (laws_FnExactPagesKeep.j2 kj64 t270 (t286 != t241) t271 t272) = some r := by rw [if_pos rfl] at H; exact H
             clear H
             have H := H1
             clear H1
             have H' := Am H
             clear H
             have hnb127 := NB287_227.out
             have hnc127 := NB227_287.out
             have hnb128 := NB287_242.out
             have hnc128 := NB242_287.out
             have hnb129 := NB287_249.out
             have hnc129 := NB249_287.out
             have hnb130 := NB287_257.out
             have hnc130 := NB257_287.out
             have hcz131_0 : w117.cell? ⟨gb287, 0, none⟩ = some (.slice none 0 0) := (bC BK287.out 0).trans rfl
             have hcz131_1 : w117.cell? ⟨gb287, 1, none⟩ = some (.slice none 0 0) := (bC BK287.out 1).trans rfl
             have hfz131_0 := bF BK287.out 0
             have hfz131_1 := bF BK287.out 1
             have hnb132 := NB242_227.out
             have hnc132 := NB227_242.out
             have hnb133 := NB242_249.out
             have hnc133 := NB249_242.out
             have hnb134 := NB242_257.out
             have hnc134 := NB257_242.out
             have hcz135_0 : w117.cell? ⟨gb242, 0, none⟩ = some (.slice Ao22 t235.length co22) := (bC BK242.out 0).trans rfl
             have hcz135_1 : w117.cell? ⟨gb242, 1, none⟩ = some (.slice Ao25 t238.length co25) := (bC BK242.out 1).trans rfl
             have hfz135_0 := bF BK242.out 0
             have hfz135_1 := bF BK242.out 1
             go_wp2_with (first | ((with_reducible refine gate_callee (f := 46) rfl ?_); refine goesL_ (some 86) rfl rfl Try.func46 (by kernel_rfl) rfl #[.agg #[.slice Ao118 t280.length co118, .slice Ao124 t283.length co124], .agg #[.slice Ao22 t235.length co22, .slice Ao25 t238.length co25]] rfl (by (try simp only [lM, lC, lN]); first | done | rfl | (simp only [lD, lT]; rfl)) ?_; (with_reducible refine (laws_eqPages.calls kj64 _ _ t280 _ _ t283 _ _ t235 _ _ t238 true _ ?side1 ?side2 ?side3 ?side4 ?side5 ?side6 ?side7 ?side8 A125.out).mono ?_); (case side1 => refine (Kd.R_reads' (e := 9) (base := w.heap.size) (ok := fun k_ => ((((True ∧ some k_ ≠ (.slice Ao22 t235.length co22 : Value).ownBlock) ∧ some k_ ≠ (.slice Ao29 t267.length co29 : Value).ownBlock) ∧ some k_ ≠ (.slice Ao36 t250.length co36 : Value).ownBlock) ∧ some k_ ≠ (.slice Ao114 t274.length co114 : Value).ownBlock)) (n := t280.length) (c := co118) ?_).2.2; exact (by (with_reducible repeat (first | apply rA | apply rN | apply rD)); exact (rM (rF (p := ⟨gb287, 1, none⟩) (rF (p := ⟨gb287, 0, none⟩) (rT HO282.out BK287.out (by decide)) (fun _ hk => hk.2) (.slice Ao118 t280.length co118)) (fun _ hk => hk.2) (.slice Ao124 t283.length co124)) (fun _ h_ => h_.1)))); (case side2 => exact (Kd.R_reads' HO282.out).2.1); (case side3 => refine (Kd.R_reads' (e := 3) (base := w.heap.size) (ok := fun k_ => ((((True ∧ some k_ ≠ (.slice Ao25 t238.length co25 : Value).ownBlock) ∧ some k_ ≠ (.slice Ao33 t268.length co33 : Value).ownBlock) ∧ some k_ ≠ (.slice Ao41 t253.length co41 : Value).ownBlock) ∧ some k_ ≠ (.slice Ao115 t277.length co115 : Value).ownBlock)) (n := t283.length) (c := co124) ?_).2.2; exact (by (with_reducible repeat (first | apply rA | apply rN | apply rD)); exact (rM (rF (p := ⟨gb287, 1, none⟩) (rF (p := ⟨gb287, 0, none⟩) (rT HO285.out BK287.out (by decide)) (fun _ hk => hk.2) (.slice Ao118 t280.length co118)) (fun _ hk => hk.2) (.slice Ao124 t283.length co124)) (fun _ h_ => h_.1)))); (case side4 => exact (Kd.R_reads' HO285.out).2.1); (case side5 => refine (Kd.R_reads' (e := 9) (base := w.heap.size) (ok := fun k_ => (((some k_ ≠ (.slice Ao29 t267.length co29 : Value).ownBlock ∧ some k_ ≠ (.slice Ao36 t250.length co36 : Value).ownBlock) ∧ some k_ ≠ (.slice Ao114 t274.length co114 : Value).ownBlock) ∧ some k_ ≠ (.slice Ao118 t280.length co118 : Value).ownBlock)) (n := t235.length) (c := co22) ?_).2.2; exact (by (with_reducible repeat (first | apply rA | apply rN | apply rD)); exact (rM (rF (p := ⟨gb287, 1, none⟩) (rF (p := ⟨gb287, 0, none⟩) (rT HO_243000.out BK287.out (by decide)) (fun _ hk => hk.2) (.slice Ao118 t280.length co118)) (fun _ hk => hk.2) (.slice Ao124 t283.length co124)) (fun _ h_ => h_.1)))); (case side6 => exact (Kd.R_reads' HO_243000.out).2.1); (case side7 => refine (Kd.R_reads' (e := 3) (base := w.heap.size) (ok := fun k_ => (((some k_ ≠ (.slice Ao33 t268.length co33 : Value).ownBlock ∧ some k_ ≠ (.slice Ao41 t253.length co41 : Value).ownBlock) ∧ some k_ ≠ (.slice Ao115 t277.length co115 : Value).ownBlock) ∧ some k_ ≠ (.slice Ao124 t283.length co124 : Value).ownBlock)) (n := t238.length) (c := co25) ?_).2.2; exact (by (with_reducible repeat (first | apply rA | apply rN | apply rD)); exact (rM (rF (p := ⟨gb287, 1, none⟩) (rF (p := ⟨gb287, 0, none⟩) (rT HO_243001.out BK287.out (by decide)) (fun _ hk => hk.2) (.slice Ao118 t280.length co118)) (fun _ hk => hk.2) (.slice Ao124 t283.length co124)) (fun _ h_ => h_.1)))); (case side8 => exact (Kd.R_reads' HO_243001.out).2.1); rintro e w136 ⟨rfl, hb⟩; refine ⟨_, rfl, ?_⟩; have n0_ := Am (rB (by (with_reducible repeat (first | apply rA | apply rN | apply rD)); exact (rM (rF (p := ⟨gb287, 1, none⟩) (rF (p := ⟨gb287, 0, none⟩) (rT HO_243000.out BK287.out (by decide)) (fun _ hk => hk.2) (.slice Ao118 t280.length co118)) (fun _ hk => hk.2) (.slice Ao124 t283.length co124)) (fun _ h_ => h_.1))) hb); have n1_ := Am (rB (by (with_reducible repeat (first | apply rA | apply rN | apply rD)); exact (rM (rF (p := ⟨gb287, 1, none⟩) (rF (p := ⟨gb287, 0, none⟩) (rT HO_243001.out BK287.out (by decide)) (fun _ hk => hk.2) (.slice Ao118 t280.length co118)) (fun _ hk => hk.2) (.slice Ao124 t283.length co124)) (fun _ h_ => h_.1))) hb); have n2_ := Am (rB (by (with_reducible repeat (first | apply rA | apply rN | apply rD)); exact (rM (rF (p := ⟨gb287, 1, none⟩) (rF (p := ⟨gb287, 0, none⟩) (rT HO_250000.out BK287.out (by decide)) (fun _ hk => hk.2) (.slice Ao118 t280.length co118)) (fun _ hk => hk.2) (.slice Ao124 t283.length co124)) (fun _ h_ => h_.1))) hb); have n3_ := Am (rB (by (with_reducible repeat (first | apply rA | apply rN | apply rD)); exact (rM (rF (p := ⟨gb287, 1, none⟩) (rF (p := ⟨gb287, 0, none⟩) (rT HO_250001.out BK287.out (by decide)) (fun _ hk => hk.2) (.slice Ao118 t280.length co118)) (fun _ hk => hk.2) (.slice Ao124 t283.length co124)) (fun _ h_ => h_.1))) hb); have n4_ := Am (rB (by (with_reducible repeat (first | apply rA | apply rN | apply rD)); exact (rM (rF (p := ⟨gb287, 1, none⟩) (rF (p := ⟨gb287, 0, none⟩) (rT HO_258000.out BK287.out (by decide)) (fun _ hk => hk.2) (.slice Ao118 t280.length co118)) (fun _ hk => hk.2) (.slice Ao124 t283.length co124)) (fun _ h_ => h_.1))) hb); have n5_ := Am (rB (by (with_reducible repeat (first | apply rA | apply rN | apply rD)); exact (rM (rF (p := ⟨gb287, 1, none⟩) (rF (p := ⟨gb287, 0, none⟩) (rT HO_258001.out BK287.out (by decide)) (fun _ hk => hk.2) (.slice Ao118 t280.length co118)) (fun _ hk => hk.2) (.slice Ao124 t283.length co124)) (fun _ h_ => h_.1))) hb); have n6_ := Am (rB (by (with_reducible repeat (first | apply rA | apply rN | apply rD)); exact (rM (rF (p := ⟨gb287, 1, none⟩) (rF (p := ⟨gb287, 0, none⟩) (rT HO276.out BK287.out (by decide)) (fun _ hk => hk.2) (.slice Ao118 t280.length co118)) (fun _ hk => hk.2) (.slice Ao124 t283.length co124)) (fun _ h_ => h_.1))) hb); have n7_ := Am (rB (by (with_reducible repeat (first | apply rA | apply rN | apply rD)); exact (rM (rF (p := ⟨gb287, 1, none⟩) (rF (p := ⟨gb287, 0, none⟩) (rT HO279.out BK287.out (by decide)) (fun _ hk => hk.2) (.slice Ao118 t280.length co118)) (fun _ hk => hk.2) (.slice Ao124 t283.length co124)) (fun _ h_ => h_.1))) hb); have n8_ := Am (rB (by (with_reducible repeat (first | apply rA | apply rN | apply rD)); exact (rM (rF (p := ⟨gb287, 1, none⟩) (rF (p := ⟨gb287, 0, none⟩) (rT HO282.out BK287.out (by decide)) (fun _ hk => hk.2) (.slice Ao118 t280.length co118)) (fun _ hk => hk.2) (.slice Ao124 t283.length co124)) (fun _ h_ => h_.1))) hb); have n9_ := Am (rB (by (with_reducible repeat (first | apply rA | apply rN | apply rD)); exact (rM (rF (p := ⟨gb287, 1, none⟩) (rF (p := ⟨gb287, 0, none⟩) (rT HO285.out BK287.out (by decide)) (fun _ hk => hk.2) (.slice Ao118 t280.length co118)) (fun _ hk => hk.2) (.slice Ao124 t283.length co124)) (fun _ h_ => h_.1))) hb); have n10_ := Am (bB (g := gb227) (o := .cells #[.slice A0_0 l0_0.length c0_0, .slice A0_1 l0_1.length c0_1] 59 (0, 0)) (by (with_reducible repeat (first | refine bN ?_ _ | refine bD ?_ | refine bA ?_ _)); refine blk_far ?_ NB227_287.out _; (with_reducible repeat (first | refine bN ?_ _ | refine bD ?_ | refine bA ?_ _)); refine blk_far ?_ NB227_287.out _; (with_reducible repeat (first | refine bN ?_ _ | refine bD ?_ | refine bA ?_ _)); exact BK227.out) hb); have n11_ := Am (bB (g := gb242) (o := .cells #[.slice Ao22 t235.length co22, .slice Ao25 t238.length co25] 61 (0, 0)) (by (with_reducible repeat (first | refine bN ?_ _ | refine bD ?_ | refine bA ?_ _)); refine blk_far ?_ NB242_287.out _; (with_reducible repeat (first | refine bN ?_ _ | refine bD ?_ | refine bA ?_ _)); refine blk_far ?_ NB242_287.out _; (with_reducible repeat (first | refine bN ?_ _ | refine bD ?_ | refine bA ?_ _)); exact BK242.out) hb); have n12_ := Am (bB (g := gb249) (o := .cells #[.slice Ao29 t267.length co29, .slice Ao33 t268.length co33] 61 (0, 0)) (by (with_reducible repeat (first | refine bN ?_ _ | refine bD ?_ | refine bA ?_ _)); refine blk_far ?_ NB249_287.out _; (with_reducible repeat (first | refine bN ?_ _ | refine bD ?_ | refine bA ?_ _)); refine blk_far ?_ NB249_287.out _; (with_reducible repeat (first | refine bN ?_ _ | refine bD ?_ | refine bA ?_ _)); exact BK249.out) hb); have n13_ := Am (bB (g := gb257) (o := .cells #[.slice Ao36 t250.length co36, .slice Ao41 t253.length co41] 61 (0, 0)) (by (with_reducible repeat (first | refine bN ?_ _ | refine bD ?_ | refine bA ?_ _)); refine blk_far ?_ NB257_287.out _; (with_reducible repeat (first | refine bN ?_ _ | refine bD ?_ | refine bA ?_ _)); refine blk_far ?_ NB257_287.out _; (with_reducible repeat (first | refine bN ?_ _ | refine bD ?_ | refine bA ?_ _)); exact BK257.out) hb); have n14_ := Am (bB (g := gb287) (o := .cells #[.slice Ao118 t280.length co118, .slice Ao124 t283.length co124] 61 (0, 0)) (by (with_reducible repeat (first | refine bN ?_ _ | refine bD ?_ | refine bA ?_ _)); refine blk_put (cs := #[.slice Ao118 t280.length co118, .slice none 0 0]) ?_ 1 _ rfl; (with_reducible repeat (first | refine bN ?_ _ | refine bD ?_ | refine bA ?_ _)); refine blk_put (cs := #[.slice none 0 0, .slice none 0 0]) ?_ 0 _ rfl; (with_reducible repeat (first | refine bN ?_ _ | refine bD ?_ | refine bA ?_ _)); exact BK287.out) hb); have n15_ := Am (bP (by repeat (first | (with_reducible first | exact HB.out | apply oA | apply pN | apply o1 | refine bS ?_ GE227.out | refine bS ?_ GE242.out | refine bS ?_ GE249.out | refine bS ?_ GE257.out | refine bS ?_ GE287.out) | exact HB.out)) hb); clear HO_243000; clear HO_243001; clear HO_250000; clear HO_250001; clear HO_258000; clear HO_258001; clear HO276; clear HO279; clear HO282; clear HO285; clear BK227; clear BK242; clear BK249; clear BK257; clear BK287; clear HB; have HO_243000 := n0_; have HO_243001 := n1_; have HO_250000 := n2_; have HO_250001 := n3_; have HO_258000 := n4_; have HO_258001 := n5_; have HO276 := n6_; have HO279 := n7_; have HO282 := n8_; have HO285 := n9_; have BK227 := n10_; have BK242 := n11_; have BK249 := n12_; have BK257 := n13_; have BK287 := n14_; have HB := n15_; clear n0_ n1_ n2_ n3_ n4_ n5_ n6_ n7_ n8_ n9_ n10_ n11_ n12_ n13_ n14_ n15_; (try clear hb); (try clear hb2); (try clear hk); (try clear hi)))
             go_meet
             case rel => exact ⟨_, ((t286 != t241)), (by first | rfl | (simp; done) | (simp [*]; done)), H', ⟨by have := HJ11.out; have := HJ64.out; first | omega | exact Nat.le_refl _⟩, ⟨by (try simp only [hl250000_64]); (try simp only [hl250001_64]); (with_reducible repeat (first | apply rA | apply rN | apply rD)); exact rM HO_243000.out (fun _ hk => ⟨hk.1.1.1, ⟨hk.1.1.2, hk.2⟩⟩)⟩, ⟨by (try simp only [hl250000_64]); (try simp only [hl250001_64]); (with_reducible repeat (first | apply rA | apply rN | apply rD)); exact rM HO_243001.out (fun _ hk => ⟨hk.1.1.1, ⟨hk.1.1.2, hk.2⟩⟩)⟩, ⟨by (try simp only [hl250000_64]); (try simp only [hl250001_64]); (with_reducible repeat (first | apply rA | apply rN | apply rD)); exact rM HO_250000.out (fun _ hk => ⟨hk.1.1.1, ⟨hk.1.1.2, hk.2⟩⟩)⟩, ⟨by (try simp only [hl250000_64]); (try simp only [hl250001_64]); (with_reducible repeat (first | apply rA | apply rN | apply rD)); exact rM HO_250001.out (fun _ hk => ⟨hk.1.1.1, ⟨hk.1.1.2, hk.2⟩⟩)⟩, ⟨by (try simp only [hl250000_64]); (try simp only [hl250001_64]); (with_reducible repeat (first | apply rA | apply rN | apply rD)); exact rM HO_258000.out (fun _ hk => ⟨hk.1.1.1, ⟨hk.1.1.2, hk.2⟩⟩)⟩, ⟨by (try simp only [hl250000_64]); (try simp only [hl250001_64]); (with_reducible repeat (first | apply rA | apply rN | apply rD)); exact rM HO_258001.out (fun _ hk => ⟨hk.1.1.1, ⟨hk.1.1.2, hk.2⟩⟩)⟩, ⟨by (try simp only [hl250000_64]); (try simp only [hl250001_64]); (with_reducible repeat (first | apply rA | apply rN | apply rD)); exact rM HO282.out (fun _ hk => ⟨hk.1.1.1.2, ⟨hk.1.1.2, hk.1.2⟩⟩)⟩, ⟨by (try simp only [hl250000_64]); (try simp only [hl250001_64]); (with_reducible repeat (first | apply rA | apply rN | apply rD)); exact rM HO285.out (fun _ hk => ⟨hk.1.1.1.2, ⟨hk.1.1.2, hk.1.2⟩⟩)⟩, ⟨by (try simp only [hl250000_64]); (try simp only [hl250001_64]); (with_reducible repeat (first | refine bN ?_ _ | refine bD ?_ | refine bA ?_ _)); exact BK227.out⟩, ⟨by (try simp only [hl250000_64]); (try simp only [hl250001_64]); (with_reducible repeat (first | refine bN ?_ _ | refine bD ?_ | refine bA ?_ _)); exact BK242.out⟩, ⟨by (try simp only [hl250000_64]); (try simp only [hl250001_64]); (with_reducible repeat (first | refine bN ?_ _ | refine bD ?_ | refine bA ?_ _)); exact BK249.out⟩, ⟨by (try simp only [hl250000_64]); (try simp only [hl250001_64]); (with_reducible repeat (first | refine bN ?_ _ | refine bD ?_ | refine bA ?_ _)); exact BK257.out⟩, ⟨by (try simp only [hl250000_64]); (try simp only [hl250001_64]); (with_reducible repeat (first | refine bN ?_ _ | refine bD ?_ | refine bA ?_ _)); exact BK287.out⟩, ⟨by repeat (first | (with_reducible first | exact HB.out | apply oA | apply pN | apply o1 | refine bS ?_ GE227.out | refine bS ?_ GE242.out | refine bS ?_ GE249.out | refine bS ?_ GE257.out | refine bS ?_ GE287.out) | exact HB.out)⟩⟩
            ·replace c126 := Bool.eq_false_iff.mpr c126
             subst c126
             have H1 : (laws_FnExactPagesKeep.j2 kj64 t270 true t271 t272) = some r := by rw [if_neg (show ¬ (false = true) by decide)] at H; exact H
             clear H
             have H := H1
             clear H1
             have H' := Am H
             clear H
             have hnb137 := NB287_227.out
             have hnc137 := NB227_287.out
             have hnb138 := NB287_242.out
             have hnc138 := NB242_287.out
             have hnb139 := NB287_249.out
             have hnc139 := NB249_287.out
             have hnb140 := NB287_257.out
             have hnc140 := NB257_287.out
             have hcz141_0 : w117.cell? ⟨gb287, 0, none⟩ = some (.slice none 0 0) := (bC BK287.out 0).trans rfl
             have hcz141_1 : w117.cell? ⟨gb287, 1, none⟩ = some (.slice none 0 0) := (bC BK287.out 1).trans rfl
             have hfz141_0 := bF BK287.out 0
             have hfz141_1 := bF BK287.out 1
             have hnb142 := NB242_227.out
             have hnc142 := NB227_242.out
             have hnb143 := NB242_249.out
             have hnc143 := NB249_242.out
             have hnb144 := NB242_257.out
             have hnc144 := NB257_242.out
             have hcz145_0 : w117.cell? ⟨gb242, 0, none⟩ = some (.slice Ao22 t235.length co22) := (bC BK242.out 0).trans rfl
             have hcz145_1 : w117.cell? ⟨gb242, 1, none⟩ = some (.slice Ao25 t238.length co25) := (bC BK242.out 1).trans rfl
             have hfz145_0 := bF BK242.out 0
             have hfz145_1 := bF BK242.out 1
             go_wp2_with (first | ((with_reducible refine gate_callee (f := 46) rfl ?_); refine goesL_ (some 86) rfl rfl Try.func46 (by kernel_rfl) rfl #[.agg #[.slice Ao118 t280.length co118, .slice Ao124 t283.length co124], .agg #[.slice Ao22 t235.length co22, .slice Ao25 t238.length co25]] rfl (by (try simp only [lM, lC, lN]); first | done | rfl | (simp only [lD, lT]; rfl)) ?_; (with_reducible refine (laws_eqPages.calls kj64 _ _ t280 _ _ t283 _ _ t235 _ _ t238 false _ ?side1 ?side2 ?side3 ?side4 ?side5 ?side6 ?side7 ?side8 A125.out).mono ?_); (case side1 => refine (Kd.R_reads' (e := 9) (base := w.heap.size) (ok := fun k_ => ((((True ∧ some k_ ≠ (.slice Ao22 t235.length co22 : Value).ownBlock) ∧ some k_ ≠ (.slice Ao29 t267.length co29 : Value).ownBlock) ∧ some k_ ≠ (.slice Ao36 t250.length co36 : Value).ownBlock) ∧ some k_ ≠ (.slice Ao114 t274.length co114 : Value).ownBlock)) (n := t280.length) (c := co118) ?_).2.2; exact (by (with_reducible repeat (first | apply rA | apply rN | apply rD)); exact (rM (rF (p := ⟨gb287, 1, none⟩) (rF (p := ⟨gb287, 0, none⟩) (rT HO282.out BK287.out (by decide)) (fun _ hk => hk.2) (.slice Ao118 t280.length co118)) (fun _ hk => hk.2) (.slice Ao124 t283.length co124)) (fun _ h_ => h_.1)))); (case side2 => exact (Kd.R_reads' HO282.out).2.1); (case side3 => refine (Kd.R_reads' (e := 3) (base := w.heap.size) (ok := fun k_ => ((((True ∧ some k_ ≠ (.slice Ao25 t238.length co25 : Value).ownBlock) ∧ some k_ ≠ (.slice Ao33 t268.length co33 : Value).ownBlock) ∧ some k_ ≠ (.slice Ao41 t253.length co41 : Value).ownBlock) ∧ some k_ ≠ (.slice Ao115 t277.length co115 : Value).ownBlock)) (n := t283.length) (c := co124) ?_).2.2; exact (by (with_reducible repeat (first | apply rA | apply rN | apply rD)); exact (rM (rF (p := ⟨gb287, 1, none⟩) (rF (p := ⟨gb287, 0, none⟩) (rT HO285.out BK287.out (by decide)) (fun _ hk => hk.2) (.slice Ao118 t280.length co118)) (fun _ hk => hk.2) (.slice Ao124 t283.length co124)) (fun _ h_ => h_.1)))); (case side4 => exact (Kd.R_reads' HO285.out).2.1); (case side5 => refine (Kd.R_reads' (e := 9) (base := w.heap.size) (ok := fun k_ => (((some k_ ≠ (.slice Ao29 t267.length co29 : Value).ownBlock ∧ some k_ ≠ (.slice Ao36 t250.length co36 : Value).ownBlock) ∧ some k_ ≠ (.slice Ao114 t274.length co114 : Value).ownBlock) ∧ some k_ ≠ (.slice Ao118 t280.length co118 : Value).ownBlock)) (n := t235.length) (c := co22) ?_).2.2; exact (by (with_reducible repeat (first | apply rA | apply rN | apply rD)); exact (rM (rF (p := ⟨gb287, 1, none⟩) (rF (p := ⟨gb287, 0, none⟩) (rT HO_243000.out BK287.out (by decide)) (fun _ hk => hk.2) (.slice Ao118 t280.length co118)) (fun _ hk => hk.2) (.slice Ao124 t283.length co124)) (fun _ h_ => h_.1)))); (case side6 => exact (Kd.R_reads' HO_243000.out).2.1); (case side7 => refine (Kd.R_reads' (e := 3) (base := w.heap.size) (ok := fun k_ => (((some k_ ≠ (.slice Ao33 t268.length co33 : Value).ownBlock ∧ some k_ ≠ (.slice Ao41 t253.length co41 : Value).ownBlock) ∧ some k_ ≠ (.slice Ao115 t277.length co115 : Value).ownBlock) ∧ some k_ ≠ (.slice Ao124 t283.length co124 : Value).ownBlock)) (n := t238.length) (c := co25) ?_).2.2; exact (by (with_reducible repeat (first | apply rA | apply rN | apply rD)); exact (rM (rF (p := ⟨gb287, 1, none⟩) (rF (p := ⟨gb287, 0, none⟩) (rT HO_243001.out BK287.out (by decide)) (fun _ hk => hk.2) (.slice Ao118 t280.length co118)) (fun _ hk => hk.2) (.slice Ao124 t283.length co124)) (fun _ h_ => h_.1)))); (case side8 => exact (Kd.R_reads' HO_243001.out).2.1); rintro e w146 ⟨rfl, hb⟩; refine ⟨_, rfl, ?_⟩; have n0_ := Am (rB (by (with_reducible repeat (first | apply rA | apply rN | apply rD)); exact (rM (rF (p := ⟨gb287, 1, none⟩) (rF (p := ⟨gb287, 0, none⟩) (rT HO_243000.out BK287.out (by decide)) (fun _ hk => hk.2) (.slice Ao118 t280.length co118)) (fun _ hk => hk.2) (.slice Ao124 t283.length co124)) (fun _ h_ => h_.1))) hb); have n1_ := Am (rB (by (with_reducible repeat (first | apply rA | apply rN | apply rD)); exact (rM (rF (p := ⟨gb287, 1, none⟩) (rF (p := ⟨gb287, 0, none⟩) (rT HO_243001.out BK287.out (by decide)) (fun _ hk => hk.2) (.slice Ao118 t280.length co118)) (fun _ hk => hk.2) (.slice Ao124 t283.length co124)) (fun _ h_ => h_.1))) hb); have n2_ := Am (rB (by (with_reducible repeat (first | apply rA | apply rN | apply rD)); exact (rM (rF (p := ⟨gb287, 1, none⟩) (rF (p := ⟨gb287, 0, none⟩) (rT HO_250000.out BK287.out (by decide)) (fun _ hk => hk.2) (.slice Ao118 t280.length co118)) (fun _ hk => hk.2) (.slice Ao124 t283.length co124)) (fun _ h_ => h_.1))) hb); have n3_ := Am (rB (by (with_reducible repeat (first | apply rA | apply rN | apply rD)); exact (rM (rF (p := ⟨gb287, 1, none⟩) (rF (p := ⟨gb287, 0, none⟩) (rT HO_250001.out BK287.out (by decide)) (fun _ hk => hk.2) (.slice Ao118 t280.length co118)) (fun _ hk => hk.2) (.slice Ao124 t283.length co124)) (fun _ h_ => h_.1))) hb); have n4_ := Am (rB (by (with_reducible repeat (first | apply rA | apply rN | apply rD)); exact (rM (rF (p := ⟨gb287, 1, none⟩) (rF (p := ⟨gb287, 0, none⟩) (rT HO_258000.out BK287.out (by decide)) (fun _ hk => hk.2) (.slice Ao118 t280.length co118)) (fun _ hk => hk.2) (.slice Ao124 t283.length co124)) (fun _ h_ => h_.1))) hb); have n5_ := Am (rB (by (with_reducible repeat (first | apply rA | apply rN | apply rD)); exact (rM (rF (p := ⟨gb287, 1, none⟩) (rF (p := ⟨gb287, 0, none⟩) (rT HO_258001.out BK287.out (by decide)) (fun _ hk => hk.2) (.slice Ao118 t280.length co118)) (fun _ hk => hk.2) (.slice Ao124 t283.length co124)) (fun _ h_ => h_.1))) hb); have n6_ := Am (rB (by (with_reducible repeat (first | apply rA | apply rN | apply rD)); exact (rM (rF (p := ⟨gb287, 1, none⟩) (rF (p := ⟨gb287, 0, none⟩) (rT HO276.out BK287.out (by decide)) (fun _ hk => hk.2) (.slice Ao118 t280.length co118)) (fun _ hk => hk.2) (.slice Ao124 t283.length co124)) (fun _ h_ => h_.1))) hb); have n7_ := Am (rB (by (with_reducible repeat (first | apply rA | apply rN | apply rD)); exact (rM (rF (p := ⟨gb287, 1, none⟩) (rF (p := ⟨gb287, 0, none⟩) (rT HO279.out BK287.out (by decide)) (fun _ hk => hk.2) (.slice Ao118 t280.length co118)) (fun _ hk => hk.2) (.slice Ao124 t283.length co124)) (fun _ h_ => h_.1))) hb); have n8_ := Am (rB (by (with_reducible repeat (first | apply rA | apply rN | apply rD)); exact (rM (rF (p := ⟨gb287, 1, none⟩) (rF (p := ⟨gb287, 0, none⟩) (rT HO282.out BK287.out (by decide)) (fun _ hk => hk.2) (.slice Ao118 t280.length co118)) (fun _ hk => hk.2) (.slice Ao124 t283.length co124)) (fun _ h_ => h_.1))) hb); have n9_ := Am (rB (by (with_reducible repeat (first | apply rA | apply rN | apply rD)); exact (rM (rF (p := ⟨gb287, 1, none⟩) (rF (p := ⟨gb287, 0, none⟩) (rT HO285.out BK287.out (by decide)) (fun _ hk => hk.2) (.slice Ao118 t280.length co118)) (fun _ hk => hk.2) (.slice Ao124 t283.length co124)) (fun _ h_ => h_.1))) hb); have n10_ := Am (bB (g := gb227) (o := .cells #[.slice A0_0 l0_0.length c0_0, .slice A0_1 l0_1.length c0_1] 59 (0, 0)) (by (with_reducible repeat (first | refine bN ?_ _ | refine bD ?_ | refine bA ?_ _)); refine blk_far ?_ NB227_287.out _; (with_reducible repeat (first | refine bN ?_ _ | refine bD ?_ | refine bA ?_ _)); refine blk_far ?_ NB227_287.out _; (with_reducible repeat (first | refine bN ?_ _ | refine bD ?_ | refine bA ?_ _)); exact BK227.out) hb); have n11_ := Am (bB (g := gb242) (o := .cells #[.slice Ao22 t235.length co22, .slice Ao25 t238.length co25] 61 (0, 0)) (by (with_reducible repeat (first | refine bN ?_ _ | refine bD ?_ | refine bA ?_ _)); refine blk_far ?_ NB242_287.out _; (with_reducible repeat (first | refine bN ?_ _ | refine bD ?_ | refine bA ?_ _)); refine blk_far ?_ NB242_287.out _; (with_reducible repeat (first | refine bN ?_ _ | refine bD ?_ | refine bA ?_ _)); exact BK242.out) hb); have n12_ := Am (bB (g := gb249) (o := .cells #[.slice Ao29 t267.length co29, .slice Ao33 t268.length co33] 61 (0, 0)) (by (with_reducible repeat (first | refine bN ?_ _ | refine bD ?_ | refine bA ?_ _)); refine blk_far ?_ NB249_287.out _; (with_reducible repeat (first | refine bN ?_ _ | refine bD ?_ | refine bA ?_ _)); refine blk_far ?_ NB249_287.out _; (with_reducible repeat (first | refine bN ?_ _ | refine bD ?_ | refine bA ?_ _)); exact BK249.out) hb); have n13_ := Am (bB (g := gb257) (o := .cells #[.slice Ao36 t250.length co36, .slice Ao41 t253.length co41] 61 (0, 0)) (by (with_reducible repeat (first | refine bN ?_ _ | refine bD ?_ | refine bA ?_ _)); refine blk_far ?_ NB257_287.out _; (with_reducible repeat (first | refine bN ?_ _ | refine bD ?_ | refine bA ?_ _)); refine blk_far ?_ NB257_287.out _; (with_reducible repeat (first | refine bN ?_ _ | refine bD ?_ | refine bA ?_ _)); exact BK257.out) hb); have n14_ := Am (bB (g := gb287) (o := .cells #[.slice Ao118 t280.length co118, .slice Ao124 t283.length co124] 61 (0, 0)) (by (with_reducible repeat (first | refine bN ?_ _ | refine bD ?_ | refine bA ?_ _)); refine blk_put (cs := #[.slice Ao118 t280.length co118, .slice none 0 0]) ?_ 1 _ rfl; (with_reducible repeat (first | refine bN ?_ _ | refine bD ?_ | refine bA ?_ _)); refine blk_put (cs := #[.slice none 0 0, .slice none 0 0]) ?_ 0 _ rfl; (with_reducible repeat (first | refine bN ?_ _ | refine bD ?_ | refine bA ?_ _)); exact BK287.out) hb); have n15_ := Am (bP (by repeat (first | (with_reducible first | exact HB.out | apply oA | apply pN | apply o1 | refine bS ?_ GE227.out | refine bS ?_ GE242.out | refine bS ?_ GE249.out | refine bS ?_ GE257.out | refine bS ?_ GE287.out) | exact HB.out)) hb); clear HO_243000; clear HO_243001; clear HO_250000; clear HO_250001; clear HO_258000; clear HO_258001; clear HO276; clear HO279; clear HO282; clear HO285; clear BK227; clear BK242; clear BK249; clear BK257; clear BK287; clear HB; have HO_243000 := n0_; have HO_243001 := n1_; have HO_250000 := n2_; have HO_250001 := n3_; have HO_258000 := n4_; have HO_258001 := n5_; have HO276 := n6_; have HO279 := n7_; have HO282 := n8_; have HO285 := n9_; have BK227 := n10_; have BK242 := n11_; have BK249 := n12_; have BK257 := n13_; have BK287 := n14_; have HB := n15_; clear n0_ n1_ n2_ n3_ n4_ n5_ n6_ n7_ n8_ n9_ n10_ n11_ n12_ n13_ n14_ n15_; (try clear hb); (try clear hb2); (try clear hk); (try clear hi)))
             go_meet
             case rel => exact ⟨_, (true), (by first | rfl | (simp; done) | (simp [*]; done)), H', ⟨by have := HJ11.out; have := HJ64.out; first | omega | exact Nat.le_refl _⟩, ⟨by (try simp only [hl250000_64]); (try simp only [hl250001_64]); (with_reducible repeat (first | apply rA | apply rN | apply rD)); exact rM HO_243000.out (fun _ hk => ⟨hk.1.1.1, ⟨hk.1.1.2, hk.2⟩⟩)⟩, ⟨by (try simp only [hl250000_64]); (try simp only [hl250001_64]); (with_reducible repeat (first | apply rA | apply rN | apply rD)); exact rM HO_243001.out (fun _ hk => ⟨hk.1.1.1, ⟨hk.1.1.2, hk.2⟩⟩)⟩, ⟨by (try simp only [hl250000_64]); (try simp only [hl250001_64]); (with_reducible repeat (first | apply rA | apply rN | apply rD)); exact rM HO_250000.out (fun _ hk => ⟨hk.1.1.1, ⟨hk.1.1.2, hk.2⟩⟩)⟩, ⟨by (try simp only [hl250000_64]); (try simp only [hl250001_64]); (with_reducible repeat (first | apply rA | apply rN | apply rD)); exact rM HO_250001.out (fun _ hk => ⟨hk.1.1.1, ⟨hk.1.1.2, hk.2⟩⟩)⟩, ⟨by (try simp only [hl250000_64]); (try simp only [hl250001_64]); (with_reducible repeat (first | apply rA | apply rN | apply rD)); exact rM HO_258000.out (fun _ hk => ⟨hk.1.1.1, ⟨hk.1.1.2, hk.2⟩⟩)⟩, ⟨by (try simp only [hl250000_64]); (try simp only [hl250001_64]); (with_reducible repeat (first | apply rA | apply rN | apply rD)); exact rM HO_258001.out (fun _ hk => ⟨hk.1.1.1, ⟨hk.1.1.2, hk.2⟩⟩)⟩, ⟨by (try simp only [hl250000_64]); (try simp only [hl250001_64]); (with_reducible repeat (first | apply rA | apply rN | apply rD)); exact rM HO282.out (fun _ hk => ⟨hk.1.1.1.2, ⟨hk.1.1.2, hk.1.2⟩⟩)⟩, ⟨by (try simp only [hl250000_64]); (try simp only [hl250001_64]); (with_reducible repeat (first | apply rA | apply rN | apply rD)); exact rM HO285.out (fun _ hk => ⟨hk.1.1.1.2, ⟨hk.1.1.2, hk.1.2⟩⟩)⟩, ⟨by (try simp only [hl250000_64]); (try simp only [hl250001_64]); (with_reducible repeat (first | refine bN ?_ _ | refine bD ?_ | refine bA ?_ _)); exact BK227.out⟩, ⟨by (try simp only [hl250000_64]); (try simp only [hl250001_64]); (with_reducible repeat (first | refine bN ?_ _ | refine bD ?_ | refine bA ?_ _)); exact BK242.out⟩, ⟨by (try simp only [hl250000_64]); (try simp only [hl250001_64]); (with_reducible repeat (first | refine bN ?_ _ | refine bD ?_ | refine bA ?_ _)); exact BK249.out⟩, ⟨by (try simp only [hl250000_64]); (try simp only [hl250001_64]); (with_reducible repeat (first | refine bN ?_ _ | refine bD ?_ | refine bA ?_ _)); exact BK257.out⟩, ⟨by (try simp only [hl250000_64]); (try simp only [hl250001_64]); (with_reducible repeat (first | refine bN ?_ _ | refine bD ?_ | refine bA ?_ _)); exact BK287.out⟩, ⟨by repeat (first | (with_reducible first | exact HB.out | apply oA | apply pN | apply o1 | refine bS ?_ GE227.out | refine bS ?_ GE242.out | refine bS ?_ GE249.out | refine bS ?_ GE257.out | refine bS ?_ GE287.out) | exact HB.out)⟩⟩
           case rest =>
            clear HC102
            try clear c1
            try clear c2
            try clear p2
            try clear c3
            try clear c4
            try clear c4b0
            try clear c5
            try clear c6
            try clear c7
            try clear c8
            try clear c9
            try clear c10
            try clear c11
            try clear c12
            try clear c13
            try clear c14
            try clear c23
            try clear c30
            try clear c31
            try clear c37
            try clear c38
            try clear c39
            try clear c42
            try clear c43
            try clear c44
            try clear c45
            try clear c46
            try clear c47
            try clear c48
            try clear c49
            try clear c52
            try clear c53
            try clear c54
            try clear c56
            try clear c57
            try clear c60
            try clear c63
            try clear c71
            try clear c72
            try clear c73
            try clear c76
            try clear c76b0
            try clear c78
            try clear c79
            try clear c80
            try clear c81
            try clear c83
            try clear c84
            try clear c87
            try clear c88
            try clear c89
            try clear c91
            try clear c92
            try clear c95
            try clear c98
            try clear c98b0
            try clear c99
            try clear c99b0
            try clear c99b1
            try clear c103
            try clear c104
            try clear c105
            try clear c110
            try clear c111
            try clear c119
            try clear c120
            try clear c121
            try clear c122
            try clear c126
            try clear c127
            try clear c128
            try clear c129
            try clear c130
            try clear c132
            try clear c133
            try clear c134
            try clear c137
            try clear c138
            try clear c139
            try clear c140
            try clear c142
            try clear c143
            try clear c144
            try clear hcz106_0
            try clear hcz106_1
            try clear hcz108_0
            try clear hcz108_1
            try clear hcz112_0
            try clear hcz112_1
            try clear hcz123_0
            try clear hcz123_1
            try clear hcz131_0
            try clear hcz131_1
            try clear hcz135_0
            try clear hcz135_1
            try clear hcz141_0
            try clear hcz141_1
            try clear hcz145_0
            try clear hcz145_1
            try clear hcz14_0
            try clear hcz14_1
            try clear hcz16_0
            try clear hcz16_1
            try clear hcz24_0
            try clear hcz24_1
            try clear hcz26_0
            try clear hcz26_1
            try clear hcz32_0
            try clear hcz32_1
            try clear hcz40_0
            try clear hcz40_1
            try clear hcz47_0
            try clear hcz47_1
            try clear hcz50_0
            try clear hcz50_1
            try clear hcz55_0
            try clear hcz55_1
            try clear hcz58_0
            try clear hcz58_1
            try clear hcz6_0
            try clear hcz6_1
            try clear hcz74_0
            try clear hcz74_1
            try clear hcz82_0
            try clear hcz82_1
            try clear hcz85_0
            try clear hcz85_1
            try clear hcz90_0
            try clear hcz90_1
            try clear hcz93_0
            try clear hcz93_1
            try clear hfz106_0
            try clear hfz106_1
            try clear hfz108_0
            try clear hfz108_1
            try clear hfz112_0
            try clear hfz112_1
            try clear hfz123_0
            try clear hfz123_1
            try clear hfz131_0
            try clear hfz131_1
            try clear hfz135_0
            try clear hfz135_1
            try clear hfz141_0
            try clear hfz141_1
            try clear hfz145_0
            try clear hfz145_1
            try clear hfz14_0
            try clear hfz14_1
            try clear hfz16_0
            try clear hfz16_1
            try clear hfz24_0
            try clear hfz24_1
            try clear hfz26_0
            try clear hfz26_1
            try clear hfz32_0
            try clear hfz32_1
            try clear hfz40_0
            try clear hfz40_1
            try clear hfz47_0
            try clear hfz47_1
            try clear hfz50_0
            try clear hfz50_1
            try clear hfz55_0
            try clear hfz55_1
            try clear hfz58_0
            try clear hfz58_1
            try clear hfz6_0
            try clear hfz6_1
            try clear hfz74_0
            try clear hfz74_1
            try clear hfz82_0
            try clear hfz82_1
            try clear hfz85_0
            try clear hfz85_1
            try clear hfz90_0
            try clear hfz90_1
            try clear hfz93_0
            try clear hfz93_1
            try clear p2
            obtain ⟨kq, x92_101, rfl, HA, HJ101, HO_243000, HO_243001, HO_250000, HO_250001, HO_258000, HO_258001, HO_288000, HO_288001, BK227, BK242, BK249, BK257, BK287, HB⟩ := hcut
            have hl258000_101 := (Kd.R_reads' HO_258000.out).1
            rw [hl258000_101] at HO_258000
            (try simp only [hl258000_101])
            (try simp only [hl258000_101] at BK227)
            (try simp only [hl258000_101] at BK242)
            (try simp only [hl258000_101] at BK249)
            (try simp only [hl258000_101] at BK257)
            (try simp only [hl258000_101] at BK287)
            (try simp only [hl258000_101] at HO_243000)
            (try simp only [hl258000_101] at HO_243001)
            (try simp only [hl258000_101] at HO_250000)
            (try simp only [hl258000_101] at HO_250001)
            (try simp only [hl258000_101] at HO_258001)
            (try simp only [hl258000_101] at HO_288000)
            (try simp only [hl258000_101] at HO_288001)
            have hl258001_101 := (Kd.R_reads' HO_258001.out).1
            rw [hl258001_101] at HO_258001
            (try simp only [hl258001_101])
            (try simp only [hl258001_101] at BK227)
            (try simp only [hl258001_101] at BK242)
            (try simp only [hl258001_101] at BK249)
            (try simp only [hl258001_101] at BK257)
            (try simp only [hl258001_101] at BK287)
            (try simp only [hl258001_101] at HO_243000)
            (try simp only [hl258001_101] at HO_243001)
            (try simp only [hl258001_101] at HO_250000)
            (try simp only [hl258001_101] at HO_250001)
            (try simp only [hl258001_101] at HO_258000)
            (try simp only [hl258001_101] at HO_288000)
            (try simp only [hl258001_101] at HO_288001)
            cases kq with
            | zero => exact absurd HA.out (by simp [laws_FnExactPagesKeep.j2])
            | succ kj101 =>
             have H := HA.out
             clear HA
             simp only [laws_FnExactPagesKeep.j2] at H
             by_cases c147 : x92_101 = true
             ·subst c147
              have H1 : (some false) = some r := by rw [if_pos rfl] at H; exact H
              clear H
              have H := H1
              clear H1
              exact absurd ((Option.some.inj H).trans hT_.out) (by decide)
             ·replace c147 := Bool.eq_false_iff.mpr c147
              subst c147
              have H1 : ((laws_heldPages.f kj101 t271 t272 1).bind fun t289 => (if t289 < 0 then (some false) else (if t289 = t270 then (some true) else (some false)))) = some r := by rw [if_neg (show ¬ (false = true) by decide)] at H; exact H
              clear H
              have H := H1
              clear H1
              replace H := Option.bind_eq_some_iff.mp H
              obtain ⟨t289, A1480, H⟩ := H
              replace H : (if t289 < 0 then (some false) else (if t289 = t270 then (some true) else (some false))) = some r := H
              have A148 := Am A1480
              clear A1480
              by_cases c149 : t289 < 0
              ·rw [if_pos c149] at H
               have c149b0 : decide (t289 < 0) = true := decide_eq_true c149
               clear c149
               exact absurd ((Option.some.inj H).trans hT_.out) (by decide)
              ·rw [if_neg c149] at H
               have c149b0 : decide (t289 < 0) = false := decide_eq_false c149
               clear c149
               by_cases c150 : t289 = t270
               ·rw [if_pos c150] at H
                have c150b0 : (t289 == t270) = true := beq_iff_eq.mpr c150
                have c150b1 : (t289 != t270) = false := bne_eq_false_iff_eq.mpr c150
                clear c150
                obtain rfl := Option.some.inj H
                have hnb151 := NB257_227.out
                have hnc151 := NB227_257.out
                have hnb152 := NB257_242.out
                have hnc152 := NB242_257.out
                have hnb153 := NB257_249.out
                have hnc153 := NB249_257.out
                have hnb154 := NB257_287.out
                have hnc154 := NB287_257.out
                have hcz155_0 : wc.cell? ⟨gb257, 0, none⟩ = some (.slice Ao36 t271.length co36) := (bC BK257.out 0).trans rfl
                have hcz155_1 : wc.cell? ⟨gb257, 1, none⟩ = some (.slice Ao41 t272.length co41) := (bC BK257.out 1).trans rfl
                have hfz155_0 := bF BK257.out 0
                have hfz155_1 := bF BK257.out 1
                go_wp2_with (first | ((with_reducible refine gate_callee (f := 48) rfl ?_); refine goesL_ (some 95) rfl rfl Try.func48 (by kernel_rfl) rfl #[.agg #[.slice Ao36 t271.length co36, .slice Ao41 t272.length co41], .int .i64 1] rfl (by (try simp only [lM, lC, lN]); first | done | rfl | (simp only [lD, lT]; rfl)) ?_; (with_reducible refine (laws_heldPages.calls kj101 _ _ t271 _ _ t272 1 t289 _ ?side1 ?side2 ?side3 ?side4 A148.out).mono ?_); (case side1 => repeat (first | exact (Kd.R_reads' HO_258000.out).2.2 | (with_reducible refine cA ?_ _) | (with_reducible refine cN ?_ _) | (with_reducible refine cD ?_))); (case side2 => exact (Kd.R_reads' HO_258000.out).2.1); (case side3 => repeat (first | exact (Kd.R_reads' HO_258001.out).2.2 | (with_reducible refine cA ?_ _) | (with_reducible refine cN ?_ _) | (with_reducible refine cD ?_))); (case side4 => exact (Kd.R_reads' HO_258001.out).2.1); rintro e w156 ⟨rfl, hb⟩; refine ⟨_, rfl, ?_⟩; have n0_ := Am (rB (by (with_reducible repeat (first | apply rA | apply rN | apply rD)); exact HO_243000.out) hb); have n1_ := Am (rB (by (with_reducible repeat (first | apply rA | apply rN | apply rD)); exact HO_243001.out) hb); have n2_ := Am (rB (by (with_reducible repeat (first | apply rA | apply rN | apply rD)); exact HO_250000.out) hb); have n3_ := Am (rB (by (with_reducible repeat (first | apply rA | apply rN | apply rD)); exact HO_250001.out) hb); have n4_ := Am (rB (by (with_reducible repeat (first | apply rA | apply rN | apply rD)); exact HO_258000.out) hb); have n5_ := Am (rB (by (with_reducible repeat (first | apply rA | apply rN | apply rD)); exact HO_258001.out) hb); have n6_ := Am (rB (by (with_reducible repeat (first | apply rA | apply rN | apply rD)); exact HO_288000.out) hb); have n7_ := Am (rB (by (with_reducible repeat (first | apply rA | apply rN | apply rD)); exact HO_288001.out) hb); have n8_ := Am (bB (g := gb227) (o := .cells #[.slice A0_0 l0_0.length c0_0, .slice A0_1 l0_1.length c0_1] 59 (0, 0)) (by (with_reducible repeat (first | refine bN ?_ _ | refine bD ?_ | refine bA ?_ _)); exact BK227.out) hb); have n9_ := Am (bB (g := gb242) (o := .cells #[.slice Ao22 t235.length co22, .slice Ao25 t238.length co25] 61 (0, 0)) (by (with_reducible repeat (first | refine bN ?_ _ | refine bD ?_ | refine bA ?_ _)); exact BK242.out) hb); have n10_ := Am (bB (g := gb249) (o := .cells #[.slice Ao29 t267.length co29, .slice Ao33 t268.length co33] 61 (0, 0)) (by (with_reducible repeat (first | refine bN ?_ _ | refine bD ?_ | refine bA ?_ _)); exact BK249.out) hb); have n11_ := Am (bB (g := gb257) (o := .cells #[.slice Ao36 t271.length co36, .slice Ao41 t272.length co41] 61 (0, 0)) (by (with_reducible repeat (first | refine bN ?_ _ | refine bD ?_ | refine bA ?_ _)); exact BK257.out) hb); have n12_ := Am (bB (g := gb287) (o := .cells #[.slice Ao118 t280.length co118, .slice Ao124 t283.length co124] 61 (0, 0)) (by (with_reducible repeat (first | refine bN ?_ _ | refine bD ?_ | refine bA ?_ _)); exact BK287.out) hb); have n13_ := Am (bP (by repeat (first | (with_reducible first | exact HB.out | apply oA | apply pN | apply o1 | refine bS ?_ GE227.out | refine bS ?_ GE242.out | refine bS ?_ GE249.out | refine bS ?_ GE257.out | refine bS ?_ GE287.out) | exact HB.out)) hb); clear HO_243000; clear HO_243001; clear HO_250000; clear HO_250001; clear HO_258000; clear HO_258001; clear HO_288000; clear HO_288001; clear BK227; clear BK242; clear BK249; clear BK257; clear BK287; clear HB; have HO_243000 := n0_; have HO_243001 := n1_; have HO_250000 := n2_; have HO_250001 := n3_; have HO_258000 := n4_; have HO_258001 := n5_; have HO_288000 := n6_; have HO_288001 := n7_; have BK227 := n8_; have BK242 := n9_; have BK249 := n10_; have BK257 := n11_; have BK287 := n12_; have HB := n13_; clear n0_ n1_ n2_ n3_ n4_ n5_ n6_ n7_ n8_ n9_ n10_ n11_ n12_ n13_; (try clear hb); (try clear hb2); (try clear hk); (try clear hi)))
                go_ret
                exact ⟨by first | rfl | (simp [errW_none, errW_some] <;> rfl) | (simp [*, errW_none, errW_some] <;> rfl), by repeat (first | (with_reducible first | exact HB.out | apply oA | apply pN | apply o1 | refine bS ?_ GE227.out | refine bS ?_ GE242.out | refine bS ?_ GE249.out | refine bS ?_ GE257.out | refine bS ?_ GE287.out) | exact HB.out)⟩
               ·rw [if_neg c150] at H
                have c150b0 : (t289 == t270) = false := beq_eq_false_iff_ne.mpr c150
                have c150b1 : (t289 != t270) = true := bne_iff_ne.mpr c150
                exact absurd ((Option.some.inj H).trans hT_.out) (by decide)
          ·rw [if_neg c99] at H
           have c99b0 : (t273 == t270) = false := beq_eq_false_iff_ne.mpr c99
           have c99b1 : (t273 != t270) = true := bne_iff_ne.mpr c99
           exact absurd ((Option.some.inj H).trans hT_.out) (by decide)
     ·replace c63 := Bool.eq_false_iff.mpr c63
      subst c63
      have H1 : (some false) = some r := by rw [if_neg (show ¬ (false = true) by decide)] at H; exact H
      clear H
      have H := H1
      clear H1
      exact absurd ((Option.some.inj H).trans hT_.out) (by decide)

/-- THE ONE PURE STATEMENT of laws_FnExactPagesKeep. -/
def laws_FnExactPagesKeep.Pure : Prop := ∀ (l0_0 : List ByteArray) (l0_1 : List Int) (a1 : Int), l0_0.length ≤ 9223372036854775807 → (∀ x0_ ∈ l0_0, x0_.size ≤ maxLen) → l0_1.length ≤ 9223372036854775807 → (∀ x0_ ∈ l0_1, (Lit.int .i64 x0_).wf = true) → (Lit.int .i64 a1).wf = true → ∃ k, laws_FnExactPagesKeep.f k l0_0 l0_1 a1 = some true

end Go.Proofs.Ytehekikjadjdaaa.PFnExactPagesKeep
