/- Proved here, without a condition beyond those that each theorem states: what the Go functions named below do is what the plain functions of the same names say. Written by xprint.py, a program of this session. -/
import Derived.Test.YtehekikjadjdaaaRows
import Derived.Test.YtehekikjadjdaaaPFnExactQueueLessx12
import Derived.Test.YtehekikjadjdaaaPureFnExactQueueLess
import Derived.Test.YtehekikjadjdaaaOpensFnExactQueueLess
import Derived.WalkKit
import Derived.ProofKit
import Derived.OpenShut
import Derived.ShutString
import Derived.ChangeOld
import Derived.Below
import Derived.SizedLaws
namespace Go.Proofs.Ytehekikjadjdaaa.fnExactQueueLess
open Go.ChangeShapes Go.WideShapes Go.ChangeAt Go.RowKit Go.Proofs.Ytehekikjadjdaaa.Aux Go.Proofs.Ytehekikjadjdaaa.PFnExactQueueLess Go.Proofs.YtehekikjadjdaaaW.PrintWords
open Go.ChangeMaps (open_string shut_string)
set_option linter.unusedVariables false
theorem own : ownKnob Try.prog.godebug = none := by kernel_rfl
theorem laidOut : laidOutB Try.prog = true := by kernel_rfl
set_option maxRecDepth 100000 in
theorem lifted (os : Os) (started : os.Started) (H : Type) (enc : TypeId × Value → H) :
    ReturnsInHanded {} Try.checked os 9 .any (Rows.fnExactQueueLessSpec.pre6 enc Try.prog Try.f9 Rows.fnExactQueueLessRow.domain false) (Rows.fnExactQueueLessSpec.post enc Try.prog Try.f9 false true false false) := by
  refine returnsInHanded_of_change_sized (C := Try.checked) own started (by kernel_rfl) Try.func9
    (ChangeSpec.witness6 (enc := enc) (C := Try.checked) false ⟨#[], #[.agg #[.slice none 0 0, .int .i64 0], .int .i64 0], []⟩ 8 (by kernel_rfl) (by kernel_rfl) (by kernel_rfl) (by kernel_rfl)) ?_
  intro W base args ds gs before hval0 hW hcnd hsz0 _
  have hval : ∀ (j : Nat) t v, Try.f9.params[j]? = some t → args[j]? = some v → Value.okWide Try.prog W .any base t v := hval0
  have hW' := hW
  obtain ⟨p, q, hA0, hV, rfl, hfz, hnd⟩ := hW
  have hA : DataW.TrodAll enc Try.prog W 0 (fun _ => true) true Try.f9.params.toList args.toList ds p := hA0
  rw [Try.params9] at hA hval
  obtain ⟨v0, vs0, d0, ds0, p0, q0, hargs, rfl, rfl, h0, r0⟩ := trodAll_cons hA
  obtain ⟨v1, vs1, d1, ds1, p1, q1, rfl, rfl, rfl, h1, r1⟩ := trodAll_cons r0
  obtain ⟨rfl, rfl, rfl⟩ := trodAll_nil r1
  obtain rfl : args = #[v0, v1] := by cases args; simp_all
  obtain ⟨rfl, rfl⟩ := trodVars_none hV
  have kk0 := h0
  have lt0 : ∀ x ∈ p0, x.block < W.heap.size := by obtain ⟨m, hm⟩ := kk0; exact DataW.trod_lt m _ _ _ hm
  obtain ⟨cs0, rfl, hz0⟩ := okWide_struct Try.underlying43 (hval 0 43 v0 rfl rfl)
  obtain ⟨⟨l0_0, a0_1⟩, K0, o0⟩ := h0.elim fun fuel_ hf_ => (opens_struct Try.underlying43 (by kernel_rfl) (opensL_cons rfl (by kernel_rfl) (opens_slice Try.underlying41 (by kernel_rfl) (opens_iso (f := fun x : S108 => (x.f0, x.f1, x.f2, x.f3)) (fun z => (⟨z.1, z.2.1, z.2.2.1, z.2.2.2⟩ : S108)) (fun _ => rfl) (opens_struct Try.underlying108 (by kernel_rfl) (opensL_cons rfl (by kernel_rfl) (opens_int Try.underlying3) (opensL_cons rfl (by kernel_rfl) (opens_int Try.underlying3) (opensL_cons rfl (by kernel_rfl) (opens_int Try.underlying3) (opensL_one rfl (by kernel_rfl) (opens_bool Try.underlying4)))))))) (opensL_one rfl (by kernel_rfl) (opens_int Try.underlying3)))) fuel_ _ _ hf_
  obtain ⟨_, _, he, ⟨A0_0, c0_0, rfl, hc0_0, hr0_0⟩, rfl⟩ := K0
  obtain rfl : cs0 = #[.slice A0_0 l0_0.length c0_0, .int .i64 a0_1] := by
    apply Array.toList_inj.1
    exact he
  clear he
  have o0' : ((∀ x0_ ∈ l0_0, ((Lit.int .i64 x0_.f0).wf = true ∧ ((Lit.int .i64 x0_.f1).wf = true ∧ ((Lit.int .i64 x0_.f2).wf = true ∧ (True))))) ∧ ((Lit.int .i64 a0_1).wf = true)) := o0
  obtain ⟨o_0_0, o_0_1⟩ := o0'
  obtain ⟨a1, rfl, rfl, rfl, o_1⟩ := open_int Try.underlying3 (hval 1 3 v1 rfl rfl) h1
  clear hA0 hval0 hsz0
  have hP := Pure.FnExactQueueLess l0_0 a0_1 a1 hr0_0.2.1 o_0_0 o_0_1 o_1
  obtain ⟨k_, hk_⟩ := hP
  refine (laws_FnExactQueueLess.calls k_ _ _ l0_0 a0_1 a1 true W hr0_0 hc0_0 hk_ ⟨rfl⟩).mono fun e W' hp_ => ?_
  obtain ⟨he, bel0⟩ := hp_
  have bel : Below W.heap.size W W' := bel0
  subst he
  exact ⟨_, rfl, _, _, _, [], _, [], hW', trodAll_mk1 (shut_bool Try.underlying4 _), (trodAll_cons_mk (Below.trod laidOut (by kernel_rfl) (of_decide_eq_true (by kernel_rfl)) kk0 bel lt0) (trodAll_cons_mk (shut_int Try.underlying3 o_1) trodAll_mk0)), rfl, bel.frame _, fun h => by cases h⟩
theorem over : Rows.fnExactQueueLessRow.holds Try.pinned (OpenSpec.ofChange Rows.fnExactQueueLessSpec) :=
  OpenClaim.holds_of_wide 9 Try.f9 rfl rfl rfl rfl rfl rfl rfl ⟨rfl, rfl, rfl, rfl, rfl⟩ rfl rfl rfl rfl rfl (by kernel_rfl) Try.func9 (by kernel_rfl)
    (of_decide_eq_true (by kernel_rfl)) (by unfold Func.isWrapper; first | (rw [if_pos (by decide +kernel)]; kernel_rfl) | (rw [if_neg (by decide +kernel)]; exact ⟨rfl, rfl⟩))
    (fun os started H enc _ => lifted os started H enc)
theorem proved : Rows.FnExactQueueLessSaid := over
#print axioms proved
end Go.Proofs.Ytehekikjadjdaaa.fnExactQueueLess
namespace Go.Proofs.Ytehekikjadjdaaa
/-- The row, under a short name, for the claim. -/
theorem fnExactQueueLess_holds : Rows.FnExactQueueLessSaid := fnExactQueueLess.proved
end Go.Proofs.Ytehekikjadjdaaa
