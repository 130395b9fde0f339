/- Proved here, without a condition beyond those that each theorem states: what the Go functions named below do is what the plain functions of the same names say. Written by xprint.py, a program of this session. -/
import Derived.Test.YtehekikjadjdaaaRows
import Derived.Test.YtehekikjadjdaaaPFnExactSigsRunx12
import Derived.Test.YtehekikjadjdaaaPureFnExactSigsRun
import Derived.Test.YtehekikjadjdaaaOpensFnExactSigsRun
import Derived.WalkKit
import Derived.ProofKit
import Derived.OpenShut
import Derived.ShutString
import Derived.ChangeOld
import Derived.Below
import Derived.SizedLaws
namespace Go.Proofs.Ytehekikjadjdaaa.fnExactSigsRun
open Go.ChangeShapes Go.WideShapes Go.ChangeAt Go.RowKit Go.Proofs.Ytehekikjadjdaaa.Aux Go.Proofs.Ytehekikjadjdaaa.PFnExactSigsRun Go.Proofs.YtehekikjadjdaaaW.PrintWords
open Go.ChangeMaps (open_string shut_string)
set_option linter.unusedVariables false
theorem own : ownKnob Try.prog.godebug = none := by kernel_rfl
theorem laidOut : laidOutB Try.prog = true := by kernel_rfl
set_option maxRecDepth 100000 in
theorem lifted (os : Os) (started : os.Started) (H : Type) (enc : TypeId × Value → H) :
    ReturnsInHanded {} Try.checked os 6 .any (Rows.fnExactSigsRunSpec.pre6 enc Try.prog Try.f6 Rows.fnExactSigsRunRow.domain false) (Rows.fnExactSigsRunSpec.post enc Try.prog Try.f6 false true false false) := by
  refine returnsInHanded_of_change_sized (C := Try.checked) own started (by kernel_rfl) Try.func6
    (ChangeSpec.witness6 (enc := enc) (C := Try.checked) false ⟨#[], #[.agg #[.slice none 0 0, .slice none 0 0, .slice none 0 0]], []⟩ 8 (by kernel_rfl) (by kernel_rfl) (by kernel_rfl) (by kernel_rfl)) ?_
  intro W base args ds gs before hval0 hW hcnd hsz0 _
  have hval : ∀ (j : Nat) t v, Try.f6.params[j]? = some t → args[j]? = some v → Value.okWide Try.prog W .any base t v := hval0
  have hW' := hW
  obtain ⟨p, q, hA0, hV, rfl, hfz, hnd⟩ := hW
  have hA : DataW.TrodAll enc Try.prog W 0 (fun _ => true) true Try.f6.params.toList args.toList ds p := hA0
  rw [Try.params6] at hA hval
  obtain ⟨v0, vs0, d0, ds0, p0, q0, hargs, rfl, rfl, h0, r0⟩ := trodAll_cons hA
  obtain ⟨rfl, rfl, rfl⟩ := trodAll_nil r0
  obtain rfl : args = #[v0] := by cases args; simp_all
  obtain ⟨rfl, rfl⟩ := trodVars_none hV
  have kk0 := h0
  have lt0 : ∀ x ∈ p0, x.block < W.heap.size := by obtain ⟨m, hm⟩ := kk0; exact DataW.trod_lt m _ _ _ hm
  obtain ⟨cs0, rfl, hz0⟩ := okWide_struct Try.underlying25 (hval 0 25 v0 rfl rfl)
  obtain ⟨⟨l0_0, l0_1, l0_2⟩, K0, o0⟩ := h0.elim fun fuel_ hf_ => (opens_struct Try.underlying25 (by kernel_rfl) (opensL_cons rfl (by kernel_rfl) (opens_slice Try.underlying22 (by kernel_rfl) (opens_bool Try.underlying4)) (opensL_cons rfl (by kernel_rfl) (opens_slice Try.underlying22 (by kernel_rfl) (opens_bool Try.underlying4)) (opensL_one rfl (by kernel_rfl) (opens_slice Try.underlying23 (by kernel_rfl) (opens_int Try.underlying3)))))) fuel_ _ _ hf_
  obtain ⟨_, _, he, ⟨A0_0, c0_0, rfl, hc0_0, hr0_0⟩, ⟨_, _, rfl, ⟨A0_1, c0_1, rfl, hc0_1, hr0_1⟩, ⟨A0_2, c0_2, rfl, hc0_2, hr0_2⟩⟩⟩ := K0
  obtain rfl : cs0 = #[.slice A0_0 l0_0.length c0_0, .slice A0_1 l0_1.length c0_1, .slice A0_2 l0_2.length c0_2] := by
    apply Array.toList_inj.1
    exact he
  clear he
  have o0' : ((∀ x0_ ∈ l0_0, True) ∧ ((∀ x0_ ∈ l0_1, True) ∧ ((∀ x0_ ∈ l0_2, (Lit.int .i64 x0_).wf = true)))) := o0
  obtain ⟨o_0_0, o_0_1, o_0_2⟩ := o0'
  clear hA0 hval0 hsz0
  have hP := Pure.FnExactSigsRun l0_0 l0_1 l0_2 hr0_0.2.1 o_0_0 hr0_1.2.1 o_0_1 hr0_2.2.1 o_0_2
  obtain ⟨k_, hk_⟩ := hP
  refine (laws_FnExactSigsRun.calls k_ _ _ l0_0 _ _ l0_1 _ _ l0_2 true W hr0_0 hc0_0 hr0_1 hc0_1 hr0_2 hc0_2 hk_ ⟨rfl⟩).mono fun e W' hp_ => ?_
  obtain ⟨he, bel0⟩ := hp_
  have bel : Below W.heap.size W W' := bel0
  subst he
  exact ⟨_, rfl, _, _, _, [], _, [], hW', trodAll_mk1 (shut_bool Try.underlying4 _), (trodAll_cons_mk (Below.trod laidOut (by kernel_rfl) (of_decide_eq_true (by kernel_rfl)) kk0 bel lt0) trodAll_mk0), rfl, bel.frame _, fun h => by cases h⟩
theorem over : Rows.fnExactSigsRunRow.holds Try.pinned (OpenSpec.ofChange Rows.fnExactSigsRunSpec) :=
  OpenClaim.holds_of_wide 6 Try.f6 rfl rfl rfl rfl rfl rfl rfl ⟨rfl, rfl, rfl, rfl, rfl⟩ rfl rfl rfl rfl rfl (by kernel_rfl) Try.func6 (by kernel_rfl)
    (of_decide_eq_true (by kernel_rfl)) (by unfold Func.isWrapper; first | (rw [if_pos (by decide +kernel)]; kernel_rfl) | (rw [if_neg (by decide +kernel)]; exact ⟨rfl, rfl⟩))
    (fun os started H enc _ => lifted os started H enc)
theorem proved : Rows.FnExactSigsRunSaid := over
#print axioms proved
end Go.Proofs.Ytehekikjadjdaaa.fnExactSigsRun
namespace Go.Proofs.Ytehekikjadjdaaa
/-- The row, under a short name, for the claim. -/
theorem fnExactSigsRun_holds : Rows.FnExactSigsRunSaid := fnExactSigsRun.proved
end Go.Proofs.Ytehekikjadjdaaa
