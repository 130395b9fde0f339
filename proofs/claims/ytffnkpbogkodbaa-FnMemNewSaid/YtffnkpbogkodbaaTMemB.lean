/- Proved here, without a condition beyond those that each theorem states: impl.Mem.spare finds place 0 in a new memory. -/
import Derived.Test.YtffnkpbogkodbaaTMemA
namespace Go.Proofs.Ytffnkpbogkodbaa.PFnMemNew
open Go.RowKit Go.Proofs.YtffnkpbogkodbaaW.PrintWords Go.Proofs.YtffnkpbogkodbaaW.PrintLast Go.Proofs.YtffnkpbogkodbaaW.PrintMore
set_option linter.unusedVariables false
set_option maxHeartbeats 2000000 in
set_option maxRecDepth 100000 in
theorem mem_free1 (A1 A2 : Option Addr) (c1 c2 : Nat) (w : World) :
  Calls Try.prog 61 #[.agg #[.bool false, .slice A1 0 c1, .slice A2 0 c2]] w fun e w' => e = .returned (.bool true) ∧ Below w.heap.size w w' := by
  have hu73 := Try.underlying73
  have HB := Am (Below.refl w.heap.size w)
  go_enter Try.func61, Try.ntmps61
  go_wp2
  go_ret
  exact ⟨rfl, by repeat (first | exact HB.out | apply oA)⟩
set_option maxHeartbeats 2000000 in
set_option maxRecDepth 100000 in
theorem mem_index (A : Option Addr) (c : Nat) (w : World) (hr : Kd.C k73 w A 5 S5) :
  Calls Try.prog 60 #[.slice A 5 c, .func (.func 61) #[] #[]] w fun e w' => e = .returned (.int .i64 0) ∧ Below w.heap.size w w' := by
  have hu73 := Try.underlying73
  have hu36 := Try.underlying36
  have hu3 := Try.underlying3
  have HR := Am hr
  clear hr
  have HB := Am (Below.refl w.heap.size w)
  go_enter Try.func60, Try.ntmps60
  go_wp2
  go_loopg [5, 8] 9 (fun kq v5 v8 w' => ∃ x : Int, v8 = .int .i64 x ∧ Aside0 (x = 0) ∧ Aside0 (Below w.heap.size w w'))
  case atStart => exact ⟨0, rfl, ⟨rfl⟩, HB⟩
  case round =>
    obtain ⟨x, rfl, H0, BW⟩ := hrel
    have q0 : 0 ≤ x := by have := H0.out; omega
    have q1 : x < 5 := by have := H0.out; omega
    obtain ⟨ad, A1, c1, A2, c2, e, hx0, hx1, hx2, _⟩ := at_T73 (cB HR.out BW.out) x q0 q1
    cases e
    rw [rd_S5] at hx0 hx1 hx2
    have f1 : decide (x < 5) = true := decide_eq_true q1
    have p1 := eq_true q0
    have p2 := eq_true q1
    have hcall := Am (mem_free1 A1 A2 c1 c2 wr)
    clear q0 q1
    repeat go_step
    refine hcall.out.mono ?_
    rintro e w' ⟨rfl, hb'⟩
    have hb2 := Am (bP BW.out hb')
    clear hcall hb' BW
    go_wp2
    go_ret
    exact ⟨by rw [H0.out]; rfl, hb2.out⟩
set_option maxHeartbeats 2000000 in
set_option maxRecDepth 100000 in
theorem mem_spare (A0 A1 A2 A3 A4 : Option Addr) (c0 c1 c2 c3 c4 : Nat) (w : World) (h4 : Kd.C k73 w A4 5 S5) :
    Calls Try.prog 33 #[.agg #[.slice A0 12 c0, .slice A1 12 c1, .slice A2 12 c2, .slice A3 12 c3, .slice A4 5 c4, .int .i64 0]] w fun e w' => e = .returned (.int .i64 0) ∧ Below w.heap.size w w' := by
  have hu38 := Try.underlying38
  have hu36 := Try.underlying36
  have HI := Am (fun W (h : Kd.C k73 W A4 5 S5) => mem_index A4 c4 W h)
  have HR := Am h4
  clear h4
  have HB := Am (Below.refl w.heap.size w)
  go_enter Try.func33, Try.ntmps33
  repeat go_step
  refine (HI.out _ (cA HR.out _)).mono ?_
  rintro e w' ⟨rfl, hb'⟩
  have hb2 := Am (bP (oA HB.out _) hb')
  clear hb'
  go_wp2
  go_ret
  exact ⟨rfl, hb2.out⟩
end Go.Proofs.Ytffnkpbogkodbaa.PFnMemNew
