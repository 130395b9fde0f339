/- Proved here, without a condition beyond those that each theorem states: what the searches of impl.free and impl.named do in a net of zeros. -/
import Derived.Test.YtffnkpbogkodbaaTNet
namespace Go.Proofs.Ytffnkpbogkodbaa.PFnNetNew
open Go.RowKit Go.Proofs.YtffnkpbogkodbaaW.PrintWords Go.Proofs.YtffnkpbogkodbaaW.PrintLast Go.Proofs.YtffnkpbogkodbaaW.PrintMore
set_option linter.unusedVariables false
set_option maxHeartbeats 2000000 in
set_option maxRecDepth 100000 in
theorem net_free1 (A5 : Option Addr) (c5 : Nat) (w : World) :
  Calls Try.prog 55 #[.agg #[.int .i64 0, .string ⟨#[]⟩, .int .i64 0, .string ⟨#[]⟩, .bool false, .slice A5 0 c5]] w fun e w' => e = .returned (.bool true) ∧ Below w.heap.size w w' := by
  have hu62 := Try.underlying62
  have hu3 := Try.underlying3
  have HB := Am (Below.refl w.heap.size w)
  go_enter Try.func55, Try.ntmps55
  go_wp2
  go_ret
  exact ⟨rfl, by repeat (first | exact HB.out | apply oA)⟩
set_option maxHeartbeats 2000000 in
set_option maxRecDepth 100000 in
theorem net_named1 (A5 : Option Addr) (c5 : Nat) (p : Addr) (w : World) :
  Calls Try.prog 56 #[.agg #[.int .i64 0, .string ⟨#[]⟩, .int .i64 0, .string ⟨#[]⟩, .bool false, .slice A5 0 c5], .pointer (some p)] w fun e w' => e = .returned (.bool false) ∧ Below w.heap.size w w' := by
  have hu62 := Try.underlying62
  have hu3 := Try.underlying3
  have hu9 := Try.underlying9
  have HB := Am (Below.refl w.heap.size w)
  go_enter Try.func56, Try.ntmps56
  go_wp2
  go_ret
  exact ⟨rfl, by repeat (first | exact HB.out | apply oA)⟩
set_option maxHeartbeats 2000000 in
set_option maxRecDepth 100000 in
theorem net_index0 (A : Option Addr) (c : Nat) (l : List S62) (w : World) (hr : Kd.C k62 w A 8 l) (h8 : l.length = 8) (hz : l.all zeroS = true) :
  Calls Try.prog 54 #[.slice A 8 c, .func (.func 55) #[] #[]] w fun e w' => e = .returned (.int .i64 0) ∧ Below w.heap.size w w' := by
  have hu62 := Try.underlying62
  have hu23 := Try.underlying23
  have hu3 := Try.underlying3
  have hz0 := Am (zero_at hz h8 0 (by decide) (by decide))
  have HR := Am hr
  clear hr h8 hz
  have HB := Am (Below.refl w.heap.size w)
  go_enter Try.func54, Try.ntmps54
  go_wp2
  go_loopg [5, 8] 9 (fun kq v5 v8 w' => ∃ x : Int, v8 = .int .i64 x ∧ Aside0 (x = 0) ∧ Aside0 (Below w.heap.size w w') ∧ Aside0 (k62.C w' A 8 l))
  case atStart => exact ⟨0, rfl, ⟨rfl⟩, HB, HR⟩
  case round =>
    obtain ⟨x, rfl, H0, BW, HC⟩ := hrel
    have q0 : 0 ≤ x := by have := H0.out; omega
    have q1 : x < 8 := by have := H0.out; omega
    obtain ⟨ad, A5, c5, e, hx0, hx1, hx2, hx3, hx4, hx5, l5, g5⟩ := at_T62 HC.out x q0 q1
    cases e
    have hzx : rd_T62 l x = ⟨0, ⟨#[]⟩, 0, ⟨#[]⟩, false, []⟩ := by rw [H0.out]; exact hz0.out
    rw [hzx] at hx0 hx1 hx2 hx3 hx4 hx5
    have c1 : decide (x < 8) = true := decide_eq_true q1
    have p1 := eq_true q0
    have p2 := eq_true q1
    have hcall := Am (net_free1 A5 c5 wr)
    clear l5 g5 hzx q0 q1
    repeat go_step
    refine hcall.out.mono ?_
    rintro e w' ⟨rfl, hb'⟩
    have hb2 := Am (bP BW.out hb')
    clear hcall hb' BW
    go_wp2
    go_ret
    exact ⟨by rw [H0.out]; rfl, hb2.out⟩
set_option maxHeartbeats 2000000 in
set_option maxRecDepth 100000 in
theorem net_index1 (A : Option Addr) (c : Nat) (l : List S62) (p : Addr) (w : World) (hr : Kd.C k62 w A 8 l) (h8 : l.length = 8) (hz : l.all zeroS = true) :
  Calls Try.prog 54 #[.slice A 8 c, .func (.func 56) #[] #[.pointer (some p)]] w fun e w' => e = .returned (.int .i64 (-1)) ∧ Below w.heap.size w w' := by
  have hu62 := Try.underlying62
  have hu23 := Try.underlying23
  have hu3 := Try.underlying3
  have HZ := Am (fun (i : Int) (h0 : 0 ≤ i) (h1 : i < 8) => zero_at hz h8 i h0 h1)
  have HR := Am hr
  clear hr h8 hz
  have HB := Am (Below.refl w.heap.size w)
  go_enter Try.func54, Try.ntmps54
  go_wp2
  go_loopg [5, 8] 9 (fun kq v5 v8 w' => ∃ x : Int, v8 = .int .i64 x ∧ Aside0 (0 ≤ x) ∧ Aside0 (x ≤ 8) ∧ Aside0 (8 - x.toNat ≤ kq) ∧ Aside0 (Below w.heap.size w w') ∧ Aside0 (k62.C w' A 8 l))
  case atStart => exact ⟨0, rfl, ⟨by omega⟩, ⟨by omega⟩, ⟨by omega⟩, HB, HR⟩
  case round =>
    obtain ⟨x, rfl, H0, H1, H2, BW, HC⟩ := hrel
    by_cases hlt : x < 8
    · obtain ⟨ad, A5, c5, e, hx0, hx1, hx2, hx3, hx4, hx5, l5, g5⟩ := at_T62 HC.out x H0.out hlt
      cases e
      have hz := HZ.out x H0.out hlt
      rw [hz] at hx0 hx1 hx2 hx3 hx4 hx5
      have c1 : decide (x < 8) = true := decide_eq_true hlt
      have p1 := eq_true H0.out
      have p2 := eq_true hlt
      have H3 := Am hlt
      have hcall := Am (net_named1 A5 c5 p wr)
      clear hlt hz l5 g5
      repeat go_step
      refine hcall.out.mono ?_
      rintro e w' ⟨rfl, hb'⟩
      have hb2 := Am (bP BW.out hb')
      have hc2 := Am (cB HC.out hb')
      clear hcall hb' BW HC
      go_wp2
      go_roundg (8 - (x.toNat + 1))
      case measure => have := H0.out; have := H2.out; have := H3.out; omega
      case rel =>
        have h0 := H0.out
        have h3 := H3.out
        have hw : wrap64 (x + 1) = x + 1 := by unfold wrap64; omega
        exact ⟨wrap64 (x + 1), rfl, ⟨by omega⟩, ⟨by omega⟩, ⟨by omega⟩, hb2, hc2⟩
    · have c1 : decide (x < 8) = false := decide_eq_false hlt
      clear hlt
      go_wp2
      go_ret
      exact ⟨rfl, BW.out⟩
end Go.Proofs.Ytffnkpbogkodbaa.PFnNetNew
