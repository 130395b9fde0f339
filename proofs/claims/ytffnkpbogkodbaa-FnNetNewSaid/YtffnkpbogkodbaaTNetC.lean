/- Proved here, without a condition beyond those that each theorem states: impl.free and impl.named of a net of zeros. -/
import Derived.Test.YtffnkpbogkodbaaTNetB
namespace Go.Proofs.Ytffnkpbogkodbaa.PFnNetNew
open Go.RowKit Go.Proofs.YtffnkpbogkodbaaW.PrintWords Go.Proofs.YtffnkpbogkodbaaW.PrintLast Go.Proofs.YtffnkpbogkodbaaW.PrintMore
set_option linter.unusedVariables false
set_option maxHeartbeats 2000000 in
set_option maxRecDepth 100000 in
theorem net_free (A : Option Addr) (c : Nat) (l : List S62) (w : World) (hr : Kd.C k62 w A 8 l) (h8 : l.length = 8) (hz : l.all zeroS = true) :
  Calls Try.prog 25 #[.agg #[.slice A 8 c]] w fun e w' => e = .returned (.int .i64 0) ∧ Below w.heap.size w w' := by
  have hu25 := Try.underlying25
  have hu23 := Try.underlying23
  have HB := Am (Below.refl w.heap.size w)
  have HI := Am (fun W (h : Kd.C k62 W A 8 l) => net_index0 A c l W h h8 hz)
  have HR := Am hr
  clear hr h8 hz
  go_enter Try.func25, Try.ntmps25
  repeat go_step
  refine (HI.out _ (cA HR.out _)).mono ?_
  rintro e w' ⟨rfl, hb'⟩
  have hb2 := Am (bP (oA HB.out _) hb')
  clear hb'
  go_wp2
  go_ret
  exact ⟨rfl, hb2.out⟩
set_option maxHeartbeats 2000000 in
set_option maxRecDepth 100000 in
theorem net_named (A : Option Addr) (c : Nat) (l : List S62) (s : ByteArray) (w : World) (hr : Kd.C k62 w A 8 l) (h8 : l.length = 8) (hz : l.all zeroS = true) :
  Calls Try.prog 26 #[.agg #[.slice A 8 c], .string s] w fun e w' => e = .returned (.int .i64 (-1)) ∧ Below w.heap.size w w' := by
  have hu25 := Try.underlying25
  have hu23 := Try.underlying23
  have hu9 := Try.underlying9
  have HB := Am (Below.refl w.heap.size w)
  have HI := Am (fun W p (h : Kd.C k62 W A 8 l) => net_index1 A c l p W h h8 hz)
  have HR := Am hr
  clear hr h8 hz
  go_enter Try.func26, Try.ntmps26
  repeat go_step
  refine (HI.out _ _ (cA (cA HR.out _) _)).mono ?_
  rintro e w' ⟨rfl, hb'⟩
  have hb2 := Am (bP (oA (oA HB.out _) _) hb')
  clear hb'
  go_wp2
  go_ret
  exact ⟨rfl, hb2.out⟩
end Go.Proofs.Ytffnkpbogkodbaa.PFnNetNew
