/- Proved here, without a condition beyond those that each theorem states: strings.indexFunc finds no bad letter in the name a. -/
import Derived.Test.YtffnkpbogkodbaaTNetC
import Derived.Lib.OthersKept
namespace Go.Proofs.Ytffnkpbogkodbaa.PFnNetNew
open Go.RowKit Go.Proofs.YtffnkpbogkodbaaW.PrintWords Go.Proofs.YtffnkpbogkodbaaW.PrintLast Go.Proofs.YtffnkpbogkodbaaW.PrintMore
set_option linter.unusedVariables false
set_option maxHeartbeats 2000000 in
set_option maxRecDepth 100000 in
theorem net_letter (w : World) : Calls Try.prog 51 #[.int .i32 97] w fun e w' => e = .returned (.bool false) ∧ Below w.heap.size w w' := by
  have hu21 := Try.underlying21
  have HB := Am (Below.refl w.heap.size w)
  go_enter Try.func51, Try.ntmps51
  go_wp2
  go_ret
  exact ⟨rfl, by repeat (first | exact HB.out | apply oA)⟩
set_option maxHeartbeats 2000000 in
set_option maxRecDepth 100000 in
theorem net_indexFunc (w : World) : Calls Try.prog 78 #[.string ⟨#[97]⟩, .func (.func 51) #[] #[], .bool true] w fun e w' => e = .returned (.int .i64 (-1)) ∧ Below w.heap.size w w' := by
  have hu9 := Try.underlying9
  have hu4 := Try.underlying4
  have HB := Am (Below.refl w.heap.size w)
  go_enter Try.func78, Try.ntmps78
  go_wp2
  go_loopg [] 1 (fun g wx => ∃ pos : Nat, wx.heap[w.heap.size]? = some (.stringIter ⟨#[97]⟩ pos) ∧ Below w.heap.size w wx ∧ pos ≤ 1 ∧ 1 ≤ pos + g)
  case atStart => exact ⟨0, World.iter_heap w _ 0, (Below.refl _ w).alloc (Nat.le_refl _) _, by omega, by omega⟩
  case round =>
    obtain ⟨pos, hit, hbw, hp1, hfu⟩ := hrel
    have hsz : w.heap.size < wr.heap.size := (Array.getElem?_eq_some_iff.1 hit).1
    by_cases hp : pos < 1
    · have e0 : pos = 0 := by omega
      subst e0
      have hnx : ∀ ty, (Instr.next (.pointer (some ⟨w.heap.size, 0, none⟩)) true ty).run Try.prog wr = _ := fun ty => Lib.run_next_any_at wr w.heap.size ⟨#[97]⟩ 0 ty hit (by decide)
      have hd : Utf8.decode ⟨#[97]⟩ 0 = (97, 1) := by kernel_rfl
      rw [hd] at hnx
      have hit2 := Lib.iterAt_heap wr w.heap.size ⟨#[97]⟩ 0 (0 + 1) hit
      have hbw2 := Lib.below_iterAt hbw (k := w.heap.size) (Nat.le_refl _) ⟨#[97]⟩ (0 + 1)
      obtain ⟨W, hWd⟩ : ∃ W, wr.iterAt w.heap.size ⟨#[97]⟩ (0 + 1) = W := ⟨_, rfl⟩
      simp only [hWd] at hnx hit2 hbw2
      have cS := net_letter W
      have hWs : w.heap.size < W.heap.size := (Array.getElem?_eq_some_iff.1 hit2).1
      obtain ⟨g, rfl⟩ : ∃ g, gk = g + 1 := ⟨gk - 1, by omega⟩
      go_wp2_with (go_at_call 51; refine cS.mono ?_; rintro e W' ⟨rfl, hb⟩)
      go_roundg g
      case measure => omega
      case rel => exact ⟨1, (hb.block w.heap.size hWs).trans hit2, hbw2.trans (hb.mono (by omega)), by omega, by omega⟩
    · have hnx : ∀ ty, (Instr.next (.pointer (some ⟨w.heap.size, 0, none⟩)) true ty).run Try.prog wr = _ := fun ty => Lib.run_next_end_at wr w.heap.size ⟨#[97]⟩ pos ty hit (by show ¬ pos < 1; exact hp)
      go_wp2
      go_ret
      exact ⟨rfl, hbw⟩
end Go.Proofs.Ytffnkpbogkodbaa.PFnNetNew
