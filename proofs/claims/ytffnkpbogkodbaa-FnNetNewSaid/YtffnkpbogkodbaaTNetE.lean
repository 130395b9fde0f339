/- Proved here, without a condition beyond those that each theorem states: impl.nameOk says yes to the name a. -/
import Derived.Test.YtffnkpbogkodbaaTNetD
import Derived.StillTailTactics
namespace Go.Proofs.Ytffnkpbogkodbaa.PFnNetNew
open Go.RowKit Go.Proofs.YtffnkpbogkodbaaW.PrintWords Go.Proofs.YtffnkpbogkodbaaW.PrintLast Go.Proofs.YtffnkpbogkodbaaW.PrintMore
set_option linter.unusedVariables false
/-- The cells of a socket of zeros. -/
def Z6 : List Value := [.int .i64 0, .string ⟨#[]⟩, .int .i64 0, .string ⟨#[]⟩, .bool false, .slice none 0 0]
def kz : Kd Unit where
  sz := 6
  E := []
  K := fun _ _ cs => cs = Z6
  M := fun _ _ _ _ cs => cs = Z6
  K_len := fun h => by rw [h]; rfl
  K_one := fun h u hu => by
    rw [h] at hu
    simp only [Z6, List.mem_cons, List.not_mem_nil, or_false] at hu
    rcases hu with rfl | rfl | rfl | rfl | rfl | rfl <;> rfl
  K_below := fun _ h => h
  K_of_M := fun h => h
  M_mono := fun _ h => h
  M_bound := fun h => h
  M_move := fun _ h => h
  M_lower := fun _ h => h
theorem kz_k62 {w : World} {A : Option Addr} {n : Nat} {l : List Unit} (h : Kd.C kz w A n l) : Kd.C k62 w A n (List.replicate n z62) := by
  obtain ⟨hl, hm, hc⟩ := h
  refine ⟨by simp, hm, fun hn => ?_⟩
  obtain ⟨ad, e, hr⟩ := hc hn
  refine ⟨ad, e, fun j p hj => ?_⟩
  obtain ⟨hj2, rfl⟩ := List.getElem?_eq_some_iff.1 hj
  have hj3 : j < l.length := by rw [hl]; simpa using hj2
  obtain ⟨c, hlen, hK, hcell⟩ := hr j _ (List.getElem?_eq_getElem hj3)
  refine ⟨c, hlen, ?_, hcell⟩
  have : c = Z6 := hK
  rw [this]
  simp only [List.getElem_replicate]
  exact k62_mk w z62 (A5 := none) (c5 := 0) (Nat.zero_le _) ⟨rfl, by decide, fun h => absurd h (by decide)⟩
theorem kz_at {w : World} {A : Option Addr} {n : Nat} {l : List Unit} (h : Kd.C kz w A n l) (i : Int) (h0 : 0 ≤ i) (h1 : i < n) : ∃ ad, A = some ad ∧ w.cell? (ad.add (i.toNat * 6 + 5)) = some (.slice none 0 0) := by
  obtain ⟨ad, c, e, hlen, hK, hcell⟩ := ReadsRow.get_ h () i h0 h1
  have hc : c = Z6 := hK
  subst hc
  exact ⟨ad, e, hcell 5 _ rfl⟩
theorem setCell_id {w : World} {a : Addr} {v : Value} (h : w.cell? a = some v) : w.setCell a v = w := by
  have hh : w.heap.modify a.block (fun | .cells c elem frozen => .cells (if a.spot.isSome then c else c.setIfInBounds a.off v) elem frozen | o => o) = w.heap := by
    apply Array.ext_getElem?
    intro i
    rw [Array.getElem?_modify]
    split
    · rename_i hi
      subst hi
      unfold World.cell? at h
      cases ho : w.heap[a.block]? with
      | none => rfl
      | some o =>
        rw [ho] at h
        cases o with
        | cells c t f =>
          simp only [Option.map_some] at h ⊢
          split at h
          · cases h
          · rename_i hs
            rw [if_neg hs]
            congr 2
            apply Array.ext_getElem?
            intro j
            rw [Array.getElem?_setIfInBounds]
            split
            · rename_i hj
              subst hj
              rw [h]
              split
              · rfl
              · rename_i hlt
                rw [Array.getElem?_eq_none (by omega)] at h
                cases h
            · rfl
        | _ => cases h
    · rfl
  exact congrArg (fun h => ({ w with heap := h } : World)) hh
set_option maxHeartbeats 2000000 in
set_option maxRecDepth 100000 in
theorem net_IndexFunc (w : World) : Calls Try.prog 50 #[.string ⟨#[97]⟩, .func (.func 51) #[] #[]] w fun e w' => e = .returned (.int .i64 (-1)) ∧ Below w.heap.size w w' := by
  have hu9 := Try.underlying9
  go_enter Try.func50, Try.ntmps50
  repeat go_step
  refine (net_indexFunc _).mono ?_
  rintro e w' ⟨rfl, hb⟩
  go_wp2
  go_ret
  exact ⟨rfl, hb⟩
set_option maxHeartbeats 2000000 in
set_option maxRecDepth 100000 in
theorem net_in (w : World) : Calls Try.prog 28 #[.int .i64 1, .int .i64 1, .int .i64 3] w fun e w' => e = .returned (.bool true) ∧ w = w' := by
  have hu3 := Try.underlying3
  go_enter Try.func28, Try.ntmps28
  go_wp2
  go_ret
  exact ⟨rfl, rfl⟩
set_option maxHeartbeats 2000000 in
set_option maxRecDepth 100000 in
theorem net_nameOk (w : World) : Calls Try.prog 23 #[.string ⟨#[97]⟩] w fun e w' => e = .returned (.bool true) ∧ Below w.heap.size w w' := by
  have hu9 := Try.underlying9
  go_enter Try.func23, Try.ntmps23
  go_wp2_with (go_at_call 28; refine (net_in _).mono ?_; rintro e w' ⟨rfl, rfl⟩)
  repeat go_step
  refine (net_IndexFunc _).mono ?_
  rintro e w' ⟨rfl, hb⟩
  go_wp2
  go_ret
  exact ⟨rfl, hb⟩
end Go.Proofs.Ytffnkpbogkodbaa.PFnNetNew
