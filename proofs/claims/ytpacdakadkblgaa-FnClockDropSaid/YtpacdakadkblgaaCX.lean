/- Proved here, without a condition beyond those that each theorem states: the first alarm of a row. Printed by ck.py, a program of this session. -/
import Derived.Test.YtpacdakadkblgaaCI
namespace Go.Proofs.Ytpacdakadkblgaa.PFnClockDrop
open Go.RowKit Go.Proofs.YtpacdakadkblgaaW.PrintWords Go.Proofs.YtpacdakadkblgaaW.PrintLast Go.Proofs.YtpacdakadkblgaaW.PrintMore
set_option linter.unusedVariables false
set_option linter.unusedSimpArgs false
attribute [local go_sem ↓] isSome_setCell_
theorem head_cells {w : World} {base : Nat} {ok : Nat → Prop} {A : Option Addr} {n c : Nat} {a : S35} {t : List S35} (h : Kd.Q k35 35 w base ok (.slice A n c) (a :: t)) :
    ∃ g o, A = some ⟨g, o, none⟩ ∧ n = t.length + 1 ∧ n ≤ c ∧ w.cell? ⟨g, o, none⟩ = some (.int .i64 a.f0) ∧ w.cell? ⟨g, o + 1, none⟩ = some (.int .i64 a.f1) ∧ w.cell? ⟨g, o + 2, none⟩ = some (.int .i64 a.f2) := by
  obtain ⟨hn, hnc, -⟩ := Kd.Q_reads' h
  subst hn
  rcases (Q_fl h).2 with ⟨h1, _⟩ | ⟨g, off, cap, cur, he, hbg, hg, hcap, hcm, hcs, ht⟩
  · simp at h1
  · injection he with ha _ hc
    subst ha hc
    have hx : ∀ j v, (fl (a :: t))[j]? = some v → w.cell? ⟨g, off * 3 + j, none⟩ = some v := by
      intro j v hj
      rw [← ht, List.getElem?_take] at hj
      split at hj
      · rw [List.getElem?_drop, Array.getElem?_toList] at hj
        rw [blk_cell hg]
        exact hj
      · cases hj
    exact ⟨g, off * 3, rfl, rfl, hnc, hx 0 _ rfl, hx 1 _ rfl, hx 2 _ rfl⟩
theorem tail_C {w : World} {base : Nat} {ok : Nat → Prop} {g o n c : Nat} {a : S35} {t : List S35} (h : Kd.R k35 35 w base ok (.slice (some ⟨g, o, none⟩) n c) (a :: t)) :
    Kd.C k35 w (if c = 1 then some ⟨g, o, none⟩ else some ⟨g, o + 3, none⟩) (n - 1) t := by
  have h1 := Kd.Q_drop (k := 1) (Kd.Q_of_R h) (by simp)
  obtain ⟨h2, -, h3⟩ := Kd.Q_reads' h1
  rw [Option.map_some, add_at] at h3
  have h4 : n - 1 = t.length := h2
  rw [h4]
  exact h3
end Go.Proofs.Ytpacdakadkblgaa.PFnClockDrop
