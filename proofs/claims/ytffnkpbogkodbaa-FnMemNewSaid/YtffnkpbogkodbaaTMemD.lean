/- Proved here, without a condition: the law FnMemNew returns true. -/
import Derived.Test.YtffnkpbogkodbaaTMemC
import Derived.Test.YtffnkpbogkodbaaPFnMemNewx3
import Derived.Test.YtffnkpbogkodbaaPFnMemNewx5
namespace Go.Proofs.Ytffnkpbogkodbaa.PFnMemNew
open Go.RowKit Go.Proofs.YtffnkpbogkodbaaW.PrintWords Go.Proofs.YtffnkpbogkodbaaW.PrintLast Go.Proofs.YtffnkpbogkodbaaW.PrintMore
set_option linter.unusedVariables false
theorem new12 : impl_MemNew.f = some (T12, R12, T12, R12, S5, 0) := by kernel_rfl
theorem newS12 : spec_MemNew.f = some (T12, R12, T12, R12, S5, 0) := by kernel_rfl
theorem qd12 : laws_qdMem.f 20 T12 R12 T12 R12 S5 0 T12 R12 T12 R12 S5 0 = some true := by kernel_rfl
/-- A new memory: these cells, read so. -/
def NewMem (w : World) (A0 A1 A2 A3 A4 : Option Addr) (c0 c1 c2 c3 c4 : Nat) : Prop := Kd.C Kd.string w A0 12 T12 ∧ 12 ≤ c0 ∧ Kd.C (Kd.int .i64) w A1 12 R12 ∧ 12 ≤ c1 ∧ Kd.C Kd.string w A2 12 T12 ∧ 12 ≤ c2 ∧ Kd.C (Kd.int .i64) w A3 12 R12 ∧ 12 ≤ c3 ∧ Kd.C k73 w A4 5 S5 ∧ 5 ≤ c4
theorem NewMem.below {w w' : World} {A0 A1 A2 A3 A4 : Option Addr} {c0 c1 c2 c3 c4 : Nat} (hb : Below w.heap.size w w') (h : NewMem w A0 A1 A2 A3 A4 c0 c1 c2 c3 c4) : NewMem w' A0 A1 A2 A3 A4 c0 c1 c2 c3 c4 := by
  obtain ⟨h0, k0, h1, k1, h2, k2, h3, k3, h4, k4⟩ := h
  exact ⟨cB h0 hb, k0, cB h1 hb, k1, cB h2 hb, k2, cB h3 hb, k3, cB h4 hb, k4⟩
theorem mem_New (w : World) : Calls Try.prog 11 #[] w fun e w' => ∃ (A0 A1 A2 A3 A4 : Option Addr) (c0 c1 c2 c3 c4 : Nat), e = .returned (.agg #[.slice A0 12 c0, .slice A1 12 c1, .slice A2 12 c2, .slice A3 12 c3, .slice A4 5 c4, .int .i64 0]) ∧ NewMem w' A0 A1 A2 A3 A4 c0 c1 c2 c3 c4 ∧ Below w.heap.size w w' := by
  refine (impl_MemNew.calls _ _ _ _ _ _ w new12).mono ?_
  rintro e w' ⟨v0, v1, v2, v3, v4, rfl, r0, r1, r2, r3, r4, hb⟩
  obtain ⟨B0, d0, rfl, l0, g0⟩ := Kd.R_reads r0
  obtain ⟨B1, d1, rfl, l1, g1⟩ := Kd.R_reads r1
  obtain ⟨B2, d2, rfl, l2, g2⟩ := Kd.R_reads r2
  obtain ⟨B3, d3, rfl, l3, g3⟩ := Kd.R_reads r3
  obtain ⟨B4, d4, rfl, l4, g4⟩ := Kd.S_reads r4
  simp only [List.length_replicate] at l0 l1 l2 l3 l4 g0 g1 g2 g3 g4 ⊢
  exact ⟨B0, B1, B2, B3, B4, d0, d1, d2, d3, d4, rfl, ⟨g0, l0, g1, l1, g2, l2, g3, l3, g4, l4⟩, hb⟩
theorem mem_NewS (w : World) : Calls Try.prog 13 #[] w fun e w' => ∃ (A0 A1 A2 A3 A4 : Option Addr) (c0 c1 c2 c3 c4 : Nat), e = .returned (.agg #[.slice A0 12 c0, .slice A1 12 c1, .slice A2 12 c2, .slice A3 12 c3, .slice A4 5 c4, .int .i64 0]) ∧ NewMem w' A0 A1 A2 A3 A4 c0 c1 c2 c3 c4 ∧ Below w.heap.size w w' := by
  refine (spec_MemNew.calls _ _ _ _ _ _ w newS12).mono ?_
  rintro e w' ⟨v0, v1, v2, v3, v4, rfl, r0, r1, r2, r3, r4, hb⟩
  obtain ⟨B0, d0, rfl, l0, g0⟩ := Kd.R_reads r0
  obtain ⟨B1, d1, rfl, l1, g1⟩ := Kd.R_reads r1
  obtain ⟨B2, d2, rfl, l2, g2⟩ := Kd.R_reads r2
  obtain ⟨B3, d3, rfl, l3, g3⟩ := Kd.R_reads r3
  obtain ⟨B4, d4, rfl, l4, g4⟩ := Kd.S_reads r4
  simp only [List.length_replicate] at l0 l1 l2 l3 l4 g0 g1 g2 g3 g4 ⊢
  exact ⟨B0, B1, B2, B3, B4, d0, d1, d2, d3, d4, rfl, ⟨g0, l0, g1, l1, g2, l2, g3, l3, g4, l4⟩, hb⟩
theorem mem_qd (A0 A1 A2 A3 A4 B0 B1 B2 B3 B4 : Option Addr) (c0 c1 c2 c3 c4 d0 d1 d2 d3 d4 : Nat) (w : World) (h : NewMem w A0 A1 A2 A3 A4 c0 c1 c2 c3 c4) (k : NewMem w B0 B1 B2 B3 B4 d0 d1 d2 d3 d4) :
    Calls Try.prog 12 #[.agg #[.slice A0 12 c0, .slice A1 12 c1, .slice A2 12 c2, .slice A3 12 c3, .slice A4 5 c4, .int .i64 0], .agg #[.slice B0 12 d0, .slice B1 12 d1, .slice B2 12 d2, .slice B3 12 d3, .slice B4 5 d4, .int .i64 0]] w fun e w' => e = .returned (.bool true) ∧ Below w.heap.size w w' := by
  have H : ∀ (l0 : List ByteArray) (l1 : List Int) (l4 : List S73), l0 = T12 → l1 = R12 → l4 = S5 → Calls Try.prog 12 #[.agg #[.slice A0 l0.length c0, .slice A1 l1.length c1, .slice A2 l0.length c2, .slice A3 l1.length c3, .slice A4 l4.length c4, .int .i64 0], .agg #[.slice B0 l0.length d0, .slice B1 l1.length d1, .slice B2 l0.length d2, .slice B3 l1.length d3, .slice B4 l4.length d4, .int .i64 0]] w fun e w' => e = .returned (.bool true) ∧ Below w.heap.size w w' := by
    intro l0 l1 l4 e0 e1 e4
    have n0 : l0.length = 12 := by rw [e0]; rfl
    have n1 : l1.length = 12 := by rw [e1]; rfl
    have n4 : l4.length = 5 := by rw [e4]; rfl
    have hq : laws_qdMem.f 20 l0 l1 l0 l1 l4 0 l0 l1 l0 l1 l4 0 = some true := by rw [e0, e1, e4]; exact qd12
    unfold NewMem at h k
    rw [← e0, ← e1, ← e4] at h k
    clear e0 e1 e4
    obtain ⟨h0, k0, h1, k1, h2, k2, h3, k3, h4, k4⟩ := h
    obtain ⟨h0', k0', h1', k1', h2', k2', h3', k3', h4', k4'⟩ := k
    exact laws_qdMem.calls 20 A0 c0 l0 A1 c1 l1 A2 c2 l0 A3 c3 l1 A4 c4 l4 0 B0 d0 l0 B1 d1 l1 B2 d2 l0 B3 d3 l1 B4 d4 l4 0 true w (by rw [n0]; exact h0) (by omega) (by rw [n1]; exact h1) (by omega) (by rw [n0]; exact h2) (by omega) (by rw [n1]; exact h3) (by omega) (by rw [n4]; exact h4) (by omega) (by rw [n0]; exact h0') (by omega) (by rw [n1]; exact h1') (by omega) (by rw [n0]; exact h2') (by omega) (by rw [n1]; exact h3') (by omega) (by rw [n4]; exact h4') (by omega) hq
  have H2 := H T12 R12 S5 rfl rfl rfl
  simp only [List.length_replicate] at H2
  exact H2
theorem keepM {w W W' : World} {g : Nat} {u0 u1 u2 u3 u4 u5 : Value} (hb : Below W.heap.size W W') (h : Below w.heap.size w W ∧ W.cell? ⟨g, 0, none⟩ = some u0 ∧ W.cell? ⟨g, 1, none⟩ = some u1 ∧ W.cell? ⟨g, 2, none⟩ = some u2 ∧ W.cell? ⟨g, 3, none⟩ = some u3 ∧ W.cell? ⟨g, 4, none⟩ = some u4 ∧ W.cell? ⟨g, 5, none⟩ = some u5) :
    Below w.heap.size w W' ∧ W'.cell? ⟨g, 0, none⟩ = some u0 ∧ W'.cell? ⟨g, 1, none⟩ = some u1 ∧ W'.cell? ⟨g, 2, none⟩ = some u2 ∧ W'.cell? ⟨g, 3, none⟩ = some u3 ∧ W'.cell? ⟨g, 4, none⟩ = some u4 ∧ W'.cell? ⟨g, 5, none⟩ = some u5 := by
  obtain ⟨h0, h1, h2, h3, h4, h5, h6⟩ := h
  exact ⟨bP h0 hb, pw_cell_below hb h1, pw_cell_below hb h2, pw_cell_below hb h3, pw_cell_below hb h4, pw_cell_below hb h5, pw_cell_below hb h6⟩
set_option maxHeartbeats 4000000 in
set_option maxRecDepth 100000 in
theorem mem_Law (a0 : Option Addr) (n0 e0 : Nat) (w : World) (hn : n0 ≤ 9223372036854775807) :
  Calls Try.prog 4 #[.slice a0 n0 e0] w fun e w' => e = .returned (.bool true) ∧ Below w.heap.size w w' := by
  have hu38 := Try.underlying38
  have hu22 := Try.underlying22
  have HB := Am (Below.refl w.heap.size w)
  by_cases hlt : (1048576 : Int) < (n0 : Int)
  · go_enter Try.func4, Try.ntmps4
    go_wp2
    go_ret
    exact ⟨rfl, HB.out⟩
  · go_enter Try.func4, Try.ntmps4
    go_wp2_with fail
    refine (mem_New _).mono ?_
    rintro e w1 ⟨A0, A1, A2, A3, A4, c0, c1, c2, c3, c4, rfl, hm, hb⟩
    have HM := Am hm
    have HB1 := Am (bP HB.out hb)
    clear hm hb HB
    go_wp2_with (first
      | ((with_reducible refine gate_dst (N := 3) rfl ?_); refine box_event ?hg (N := 3) ?hd (cs := #[.slice none 0 0, .slice none 0 0, .slice none 0 0, .slice none 0 0, .slice none 0 0, .int .i64 0]) (t := 38) ?hr ?_; (case hd => rfl); (case hg => rfl); (case hr => first | (go_simp; done) | (go_simp; rfl)); intro g3 hg w2 hbox hb; have z0 : w2.cell? ⟨g3, 0, none⟩ = some (.slice none 0 0) := (bC hbox 0).trans rfl; have zf0 := bF hbox 0; have z1 : w2.cell? ⟨g3, 1, none⟩ = some (.slice none 0 0) := (bC hbox 1).trans rfl; have zf1 := bF hbox 1; have z2 : w2.cell? ⟨g3, 2, none⟩ = some (.slice none 0 0) := (bC hbox 2).trans rfl; have zf2 := bF hbox 2; have z3 : w2.cell? ⟨g3, 3, none⟩ = some (.slice none 0 0) := (bC hbox 3).trans rfl; have zf3 := bF hbox 3; have z4 : w2.cell? ⟨g3, 4, none⟩ = some (.slice none 0 0) := (bC hbox 4).trans rfl; have zf4 := bF hbox 4; have z5 : w2.cell? ⟨g3, 5, none⟩ = some (.int .i64 0) := (bC hbox 5).trans rfl; have zf5 := bF hbox 5; have hge : w1.heap.size ≤ g3 := (by rw [hg]; exact Nat.le_refl _); have HY := Am (bS (bS (bS (bS (bS (bS hb hge (j := 0) (v := .slice A0 12 c0)) hge (j := 1) (v := .slice A1 12 c1)) hge (j := 2) (v := .slice A2 12 c2)) hge (j := 3) (v := .slice A3 12 c3)) hge (j := 4) (v := .slice A4 5 c4)) hge (j := 5) (v := .int .i64 0)); have HX := Am (blk_put (blk_put (blk_put (blk_put (blk_put (blk_put hbox 0 (.slice A0 12 c0) (cs' := #[.slice A0 12 c0, .slice none 0 0, .slice none 0 0, .slice none 0 0, .slice none 0 0, .int .i64 0]) rfl) 1 (.slice A1 12 c1) (cs' := #[.slice A0 12 c0, .slice A1 12 c1, .slice none 0 0, .slice none 0 0, .slice none 0 0, .int .i64 0]) rfl) 2 (.slice A2 12 c2) (cs' := #[.slice A0 12 c0, .slice A1 12 c1, .slice A2 12 c2, .slice none 0 0, .slice none 0 0, .int .i64 0]) rfl) 3 (.slice A3 12 c3) (cs' := #[.slice A0 12 c0, .slice A1 12 c1, .slice A2 12 c2, .slice A3 12 c3, .slice none 0 0, .int .i64 0]) rfl) 4 (.slice A4 5 c4) (cs' := #[.slice A0 12 c0, .slice A1 12 c1, .slice A2 12 c2, .slice A3 12 c3, .slice A4 5 c4, .int .i64 0]) rfl) 5 (.int .i64 0) (cs' := #[.slice A0 12 c0, .slice A1 12 c1, .slice A2 12 c2, .slice A3 12 c3, .slice A4 5 c4, .int .i64 0]) rfl); clear hbox hb hg hge)
      | fail)
    obtain ⟨W3, hW3⟩ : ∃ W3, ((((((w2.setCell ⟨g3, 0, none⟩ (.slice A0 12 c0)).setCell ⟨g3, 1, none⟩ (.slice A1 12 c1)).setCell ⟨g3, 2, none⟩ (.slice A2 12 c2)).setCell ⟨g3, 3, none⟩ (.slice A3 12 c3)).setCell ⟨g3, 4, none⟩ (.slice A4 5 c4)).setCell ⟨g3, 5, none⟩ (.int .i64 0)) = W3 := ⟨_, rfl⟩
    rw [hW3] at HY HX ⊢
    clear hW3 z0 zf0 z1 zf1 z2 zf2 z3 zf3 z4 zf4 z5 zf5
    have HM3 := Am (HM.out.below HY.out)
    have HB3 := Am (bP HB1.out HY.out)
    clear HM HB1 HY
    have q0 : W3.cell? ⟨g3, 0, none⟩ = some (.slice A0 12 c0) := (bC HX.out 0).trans rfl; have q1 : W3.cell? ⟨g3, 1, none⟩ = some (.slice A1 12 c1) := (bC HX.out 1).trans rfl; have q2 : W3.cell? ⟨g3, 2, none⟩ = some (.slice A2 12 c2) := (bC HX.out 2).trans rfl; have q3 : W3.cell? ⟨g3, 3, none⟩ = some (.slice A3 12 c3) := (bC HX.out 3).trans rfl; have q4 : W3.cell? ⟨g3, 4, none⟩ = some (.slice A4 5 c4) := (bC HX.out 4).trans rfl; have q5 : W3.cell? ⟨g3, 5, none⟩ = some (.int .i64 0) := (bC HX.out 5).trans rfl
    have HSM : Aside0 (Below W3.heap.size W3 W3 ∧ W3.cell? ⟨g3, 0, none⟩ = some (.slice A0 12 c0) ∧ W3.cell? ⟨g3, 1, none⟩ = some (.slice A1 12 c1) ∧ W3.cell? ⟨g3, 2, none⟩ = some (.slice A2 12 c2) ∧ W3.cell? ⟨g3, 3, none⟩ = some (.slice A3 12 c3) ∧ W3.cell? ⟨g3, 4, none⟩ = some (.slice A4 5 c4) ∧ W3.cell? ⟨g3, 5, none⟩ = some (.int .i64 0)) := ⟨bJ _ _, q0, q1, q2, q3, q4, q5⟩
    go_region_held3 (fun W => Below W3.heap.size W3 W ∧ W.cell? ⟨g3, 0, none⟩ = some (.slice A0 12 c0) ∧ W.cell? ⟨g3, 1, none⟩ = some (.slice A1 12 c1) ∧ W.cell? ⟨g3, 2, none⟩ = some (.slice A2 12 c2) ∧ W.cell? ⟨g3, 3, none⟩ = some (.slice A3 12 c3) ∧ W.cell? ⟨g3, 4, none⟩ = some (.slice A4 5 c4) ∧ W.cell? ⟨g3, 5, none⟩ = some (.int .i64 0))
      (first
        | with_reducible exact keepM (o1 (bJ _ _)) HSM.out
        | with_reducible assumption
        | with_reducible exact keepM (o1 (bJ _ _)) (by assumption)
        | with_reducible exact keepM (by assumption) (by assumption)
        | with_reducible exact keepM (o1 (bJ _ _)) (keepM (by assumption) (by assumption)))
      (first
        | (go_at_call 13; refine (mem_NewS _).mono ?_; rintro e w4 ⟨B0, B1, B2, B3, B4, d0, d1, d2, d3, d4, rfl, hm, hb⟩; have HM2 := Am hm; clear hm)
        | (go_at_call 12; refine (mem_qd _ _ _ _ _ _ _ _ _ _ _ _ _ _ _ _ _ _ _ _ _ (HM3.out.below (And.left (by assumption : Below W3.heap.size W3 _ ∧ _))) HM2.out).mono ?_; rintro e w5 ⟨rfl, hb⟩))
    all_goals
      have hb5 : Below W3.heap.size W3 w5 := And.left (by assumption : Below W3.heap.size W3 w5 ∧ _)
      have HX5 := Am (bB HX.out hb5)
      have HM5 := Am (HM3.out.below hb5)
      have HB5 := Am (bP HB3.out hb5)
      clear hb5 q0 q1 q2 q3 q4 q5 HX HM3 HB3 HSM
      have q0 : w5.cell? ⟨g3, 0, none⟩ = some (.slice A0 12 c0) := (bC HX5.out 0).trans rfl; have q1 : w5.cell? ⟨g3, 1, none⟩ = some (.slice A1 12 c1) := (bC HX5.out 1).trans rfl; have q2 : w5.cell? ⟨g3, 2, none⟩ = some (.slice A2 12 c2) := (bC HX5.out 2).trans rfl; have q3 : w5.cell? ⟨g3, 3, none⟩ = some (.slice A3 12 c3) := (bC HX5.out 3).trans rfl; have q4 : w5.cell? ⟨g3, 4, none⟩ = some (.slice A4 5 c4) := (bC HX5.out 4).trans rfl; have q5 : w5.cell? ⟨g3, 5, none⟩ = some (.int .i64 0) := (bC HX5.out 5).trans rfl
      go_wp2_with fail
      obtain ⟨h0, k0, h1, k1, h2, k2, h3, k3, h4, k4⟩ := HM5.out
      refine (mem_Make A0 A1 A2 A3 A4 c0 c1 c2 c3 c4 _ h0 k0 h1 k1 h2 k2 h3 k3 h4 k4).mono ?_
      clear h0 k0 h1 k1 h2 k2 h3 k3 h4 k4
      rintro e w6 ⟨B0, B1, B2, B3, d0, d1, d2, d3, gb, d4, rfl, hb⟩
      have HX6 := Am (bB HX5.out hb)
      have HM6 := Am (HM5.out.below hb)
      have HB6 := Am (bP HB5.out hb)
      clear hb q0 q1 q2 q3 q4 q5 HX5 HM5 HB5
      go_wp2_with (first
        | ((with_reducible refine gate_dst (N := 4) rfl ?_); refine box_event ?hg (N := 4) ?hd (cs := #[.slice none 0 0, .slice none 0 0, .slice none 0 0, .slice none 0 0, .slice none 0 0, .int .i64 0]) (t := 38) ?hr ?_; (case hd => rfl); (case hg => rfl); (case hr => first | (go_simp; done) | (go_simp; rfl)); intro g4 hg w7 hbox hbb; have z0 : w7.cell? ⟨g4, 0, none⟩ = some (.slice none 0 0) := (bC hbox 0).trans rfl; have zf0 := bF hbox 0; have z1 : w7.cell? ⟨g4, 1, none⟩ = some (.slice none 0 0) := (bC hbox 1).trans rfl; have zf1 := bF hbox 1; have z2 : w7.cell? ⟨g4, 2, none⟩ = some (.slice none 0 0) := (bC hbox 2).trans rfl; have zf2 := bF hbox 2; have z3 : w7.cell? ⟨g4, 3, none⟩ = some (.slice none 0 0) := (bC hbox 3).trans rfl; have zf3 := bF hbox 3; have z4 : w7.cell? ⟨g4, 4, none⟩ = some (.slice none 0 0) := (bC hbox 4).trans rfl; have zf4 := bF hbox 4; have z5 : w7.cell? ⟨g4, 5, none⟩ = some (.int .i64 0) := (bC hbox 5).trans rfl; have zf5 := bF hbox 5; have hge : w6.heap.size ≤ g4 := (by rw [hg]; exact Nat.le_refl _); have hb7 := (bS (bS (bS (bS (bS (bS hbb hge (j := 0) (v := .slice B0 12 d0)) hge (j := 1) (v := .slice B1 12 d1)) hge (j := 2) (v := .slice B2 12 d2)) hge (j := 3) (v := .slice B3 12 d3)) hge (j := 4) (v := .slice (some ⟨gb, 0, none⟩) 5 d4)) hge (j := 5) (v := .int .i64 0)); have HX7 := Am (bB HX6.out hb7); have HM7 := Am (HM6.out.below hb7); have HB7 := Am (bP HB6.out hb7); have q0 : ((((((w7.setCell ⟨g4, 0, none⟩ (.slice B0 12 d0)).setCell ⟨g4, 1, none⟩ (.slice B1 12 d1)).setCell ⟨g4, 2, none⟩ (.slice B2 12 d2)).setCell ⟨g4, 3, none⟩ (.slice B3 12 d3)).setCell ⟨g4, 4, none⟩ (.slice (some ⟨gb, 0, none⟩) 5 d4)).setCell ⟨g4, 5, none⟩ (.int .i64 0)).cell? ⟨g3, 0, none⟩ = some (.slice A0 12 c0) := (bC HX7.out 0).trans rfl; have q1 : ((((((w7.setCell ⟨g4, 0, none⟩ (.slice B0 12 d0)).setCell ⟨g4, 1, none⟩ (.slice B1 12 d1)).setCell ⟨g4, 2, none⟩ (.slice B2 12 d2)).setCell ⟨g4, 3, none⟩ (.slice B3 12 d3)).setCell ⟨g4, 4, none⟩ (.slice (some ⟨gb, 0, none⟩) 5 d4)).setCell ⟨g4, 5, none⟩ (.int .i64 0)).cell? ⟨g3, 1, none⟩ = some (.slice A1 12 c1) := (bC HX7.out 1).trans rfl; have q2 : ((((((w7.setCell ⟨g4, 0, none⟩ (.slice B0 12 d0)).setCell ⟨g4, 1, none⟩ (.slice B1 12 d1)).setCell ⟨g4, 2, none⟩ (.slice B2 12 d2)).setCell ⟨g4, 3, none⟩ (.slice B3 12 d3)).setCell ⟨g4, 4, none⟩ (.slice (some ⟨gb, 0, none⟩) 5 d4)).setCell ⟨g4, 5, none⟩ (.int .i64 0)).cell? ⟨g3, 2, none⟩ = some (.slice A2 12 c2) := (bC HX7.out 2).trans rfl; have q3 : ((((((w7.setCell ⟨g4, 0, none⟩ (.slice B0 12 d0)).setCell ⟨g4, 1, none⟩ (.slice B1 12 d1)).setCell ⟨g4, 2, none⟩ (.slice B2 12 d2)).setCell ⟨g4, 3, none⟩ (.slice B3 12 d3)).setCell ⟨g4, 4, none⟩ (.slice (some ⟨gb, 0, none⟩) 5 d4)).setCell ⟨g4, 5, none⟩ (.int .i64 0)).cell? ⟨g3, 3, none⟩ = some (.slice A3 12 c3) := (bC HX7.out 3).trans rfl; have q4 : ((((((w7.setCell ⟨g4, 0, none⟩ (.slice B0 12 d0)).setCell ⟨g4, 1, none⟩ (.slice B1 12 d1)).setCell ⟨g4, 2, none⟩ (.slice B2 12 d2)).setCell ⟨g4, 3, none⟩ (.slice B3 12 d3)).setCell ⟨g4, 4, none⟩ (.slice (some ⟨gb, 0, none⟩) 5 d4)).setCell ⟨g4, 5, none⟩ (.int .i64 0)).cell? ⟨g3, 4, none⟩ = some (.slice A4 5 c4) := (bC HX7.out 4).trans rfl; have q5 : ((((((w7.setCell ⟨g4, 0, none⟩ (.slice B0 12 d0)).setCell ⟨g4, 1, none⟩ (.slice B1 12 d1)).setCell ⟨g4, 2, none⟩ (.slice B2 12 d2)).setCell ⟨g4, 3, none⟩ (.slice B3 12 d3)).setCell ⟨g4, 4, none⟩ (.slice (some ⟨gb, 0, none⟩) 5 d4)).setCell ⟨g4, 5, none⟩ (.int .i64 0)).cell? ⟨g3, 5, none⟩ = some (.int .i64 0) := (bC HX7.out 5).trans rfl; clear hb7 hbox hbb hg hge)
        | fail)
      obtain ⟨h0, k0, h1, k1, h2, k2, h3, k3, h4, k4⟩ := HM7.out
      refine (mem_Ok A0 A1 A2 A3 A4 c0 c1 c2 c3 c4 _ h0 k0 h1 k1 h2 k2 h3 k3 h4).mono ?_
      rintro e w8 ⟨rfl, hb⟩
      have HB8 := Am (bP HB7.out hb)
      clear h0 k0 h1 k1 h2 k2 h3 k3 h4 k4 hb q0 q1 q2 q3 q4 q5 HX7 HM7 HB7 z0 zf0 z1 zf1 z2 zf2 z3 zf3 z4 zf4 z5 zf5
      have hn0 : decide (0 ≤ (n0 : Int)) = true := decide_eq_true (Int.natCast_nonneg _)
      go_wp2
      go_ret
      exact ⟨rfl, HB8.out⟩
end Go.Proofs.Ytffnkpbogkodbaa.PFnMemNew
