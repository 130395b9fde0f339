/- Proved here, without a condition beyond those that each theorem states: the law FnNetNew returns true. -/
import Derived.Test.YtffnkpbogkodbaaTNetI
import Derived.Test.YtffnkpbogkodbaaPFnNetNewx1
namespace Go.Proofs.Ytffnkpbogkodbaa.PFnNetNew
open Go.RowKit Go.Proofs.YtffnkpbogkodbaaW.PrintWords Go.Proofs.YtffnkpbogkodbaaW.PrintLast Go.Proofs.YtffnkpbogkodbaaW.PrintMore
set_option linter.unusedVariables false
theorem qd_new : laws_qdNet.f 20 (List.replicate 8 z62) (List.replicate 8 z62) = some true := by decide +kernel
theorem spec_new : spec_NetNew.f = some (List.replicate 8 z62) := by unfold spec_NetNew.f; rw [if_pos (by decide)]
theorem net_qd (A A1 : Option Addr) (c c1 : Nat) (w : World) (h : Kd.C k62 w A 8 (List.replicate 8 z62)) (hc : 8 ≤ c) (h1 : Kd.C k62 w A1 8 (List.replicate 8 z62)) (hc1 : 8 ≤ c1) :
    Calls Try.prog 8 #[.agg #[.slice A 8 c], .agg #[.slice A1 8 c1]] w fun e w' => e = .returned (.bool true) ∧ Below w.heap.size w w' :=
  by
  obtain ⟨l, hl⟩ : ∃ l, l = List.replicate 8 z62 := ⟨_, rfl⟩
  have h8 : l.length = 8 := by rw [hl]; rfl
  have hq : laws_qdNet.f 20 l l = some true := by rw [hl]; exact qd_new
  rw [← hl] at h h1
  clear hl
  have H := laws_qdNet.calls 20 A c l A1 c1 l true w
  rw [h8] at H
  exact H h hc h1 hc1 hq
theorem net_specNew (w : World) : Calls Try.prog 9 #[] w fun e w' => ∃ (A1 : Option Addr) (c1 : Nat), e = .returned (.agg #[.slice A1 8 c1]) ∧ 8 ≤ c1 ∧ Kd.C k62 w' A1 8 (List.replicate 8 z62) ∧ Below w.heap.size w w' :=
  (spec_NetNew.calls _ w spec_new).mono fun e w' ⟨v0, he, hS, hb⟩ => by
    obtain ⟨A1, c1, rfl, hl, hC⟩ := Kd.S_reads hS
    exact ⟨A1, c1, he, hl, hC, hb⟩
theorem net_ok8 (A : Option Addr) (c : Nat) (w : World) (h : Kd.C k62 w A 8 (List.replicate 8 z62)) (hc : 8 ≤ c) :
    Calls Try.prog 10 #[.agg #[.slice A 8 c]] w fun e w' => e = .returned (.bool true) ∧ Below w.heap.size w w' :=
  impl_NetOk.calls A c (List.replicate 8 z62) true w h hc (by unfold impl_NetOk.f; rw [if_pos ⟨rfl, by decide⟩])
set_option maxHeartbeats 2000000 in
set_option maxRecDepth 100000 in
theorem net_Law (a0 : Option Addr) (n0 c0 : Nat) (w : World) (hn : n0 ≤ 9223372036854775807) :
  Calls Try.prog 3 #[.slice a0 n0 c0] w fun e w' => e = .returned (.bool true) ∧ Below w.heap.size w w' := by
  have hu25 := Try.underlying25
  have hu23 := Try.underlying23
  have hu22 := Try.underlying22
  have HB := Am (Below.refl w.heap.size w)
  by_cases hlt : (1048576 : Int) < (n0 : Int)
  · go_enter Try.func3, Try.ntmps3
    go_wp2
    go_ret
    exact ⟨rfl, HB.out⟩
  · go_enter Try.func3, Try.ntmps3
    go_wp2_with (first
      | (go_at_call 6; refine (net_New _).mono ?_; rintro e w1 ⟨A, c, rfl, hc8, hC, hb⟩; have HC8 := Am hc8; have HR1 := Am hC; have HB1 := Am (bP HB.out hb); clear hc8 hC hb HB)
      | ((with_reducible refine gate_dst (N := 3) rfl ?_); refine box_event ?hg (N := 3) ?hd (cs := #[.slice none 0 0]) (t := 25) ?hr ?_; (case hd => rfl); (case hg => rfl); (case hr => first | (go_simp; done) | (go_simp; rfl)); intro g3 hg w2 hbox hb; have HB2 := Am (bS (bP HB1.out hb) (show w.heap.size ≤ g3 by rw [hg]; exact bZ HB1.out) (j := 0) (v := .slice (some A) 8 c)); have HR2 := Am (cB HR1.out (bS hb (show w1.heap.size ≤ g3 by rw [hg]; exact Nat.le_refl _) (j := 0) (v := .slice (some A) 8 c))); have BK2 := Am (blk_put hbox 0 (.slice (some A) 8 c) (cs' := #[.slice (some A) 8 c]) rfl); have hcz := (bC hbox 0).trans rfl; have hfz := bF hbox 0; clear hbox hb hg HB1 HR1)
      | (go_at_call 7; refine (net_Dial A c _ _ HR2.out rfl HC8.out).mono ?_; rintro e w3 ⟨gb, cb, rfl, hb⟩; have HB3 := Am (bP HB2.out hb); have HR3 := Am (cB HR2.out hb); have BK3 := Am (bB BK2.out hb); clear hb HB2 HR2 BK2 hcz hfz))
    obtain ⟨W5, hW5⟩ : ∃ W5, w3.alloc (.cells #[.slice (some ⟨gb, 0, none⟩) 8 cb] 25 (0, 0)) = W5 := ⟨_, rfl⟩
    have hb5 : Below w3.heap.size w3 W5 := by rw [← hW5]; exact oA (bJ _ _) _
    rw [hW5]
    clear hW5
    have HB5 := Am (bP HB3.out hb5)
    have HR5 := Am (cB HR3.out hb5)
    have BK5 := Am (bB BK3.out hb5)
    have hc3 : W5.cell? ⟨g3, 0, none⟩ = some (.slice (some A) 8 c) := (bC BK5.out 0).trans rfl
    have HW := Am (fun W (h : Below W5.heap.size W5 W ∧ W.cell? ⟨g3, 0, none⟩ = some (.slice (some A) 8 c)) => bP HB5.out h.1)
    have HS0 := Am (keep0 hc3)
    clear hb5 HB3 HR3 BK3
    have hn0 : decide (0 ≤ (n0 : Int)) = true := decide_eq_true (Int.natCast_nonneg _)
    go_region_held3 (fun W => Below W5.heap.size W5 W ∧ W.cell? ⟨g3, 0, none⟩ = some (.slice (some A) 8 c))
      (first
        | exact HS0.out
        | exact keepL (by assumption) (by assumption)
        | exact keepL' (by assumption) (by assumption)
        | exact keepD (by assumption)
        | assumption)
      (first
        | (go_at_call 9; refine (net_specNew _).mono ?_; rintro e w' ⟨A1, c1, rfl, hc1, hC1, hb⟩; have HC1 := Am hC1; have HL1 := Am hc1; clear hC1 hc1)
        | (go_at_call 8; refine (net_qd _ _ _ _ _ (kz_k62 (cB HR5.out (keepA (by assumption)))) HC8.out HC1.out HL1.out).mono ?_; rintro e w' ⟨rfl, hb⟩)
        | (go_at_call 10; refine (net_ok8 _ _ _ (kz_k62 (cB HR5.out (keepA (by assumption)))) HC8.out).mono ?_; rintro e w' ⟨rfl, hb⟩))
    all_goals
      have HE := Am (HW.out _ (by assumption))
      go_wp2
      go_ret
      exact ⟨rfl, HE.out⟩
end Go.Proofs.Ytffnkpbogkodbaa.PFnNetNew
