/- Proved here, without a condition beyond those that each theorem states: impl.NetDial in a new net finds nobody. -/
import Derived.Test.YtffnkpbogkodbaaTNetH
import Derived.Deep.RegionHeld3
namespace Go.Proofs.Ytffnkpbogkodbaa.PFnNetNew
open Go.RowKit Go.Proofs.YtffnkpbogkodbaaW.PrintWords Go.Proofs.YtffnkpbogkodbaaW.PrintLast Go.Proofs.YtffnkpbogkodbaaW.PrintMore
set_option linter.unusedVariables false
theorem sAt {W0 W : World} {Q : World → Prop} (h : Below W0.heap.size W0 W ∧ Q W) : Below W0.heap.size W0 W := h.1
section
variable {W0 W W' : World} {a : Addr} {v u : Value} {g : Nat}
theorem keep0 (hc : W0.cell? a = some v) : Below W0.heap.size W0 W0.drew ∧ W0.drew.cell? a = some v := ⟨o1 (bJ _ _), hc⟩
theorem keepL (hb : Below W.heap.size W W') (h : Below W0.heap.size W0 W ∧ W.cell? a = some v) : Below W0.heap.size W0 W'.drew ∧ W'.drew.cell? a = some v := ⟨o1 (bP h.1 hb), pw_cell_below hb h.2⟩
theorem keepS (hg : W0.heap.size ≤ g) (ha : a.block < W0.heap.size) (h : Below W0.heap.size W0 W ∧ W.cell? a = some v) : Below W0.heap.size W0 (W.setCell ⟨g, 0, none⟩ u).drew ∧ (W.setCell ⟨g, 0, none⟩ u).drew.cell? a = some v := ⟨o1 (bS h.1 hg), (cell_far (Nat.ne_of_lt (Nat.lt_of_lt_of_le ha hg)) u).trans h.2⟩
theorem keepL' (hb : Below W.heap.size W W') (h : Below W0.heap.size W0 W ∧ W.cell? a = some v) : Below W0.heap.size W0 W' ∧ W'.cell? a = some v := ⟨bP h.1 hb, pw_cell_below hb h.2⟩
theorem keepS' (hg : W0.heap.size ≤ g) (ha : a.block < W0.heap.size) (h : Below W0.heap.size W0 W ∧ W.cell? a = some v) : Below W0.heap.size W0 (W.setCell ⟨g, 0, none⟩ u) ∧ (W.setCell ⟨g, 0, none⟩ u).cell? a = some v := ⟨bS h.1 hg, (cell_far (Nat.ne_of_lt (Nat.lt_of_lt_of_le ha hg)) u).trans h.2⟩
theorem keepN (o : Obj) (h : Below W0.heap.size W0 W ∧ W.cell? a = some v) : Below W0.heap.size W0 (W.alloc o) ∧ (W.alloc o).cell? a = some v := ⟨oA h.1 o, pw_cell_below (oA (bJ _ _) o) h.2⟩
theorem keepD (h : Below W0.heap.size W0 W ∧ W.cell? a = some v) : Below W0.heap.size W0 W.drew ∧ W.drew.cell? a = some v := ⟨o1 h.1, h.2⟩
theorem keepA (h : Below W0.heap.size W0 W ∧ W.cell? a = some v) : Below W0.heap.size W0 W := h.1
end
set_option maxHeartbeats 2000000 in
set_option maxRecDepth 100000 in
theorem net_Dial (A : Addr) (c : Nat) (l : List Unit) (w : World) (hr : Kd.C kz w (some A) 8 l) (h8 : l.length = 8) (hc8 : 8 ≤ c) :
  Calls Try.prog 7 #[.agg #[.slice (some A) 8 c], .string ⟨#[97]⟩] w fun e w' => ∃ gb cb : Nat, e = .returned (.tuple #[.agg #[.slice (some ⟨gb, 0, none⟩) 8 cb], .int .i64 (-1), .int .i64 2]) ∧ Below w.heap.size w w' := by
  have hu25 := Try.underlying25
  have hu23 := Try.underlying23
  have hzz : (List.replicate 8 z62).all zeroS = true := by decide
  have HN := Am (fun W (h : Kd.C kz W (some A) 8 l) => impl_NetOk.calls (some A) c (List.replicate 8 z62) true W (kz_k62 h) hc8 (by unfold impl_NetOk.f; rw [if_pos ⟨rfl, hzz⟩]))
  have HC := Am (fun W (h : Kd.C kz W (some A) 8 l) => net_cloneN A c l W h h8)
  have HF := Am (fun W (h : Kd.C kz W (some A) 8 l) => net_free (some A) c _ W (kz_k62 h) rfl hzz)
  have HM := Am (fun W (h : Kd.C kz W (some A) 8 l) => net_named (some A) c _ ⟨#[97]⟩ W (kz_k62 h) rfl hzz)
  have HR0 := Am hr
  have HL := Am h8
  clear hr h8 hzz
  have HB := Am (Below.refl w.heap.size w)
  go_enter Try.func7, Try.ntmps7
  go_wp2_with (first
    | ((with_reducible refine gate_dst (N := 2) rfl ?_); refine box_event ?hg (N := 2) ?hd (cs := #[.slice (some A) 8 c]) (t := 25) ?hr ?_; (case hd => rfl); (case hg => rfl); (case hr => first | (go_simp; done) | (go_simp; rfl)); intro g1 hg w1 hbox hb; have HB1 := Am (bP HB.out hb); have HR1 := Am (cB HR0.out hb); have BK1 := Am hbox; clear hbox hb hg HB HR0)
    | ((with_reducible refine gate_dst (N := 4) rfl ?_); refine box_event ?hg (N := 4) ?hd (cs := #[.slice none 0 0]) (t := 25) ?hr ?_; (case hd => rfl); (case hg => rfl); (case hr => first | (go_simp; done) | (go_simp; rfl)); intro g2 hg w2 hbox hb; have G2 := Am (show w.heap.size ≤ g2 by rw [hg]; exact bZ HB1.out); have HB2 := Am (bP HB1.out hb); have HR2 := Am (cB HR1.out hb); have BK2 := Am (bB BK1.out hb); have hc1 : w2.cell? ⟨g1, 0, none⟩ = some (.slice (some A) 8 c) := (bC BK2.out 0).trans rfl; have BR2 := Am hbox; clear hbox hb hg HB1 HR1 BK1)
    | (go_at_call 10; refine (HN.out _ HR2.out).mono ?_; rintro e w3 ⟨rfl, hb⟩; have HB3 := Am (bP HB2.out hb); have HR3 := Am (cB HR2.out hb); have BK3 := Am (bB BK2.out hb); have BR3 := Am (bB BR2.out hb); have hc1 : w3.cell? ⟨g1, 0, none⟩ = some (.slice (some A) 8 c) := (bC BK3.out 0).trans rfl; clear hb HB2 HR2 BK2 BR2)
    | (go_at_call 23; refine (net_nameOk _).mono ?_; rintro e w4 ⟨rfl, hb⟩; have HB4 := Am (bP HB3.out hb); have HR4 := Am (cB HR3.out hb); have BK4 := Am (bB BK3.out hb); have BR4 := Am (bB BR3.out hb); have hc1 : w4.cell? ⟨g1, 0, none⟩ = some (.slice (some A) 8 c) := (bC BK4.out 0).trans rfl; clear hb HB3 HR3 BK3 BR3))
  have HS0 := Am (keep0 hc1)
  have HG := Am (fun W (h : Below w4.heap.size w4 W ∧ W.cell? ⟨g1, 0, none⟩ = some (.slice (some A) 8 c)) => bB BR4.out h.1)
  have HW := Am (fun W (h : Below w4.heap.size w4 W ∧ W.cell? ⟨g1, 0, none⟩ = some (.slice (some A) 8 c)) => bP HB4.out h.1)
  have hlt1 := Am (blk_lt BK4.out)
  go_region_held3 (fun W => Below w4.heap.size w4 W ∧ W.cell? ⟨g1, 0, none⟩ = some (.slice (some A) 8 c))
    (first
      | exact HS0.out
      | exact keepL (by assumption) (by assumption)
      | exact keepN _ (by assumption)
      | exact keepN _ HS0.out
      | exact keepN _ (Aside0.out (by assumption))
      | exact keepS (Nat.le_refl _) hlt1.out (by assumption)
      | exact keepS (Aside0.out (by assumption)) hlt1.out (by assumption)
      | exact keepL' (by assumption) (by assumption)
      | exact keepS' (Nat.le_refl _) hlt1.out (by assumption)
      | exact keepS' (Aside0.out (by assumption)) hlt1.out (by assumption)
      | exact keepD (by assumption)
      | assumption)
    (first
      | (go_at_call 24; refine (HC.out _ (cB HR4.out (keepA (by assumption)))).mono ?_; rintro e w' ⟨gb, cb, rfl, hb⟩; have Hk := Am (keepL' hb (by assumption)); have Gw := Am (bZ (bP (keepA (by assumption)) hb)); (first | (have h7 := bB (w := (w4.alloc (.cells #[.slice none 0 0] 25 (0, 0))).drew) (blk_new w4 _) hb; have H7 := Am h7; have hc7 := (bC h7 0).trans rfl; have hf7 := bF h7 0; clear h7) | (have h7 := bB (blk_new _ _) hb; have H7 := Am h7; have hc7 := (bC h7 0).trans rfl; have hf7 := bF h7 0; clear h7) | (have h7 := bB H7.out hb; clear H7; have H7 := Am h7; have hc7 := (bC h7 0).trans rfl; have hf7 := bF h7 0; clear h7) | skip))
      | (go_at_call 25; refine (HF.out _ (cB HR4.out (keepA (by assumption)))).mono ?_; rintro e w' ⟨rfl, hb⟩; have Hk := Am (keepL' hb (by assumption)); have Gw := Am (bZ (bP (keepA (by assumption)) hb)); (first | (have h7 := bB (w := (w4.alloc (.cells #[.slice none 0 0] 25 (0, 0))).drew) (blk_new w4 _) hb; have H7 := Am h7; have hc7 := (bC h7 0).trans rfl; have hf7 := bF h7 0; clear h7) | (have h7 := bB (blk_new _ _) hb; have H7 := Am h7; have hc7 := (bC h7 0).trans rfl; have hf7 := bF h7 0; clear h7) | (have h7 := bB H7.out hb; clear H7; have H7 := Am h7; have hc7 := (bC h7 0).trans rfl; have hf7 := bF h7 0; clear h7) | skip))
      | (go_at_call 26; refine (HM.out _ (cB HR4.out (keepA (by assumption)))).mono ?_; rintro e w' ⟨rfl, hb⟩; have Hk := Am (keepL' hb (by assumption)); have Gw := Am (bZ (bP (keepA (by assumption)) hb)); (first | (have h7 := bB (w := (w4.alloc (.cells #[.slice none 0 0] 25 (0, 0))).drew) (blk_new w4 _) hb; have H7 := Am h7; have hc7 := (bC h7 0).trans rfl; have hf7 := bF h7 0; clear h7) | (have h7 := bB (blk_new _ _) hb; have H7 := Am h7; have hc7 := (bC h7 0).trans rfl; have hf7 := bF h7 0; clear h7) | (have h7 := bB H7.out hb; clear H7; have H7 := Am h7; have hc7 := (bC h7 0).trans rfl; have hf7 := bF h7 0; clear h7) | skip)))
  all_goals
    have h1 := HG.out _ (by assumption)
    have hcg := (bC h1 0).trans rfl
    have hfg := bF h1 0
    have HE := Am (HW.out _ (by assumption))
    have H1 := Am h1
    clear h1
    go_wp2
    refine bodyPost_ret (results_ctt rfl _ _ g2 25 #[.slice (some ⟨gb, 0, none⟩) 8 cb] (0, 0) _ rfl (blk_put H1.out 0 (.slice (some ⟨gb, 0, none⟩) 8 cb) (cs' := #[.slice (some ⟨gb, 0, none⟩) 8 cb]) rfl) Try.underlying25 rfl (by kernel_rfl)) rfl ?_
    exact ⟨_, _, rfl, bS HE.out G2.out⟩
end Go.Proofs.Ytffnkpbogkodbaa.PFnNetNew
