/- Proved here, without a condition beyond those that each theorem states: impl.Net.clone of a net of zeros. -/
import Derived.Test.YtffnkpbogkodbaaTNetF
import Derived.StillTailTactics
namespace Go.Proofs.Ytffnkpbogkodbaa.PFnNetNew
open Go.RowKit Go.Proofs.YtffnkpbogkodbaaW.PrintWords Go.Proofs.YtffnkpbogkodbaaW.PrintLast Go.Proofs.YtffnkpbogkodbaaW.PrintMore
set_option linter.unusedVariables false
theorem kz_slice {W : World} {base : Nat} {ok : Nat → Prop} {v : Value} {l : List Unit} (h : kz.R 62 W base ok v l) (h8 : l.length = 8) : ∃ gb c, v = .slice (some ⟨gb, 0, none⟩) 8 c := by
  obtain ⟨A, c, e, _⟩ := Kd.R_reads h
  obtain ⟨inner, hown⟩ := Kd.R_own h
  rw [h8] at e
  rcases hown.2 with ⟨hv, _⟩ | ⟨g, cap, cur, hv, _⟩
  · rw [e] at hv; cases hv
  · rw [h8] at hv; exact ⟨g, cap, hv⟩
set_option maxHeartbeats 2000000 in
set_option maxRecDepth 100000 in
theorem net_cloneN (ad0_ : Addr) (c0 : Nat) (l0 : List Unit) (w : World) (hr0 : Kd.C kz w (some ad0_) 8 l0) (h8 : l0.length = 8) :
  Calls Try.prog 24 #[.agg #[.slice (some ad0_) 8 c0]] w fun e w' => ∃ (gb cb : Nat), e = .returned (.agg #[.slice (some ⟨gb, 0, none⟩) 8 cb]) ∧ Below w.heap.size w w' := by
  have hu25 := Try.underlying25
  have hu23 := Try.underlying23
  have hu62 := Try.underlying62
  have hu33 := Try.underlying33
  have HC := Am (fun W (h : Kd.C kz W (some ad0_) 8 l0) => net_Clone ad0_ c0 l0 W h h8)
  have HR0 := Am hr0
  have HL := Am h8
  clear hr0 h8
  have HB := Am (Below.refl w.heap.size w)
  go_enter Try.func24, Try.ntmps24
  go_wp2_with (first
    | ((with_reducible refine gate_dst (N := 1) rfl ?_); refine box_event ?hg (N := 1) ?hd (cs := #[.slice (some ad0_) 8 c0]) (t := 25) ?hr ?_; (case hd => rfl); (case hg => rfl); (case hr => first | (go_simp; done) | (go_simp; rfl)); intro g1 hg w1 hbox hb; have HB1 := Am (bP HB.out hb); have HR1 := Am (cB HR0.out hb); have BK1 := Am hbox; clear hbox hb hg HB HR0)
    | ((with_reducible refine gate_dst (N := 2) rfl ?_); refine box_event ?hg (N := 2) ?hd (cs := #[.slice none 0 0]) (t := 25) ?hr ?_; (case hd => rfl); (case hg => rfl); (case hr => first | (go_simp; done) | (go_simp; rfl)); intro g2 hg w2 hbox hb; have G2 := Am (show w.heap.size ≤ g2 by rw [hg]; exact bZ HB1.out); have HB2 := Am (bP HB1.out hb); have HR2 := Am (cB HR1.out hb); have hc1 : w2.cell? ⟨g1, 0, none⟩ = some (.slice (some ad0_) 8 c0) := (bC (bB BK1.out hb) 0).trans rfl; have BK2 := Am hbox; clear hbox hb hg HB1 HR1 BK1)
    | (go_at_call 52; refine (HC.out _ HR2.out).mono ?_; rintro e w3 ⟨v1, rfl, ho, hb⟩; obtain ⟨gb, cb, rfl⟩ := kz_slice ho HL.out; have HO := Am (Kd.R_lower ho (bZ HB2.out)); have HB3 := Am (bP HB2.out hb); have BK3 := Am (bB BK2.out hb); clear ho hb HB2 HR2 hc1 BK2)
    | ((with_reducible refine gate_dst (N := 3) rfl ?_); refine box_event ?hg (N := 3) ?hd (cs := #[.slice none 0 0]) (t := 25) ?hr ?_; (case hd => rfl); (case hg => rfl); (case hr => first | (go_simp; done) | (go_simp; rfl)); intro g3 hg w4 hbox hb; have G3 := Am (show w.heap.size ≤ g3 by rw [hg]; exact bZ HB3.out); have HB4 := Am (bP HB3.out hb); have HO4 := Am (Kd.R_far (Kd.R_types (Kd.R_below HO.out hb) hbox (by decide)) (p := ⟨g3, 0, none⟩) (fun _ hk => hk.2) (.slice (some ⟨gb, 0, none⟩) 8 cb)); have BK4 := Am (blk_far (bB BK3.out hb) (p := ⟨g3, 0, none⟩) (by rw [hg]; exact Nat.ne_of_lt (blk_lt BK3.out)) (.slice (some ⟨gb, 0, none⟩) 8 cb)); have BK5 := Am (blk_put hbox 0 (.slice (some ⟨gb, 0, none⟩) 8 cb) (cs' := #[.slice (some ⟨gb, 0, none⟩) 8 cb]) rfl); have hfz := blk_frozen hbox 0; have hcz := (blk_cell hbox 0).trans rfl; clear hbox hb hg HO BK3 HB3))
  have HB5 := Am (bS HB4.out G3.out (j := 0) (v := .slice (some ⟨gb, 0, none⟩) 8 cb))
  clear HB4 hfz hcz
  go_loopg [12] 9 (fun kq v12 w' => ∃ x : Int, v12 = .int .i64 x ∧ Aside0 (0 ≤ x) ∧ Aside0 (x ≤ 8) ∧ Aside0 (8 - x.toNat ≤ kq) ∧ Aside0 (Below w.heap.size w w') ∧ Aside0 (kz.R 62 w' w.heap.size (fun k => True ∧ k ≠ g3) (.slice (some ⟨gb, 0, none⟩) 8 cb) l0) ∧ Aside0 (w'.heap[g2]? = some (.cells #[.slice none 0 0] 25 (0, 0))) ∧ Aside0 (w'.heap[g3]? = some (.cells #[.slice (some ⟨gb, 0, none⟩) 8 cb] 25 (0, 0))))
  case atStart => exact ⟨0, rfl, ⟨by omega⟩, ⟨by omega⟩, ⟨by omega⟩, HB5, HO4, BK4, BK5⟩
  case round =>
    clear HB5 HO4 BK4 BK5
    obtain ⟨x, rfl, H0, H1, H2, BW, HO, HX, HY⟩ := hrel
    have hcy : wr.cell? ⟨g3, 0, none⟩ = some (.slice (some ⟨gb, 0, none⟩) 8 cb) := (bC HY.out 0).trans rfl
    by_cases hlt : x < 8
    · obtain ⟨cs, hlen, hM, hcell, hfz⟩ := Kd.R_elem HO.out () x H0.out hlt
      obtain rfl : cs = Z6 := hM
      have hcx : wr.cell? ⟨gb, x.toNat * 6 + 5, none⟩ = some (.slice none 0 0) := hcell 5 _ rfl
      have hfx : wr.frozen? ⟨gb, x.toNat * 6 + 5, none⟩ = false := hfz 5
      have c1 : decide (x < 8) = true := decide_eq_true hlt
      have p1 := eq_true H0.out
      have p2 := eq_true hlt
      have H3 := Am hlt
      have hid := Am (setCell_id hcx)
      have hid2 := Am (setCell_id (w := wr.drew) hcx)
      have hall : Aside0 (wr.cell? ⟨g3, 0, none⟩ = some (.slice (some ⟨gb, 0, none⟩) 8 cb) ∧ wr.cell? ⟨gb, x.toNat * 6 + 5, none⟩ = some (.slice none 0 0) ∧ wr.frozen? ⟨gb, x.toNat * 6 + 5, none⟩ = false) := ⟨hcy, hcx, hfx⟩
      clear hlt hlen hcell hfz
      go_wp2
      go_region_held3 (fun w' => w'.cell? ⟨g3, 0, none⟩ = some (.slice (some ⟨gb, 0, none⟩) 8 cb) ∧ w'.cell? ⟨gb, x.toNat * 6 + 5, none⟩ = some (.slice none 0 0) ∧ w'.frozen? ⟨gb, x.toNat * 6 + 5, none⟩ = false) (first | (rw [hid.out]; exact hall.out) | go_keep) (first | (go_at_call 53; refine (net_clonei _).mono ?_; rintro e w' ⟨rfl, rfl⟩))
      all_goals
        (try rw [hid.out])
        go_wp2
        go_roundg (8 - (x.toNat + 1))
        case measure => have := H0.out; have := H2.out; have := H3.out; omega
        case rel =>
          have h0 := H0.out
          have h3 := H3.out
          have hw : wrap64 (x + 1) = x + 1 := by unfold wrap64; omega
          exact ⟨wrap64 (x + 1), rfl, ⟨by omega⟩, ⟨by omega⟩, ⟨by omega⟩, ⟨by repeat (first | exact BW.out | apply oA | apply pN | apply o1)⟩, ⟨by (with_reducible repeat (first | apply rA | apply rN | apply rD)); exact HO.out⟩, ⟨by (with_reducible repeat (first | refine bN ?_ _ | refine bD ?_ | refine bA ?_ _)); exact HX.out⟩, ⟨by (with_reducible repeat (first | refine bN ?_ _ | refine bD ?_ | refine bA ?_ _)); exact HY.out⟩⟩
    · have c1 : decide (x < 8) = false := decide_eq_false hlt
      clear hlt
      have hcg : wr.cell? ⟨g2, 0, none⟩ = some (.slice none 0 0) := (bC HX.out 0).trans rfl
      have hfg := blk_frozen HX.out 0
      go_wp2
      refine bodyPost_ret (results_cell_row rfl _ _ g2 25 #[.slice (some ⟨gb, 0, none⟩) 8 cb] (0, 0) _ rfl (blk_put HX.out 0 _ rfl) Try.underlying25 rfl (by kernel_rfl)) rfl ?_
      exact ⟨_, _, rfl, bS BW.out G2.out⟩
end Go.Proofs.Ytffnkpbogkodbaa.PFnNetNew
