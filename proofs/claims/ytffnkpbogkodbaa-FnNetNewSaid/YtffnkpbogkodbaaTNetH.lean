/- Proved here, without a condition beyond those that each theorem states: impl.NetNew makes a net of zeros. -/
import Derived.Test.YtffnkpbogkodbaaTNetG
namespace Go.Proofs.Ytffnkpbogkodbaa.PFnNetNew
open Go.RowKit Go.Proofs.YtffnkpbogkodbaaW.PrintWords Go.Proofs.YtffnkpbogkodbaaW.PrintLast Go.Proofs.YtffnkpbogkodbaaW.PrintMore
set_option linter.unusedVariables false
set_option maxHeartbeats 2000000 in
set_option maxRecDepth 100000 in
theorem net_New (w : World) :
  Calls Try.prog 6 #[] w fun e w' => ∃ (A : Addr) (c : Nat), e = .returned (.agg #[.slice (some A) 8 c]) ∧ 8 ≤ c ∧ Kd.C kz w' (some A) 8 (List.replicate 8 ()) ∧ Below w.heap.size w w' := by
  have hu25 := Try.underlying25
  have HB := Am (Below.refl w.heap.size w)
  go_enter Try.func6, Try.ntmps6
  go_wp2_with (first
    | ((with_reducible refine gate_dst (N := 0) rfl ?_); refine box_event ?hg (N := 0) ?hd (cs := #[.slice none 0 0]) (t := 25) ?hr ?_; (case hd => rfl); (case hg => rfl); (case hr => first | (go_simp; done) | (go_simp; rfl)); intro g2 hg w2 hbox hb; have G2 := Am (show w.heap.size ≤ g2 by rw [hg]; exact bZ HB.out); have HB2 := Am (bP HB.out hb); have BK2 := Am hbox; have hcz := (bC hbox 0).trans rfl; have hfz := blk_frozen hbox 0; clear hbox hb hg HB)
    | ((with_reducible refine gate_dst (N := 1) rfl ?_); refine Kd.S_make kz _ 62 rfl (N := 1) rfl 23 _ _ rfl 8 rfl rfl Try.underlying23 (.agg #[(.int .i64 0), (.string ⟨#[]⟩), (.int .i64 0), (.string ⟨#[]⟩), (.bool false), (.slice none 0 0)]) 80 info62 rfl (by decide) (by omega) () (ok := fun _ => True) (okp := fun _ => True) rfl (fun _ hk => hk) trivial (by omega) (by omega) (Below.refl _ _) (Nat.le_refl _) ?_; intro v1 w3 ho4 hb hg_ hnew_; simp only [Int.reduceToNat] at ho4; obtain ⟨gb, cb, rfl⟩ := kz_slice (Kd.S_R ho4) rfl; have HO := Am (Kd.R_lower (Kd.S_R ho4) (bZ HB2.out)); have BK3 := Am (bB BK2.out hb); have HB3 := Am (bP HB2.out hb); clear hcz hfz; have hcz := (bC BK3.out 0).trans rfl; have hfz := blk_frozen BK3.out 0; clear hb hg_ hnew_ ho4 BK2 HB2))
  have HO5 := Kd.R_far (Kd.R_types HO.out BK3.out (by decide)) (p := ⟨g2, 0, none⟩) (fun _ hk => hk.2) (.slice (some ⟨gb, 0, none⟩) 8 cb)
  obtain ⟨_, hcb, hrd⟩ := Kd.R_reads' HO5
  have HB5 := bS HB3.out G2.out (j := 0) (v := .slice (some ⟨gb, 0, none⟩) 8 cb)
  have BK5 := Am (blk_put BK3.out 0 (.slice (some ⟨gb, 0, none⟩) 8 cb) (cs' := #[.slice (some ⟨gb, 0, none⟩) 8 cb]) rfl)
  refine bodyPost_ret (results_cell_row rfl _ _ g2 25 #[.slice (some ⟨gb, 0, none⟩) 8 cb] (0, 0) _ rfl BK5.out Try.underlying25 rfl (by kernel_rfl)) rfl ?_
  exact ⟨_, _, rfl, hcb, hrd, HB5⟩
end Go.Proofs.Ytffnkpbogkodbaa.PFnNetNew
