/- Proved here, without a condition: the law FnExactNetNew returns true. -/
import Derived.Test.YtehekikjadjdaaaTExB
namespace Go.Proofs.Ytehekikjadjdaaa.PFnExactNetNew
open Go.RowKit Go.Proofs.YtehekikjadjdaaaW.PrintWords Go.Proofs.YtehekikjadjdaaaW.PrintLast Go.Proofs.YtehekikjadjdaaaW.PrintMore
set_option linter.unusedVariables false
set_option maxHeartbeats 4000000 in
set_option maxRecDepth 100000 in
theorem ex_Law (w : World) : Calls Try.prog 12 #[] w fun e w' => e = .returned (.bool true) ∧ Below w.heap.size w w' := by
  have hu70 := Try.underlying70
  have hu68 := Try.underlying68
  have HB := Am (Below.refl w.heap.size w)
  go_enter Try.func12, Try.ntmps12
  go_wp2_with fail
  refine (ex_spec _).mono ?_
  rintro e w1 ⟨A1, c1, rfl, hc1, hR, hb⟩
  have HC1 := Am hc1
  have HS := Am (Kd.R_bound hR)
  have HB1 := Am (bP HB.out hb)
  clear hc1 hR hb HB
  go_wp2_with (first
    | ((with_reducible refine gate_dst (N := 1) rfl ?_); refine box_event ?hg (N := 1) ?hd (cs := #[.slice none 0 0]) (t := 70) ?hr ?_; (case hd => rfl); (case hg => rfl); (case hr => first | (go_simp; done) | (go_simp; rfl)); intro g1 hg w2 hbox hb; have HB2 := Am (bS (bP HB1.out hb) (show w.heap.size ≤ g1 by rw [hg]; exact bZ HB1.out) (j := 0) (v := .slice A1 8 c1)); have HS2 := Am (Kd.R_below HS.out (bS hb (show w1.heap.size ≤ g1 by rw [hg]; exact Nat.le_refl _) (j := 0) (v := .slice A1 8 c1))); have BK2 := Am (blk_put hbox 0 (.slice A1 8 c1) (cs' := #[.slice A1 8 c1]) rfl); have hcz := (bC hbox 0).trans rfl; have hfz := bF hbox 0; clear hbox hb hg HB1 HS)
    | fail)
  refine (ex_new _).mono ?_
  rintro e w3 ⟨gb, cb, rfl, hcb, hge, hrow, hC, hb⟩
  have HCB := Am hcb
  have HGE := Am hge
  have HROW := Am hrow
  have HZ := Am hC
  have HB3 := Am (bP HB2.out hb)
  have HS3 := Am (Kd.R_mono (Kd.R_old HS2.out hb) (fun k (hk : _ ∧ _) => (show k ≠ gb from Nat.ne_of_lt (Nat.lt_of_lt_of_le hk.2 hge))))
  have BK3 := Am (bB BK2.out hb)
  have HGW := Am (Nat.le_trans (bZ HB2.out) hge)
  have HGB := Am (show g1 ≠ gb from Nat.ne_of_lt (Nat.lt_of_lt_of_le (blk_lt BK2.out) hge))
  clear hcb hge hrow hC hb HB2 HS2 BK2 hcz hfz HGE
  go_wp2_with (first
    | ((with_reducible refine gate_dst (N := 2) rfl ?_); refine box_event ?hg (N := 2) ?hd (cs := #[.slice none 0 0]) (t := 70) ?hr ?_; (case hd => rfl); (case hg => rfl); (case hr => first | (go_simp; done) | (go_simp; rfl)); intro g2 hg w4 hbox hb; have hb4 := bS hb (show w3.heap.size ≤ g2 by rw [hg]; exact Nat.le_refl _) (j := 0) (v := .slice (some ⟨gb, 0, none⟩) 8 cb); have HB4 := Am (bP HB3.out hb4); have HS4 := Am (Kd.R_below HS3.out hb4); have HROW4 := Am (HROW.out.below hb4); have HZ4 := Am (cB HZ.out hb4); have BK4 := Am (bB BK3.out hb4); have BG4 := Am (blk_put hbox 0 (.slice (some ⟨gb, 0, none⟩) 8 cb) (cs' := #[.slice (some ⟨gb, 0, none⟩) 8 cb]) rfl); have hcz := (bC hbox 0).trans rfl; have hfz := bF hbox 0; have hc1 := (bC BK4.out 0).trans rfl; have hc2 := (bC BG4.out 0).trans rfl; have HG2 := Am (show gb ≠ g2 from by rw [hg]; exact Nat.ne_of_lt (blk_lt (HROW.out.1.choose_spec))); clear hbox hb hg HB3 HS3 BK3 HROW HZ hb4)
    | fail)
  refine (ex_eq _ _ _ _ _ HZ4.out HCB.out (Kd.R_reads' HS4.out).2.2 HC1.out).mono ?_
  rintro e w5 ⟨rfl, hb⟩
  have HB5 := Am (bP HB4.out hb)
  have HS5 := Am (Kd.R_below HS4.out hb)
  have HROW5 := Am (HROW4.out.below hb)
  have BK5 := Am (bB BK4.out hb)
  have BG5 := Am (bB BG4.out hb)
  clear hb HB4 HS4 HROW4 HZ4 BK4 BG4 hcz hfz hc1 hc2
  have hc1 := (bC BK5.out 0).trans rfl
  have hc2 := (bC BG5.out 0).trans rfl
  go_wp2_with fail
  refine (ex_markNet _ _ _ HROW5.out).mono ?_
  rintro e w6 ⟨rfl, hg, hrow⟩
  have HB6 := Am (pw_below_grown HB5.out (some gb) (bZ HB5.out) hg (fun k hk => by injection hk with hk; rw [← hk]; exact HGW.out))
  have HS6 := Am (Kd.R_reads' (Kd.R_grown HS5.out hg (fun k hk e => hk (by injection e)))).2.2
  have BK6 := Am (blk_grown BK5.out hg (fun e => HGB.out (by injection e)))
  have BG6 := Am (blk_grown BG5.out hg (fun e => HG2.out (by injection e with e; exact e.symm)))
  have HROW6 := Am hrow
  clear hg hrow HB5 HS5 BK5 BG5 HROW5 hc1 hc2
  have hc2 := (bC BG6.out 0).trans rfl
  have n1 : ¬ ((41 : Int) < 0) := by decide
  go_wp2_with fail
  refine (ex_heldNet _ _ _ HROW6.out).mono ?_
  rintro e w7 ⟨rfl, hb⟩
  have HB7 := Am (bP HB6.out hb)
  have HS7 := Am (cB HS6.out hb)
  have BK7 := Am (bB BK6.out hb)
  have BG7 := Am (bB BG6.out hb)
  have HROW7 := Am (HROW6.out.below hb)
  clear hb HB6 HS6 BK6 BG6 HROW6 hc2
  go_wp2_with fail
  refine (ex_new _).mono ?_
  rintro e w8 ⟨gn, cn, rfl, hcn, _, _, hC, hb⟩
  have HCN := Am hcn
  have HZ8 := Am hC
  have HB8 := Am (bP HB7.out hb)
  have HS8 := Am (cB HS7.out hb)
  have BK8 := Am (bB BK7.out hb)
  have BG8 := Am (bB BG7.out hb)
  have HROW8 := Am (HROW7.out.below hb)
  clear hcn hC hb HB7 HS7 BK7 BG7 HROW7
  go_wp2_with (first
    | ((with_reducible refine gate_dst (N := 5) rfl ?_); refine box_event ?hg (N := 5) ?hd (cs := #[.slice none 0 0]) (t := 70) ?hr ?_; (case hd => rfl); (case hg => rfl); (case hr => first | (go_simp; done) | (go_simp; rfl)); intro g5 hg w9 hbox hb; have hb9 := bS hb (show w8.heap.size ≤ g5 by rw [hg]; exact Nat.le_refl _) (j := 0) (v := .slice (some ⟨gn, 0, none⟩) 8 cn); have HB9 := Am (bP HB8.out hb9); have HS9 := Am (cB HS8.out hb9); have HROW9 := Am (HROW8.out.below hb9); have HZ9 := Am (cB HZ8.out hb9); have BK9 := Am (bB BK8.out hb9); have BG9 := Am (bB BG8.out hb9); have hcz := (bC hbox 0).trans rfl; have hfz := bF hbox 0; have hc1 := (bC BK9.out 0).trans rfl; clear hbox hb hg HB8 HS8 BK8 BG8 HROW8 HZ8 hb9)
    | fail)
  refine (ex_eq _ _ _ _ _ HZ9.out HCN.out HS9.out HC1.out).mono ?_
  rintro e w10 ⟨rfl, hb⟩
  have HB10 := Am (bP HB9.out hb)
  have HROW10 := Am (HROW9.out.below hb)
  have BG10 := Am (bB BG9.out hb)
  clear hb HB9 HS9 HROW9 HZ9 BK9 BG9 hcz hfz hc1
  have hc2 := (bC BG10.out 0).trans rfl
  go_wp2_with fail
  refine (ex_heldNet _ _ _ HROW10.out).mono ?_
  rintro e w11 ⟨rfl, hb⟩
  have HB11 := Am (bP HB10.out hb)
  clear hb HB10 HROW10 BG10 hc2
  go_wp2
  go_ret
  exact ⟨rfl, HB11.out⟩
end Go.Proofs.Ytehekikjadjdaaa.PFnExactNetNew
