/- Proved here, without a condition beyond those that each theorem states: impl.NetNew, laws.markNet, laws.heldNet, laws.eqNet at a new net. -/
import Derived.Test.YtehekikjadjdaaaTExA
import Derived.Test.YtehekikjadjdaaaPFnExactNetNewx1
namespace Go.Proofs.Ytehekikjadjdaaa.PFnExactNetNew
open Go.RowKit Go.Proofs.YtehekikjadjdaaaW.PrintWords Go.Proofs.YtehekikjadjdaaaW.PrintLast Go.Proofs.YtehekikjadjdaaaW.PrintMore
set_option linter.unusedVariables false
def kz : Kd Unit where
  sz := 6
  E := []
  K := fun _ _ cs => cs = Z6
  M := fun _ _ _ _ cs => cs = Z6
  K_len := fun h => by rw [h]; rfl
  K_one := fun h u hu => by
    rw [h] at hu
    simp only [Z6, List.mem_cons, List.not_mem_nil, or_false] at hu
    rcases hu with rfl | rfl | rfl | rfl | rfl | rfl <;> rfl
  K_below := fun _ h => h
  K_of_M := fun h => h
  M_mono := fun _ h => h
  M_bound := fun h => h
  M_move := fun _ h => h
  M_lower := fun _ h => h
theorem kz_k117 {w : World} {A : Option Addr} {n : Nat} {l : List Unit} (h : Kd.C kz w A n l) : Kd.C k117 w A n (List.replicate n z117) := by
  obtain ⟨hl, hm, hc⟩ := h
  refine ⟨by simp, hm, fun hn => ?_⟩
  obtain ⟨ad, e, hr⟩ := hc hn
  refine ⟨ad, e, fun j p hj => ?_⟩
  obtain ⟨hj2, rfl⟩ := List.getElem?_eq_some_iff.1 hj
  have hj3 : j < l.length := by rw [hl]; simpa using hj2
  obtain ⟨c, hlen, hK, hcell⟩ := hr j _ (List.getElem?_eq_getElem hj3)
  refine ⟨c, hlen, ?_, hcell⟩
  have : c = Z6 := hK
  rw [this]
  simp only [List.getElem_replicate]
  exact k117_mk w z117 (A5 := none) (c5 := 0) (Nat.zero_le _) ⟨rfl, by decide, fun h => absurd h (by decide)⟩
theorem kz_slice {W : World} {base : Nat} {ok : Nat → Prop} {v : Value} {l : List Unit} (h : kz.R 117 W base ok v l) (h8 : l.length = 8) : ∃ gb c, v = .slice (some ⟨gb, 0, none⟩) 8 c := by
  obtain ⟨A, c, e, _⟩ := Kd.R_reads h
  obtain ⟨inner, hown⟩ := Kd.R_own h
  rw [h8] at e
  rcases hown.2 with ⟨hv, _⟩ | ⟨g, cap, cur, hv, _⟩
  · rw [e] at hv; cases hv
  · rw [h8] at hv; exact ⟨g, cap, hv⟩
theorem kz_row {W : World} {base : Nat} {ok : Nat → Prop} {gb c : Nat} {l : List Unit} (h : kz.R 117 W base ok (.slice (some ⟨gb, 0, none⟩) 8 c) l) (h8 : l.length = 8) : base ≤ gb ∧ Row W gb (MK 0) := by
  obtain ⟨inner, hown⟩ := Kd.R_own h
  refine ⟨own_base hown gb (by simp [Value.ownBlock]), own_typed hown gb (by simp [Value.ownBlock]), fun j hj => ?_⟩
  obtain ⟨cs, hlen, hM, hcell, _⟩ := Kd.R_elem h () (j : Int) (by omega) (by omega)
  have hz : MK 0 j = Z6 := by unfold MK; rw [if_neg (by omega)]
  rw [hz]
  refine ⟨rfl, fun i u hu => ?_⟩
  have e : cs = Z6 := hM
  rw [e] at hcell
  exact hcell i u hu
theorem eq_new : laws_eqNet.f 20 (List.replicate 8 z117) (List.replicate 8 z117) = some true := by decide +kernel
theorem spec_new : spec_NetNew.f = some (List.replicate 8 z117) := by unfold spec_NetNew.f; rw [if_pos (by decide)]
theorem ex_eq (A A1 : Option Addr) (c c1 : Nat) (w : World) (h : Kd.C k117 w A 8 (List.replicate 8 z117)) (hc : 8 ≤ c) (h1 : Kd.C k117 w A1 8 (List.replicate 8 z117)) (hc1 : 8 ≤ c1) :
    Calls Try.prog 51 #[.agg #[.slice A 8 c], .agg #[.slice A1 8 c1]] w fun e w' => e = .returned (.bool true) ∧ Below w.heap.size w w' := by
  obtain ⟨l, hl⟩ : ∃ l, l = List.replicate 8 z117 := ⟨_, rfl⟩
  have h8 : l.length = 8 := by rw [hl]; rfl
  have hq : laws_eqNet.f 20 l l = some true := by rw [hl]; exact eq_new
  rw [← hl] at h h1
  clear hl
  have H := laws_eqNet.calls 20 A c l A1 c1 l true w
  rw [h8] at H
  exact H h hc h1 hc1 hq
theorem ex_spec (w : World) : Calls Try.prog 49 #[] w fun e w' => ∃ (A1 : Option Addr) (c1 : Nat), e = .returned (.agg #[.slice A1 8 c1]) ∧ 8 ≤ c1 ∧ Kd.R k117 117 w' w.heap.size (fun _ => True) (.slice A1 8 c1) (List.replicate 8 z117) ∧ Below w.heap.size w w' :=
  (spec_NetNew.calls _ w spec_new).mono fun e w' ⟨v0, he, hS, hb⟩ => by
    obtain ⟨A1, c1, rfl, hl, hC⟩ := Kd.S_reads hS
    exact ⟨A1, c1, he, hl, Kd.S_R hS, hb⟩
set_option maxHeartbeats 2000000 in
set_option maxRecDepth 100000 in
theorem ex_new (w : World) :
  Calls Try.prog 50 #[] w fun e w' => ∃ (gb c : Nat), e = .returned (.agg #[.slice (some ⟨gb, 0, none⟩) 8 c]) ∧ 8 ≤ c ∧ w.heap.size ≤ gb ∧ Row w' gb (MK 0) ∧ Kd.C k117 w' (some ⟨gb, 0, none⟩) 8 (List.replicate 8 z117) ∧ Below w.heap.size w w' := by
  have hu70 := Try.underlying70
  have HB := Am (Below.refl w.heap.size w)
  go_enter Try.func50, Try.ntmps50
  go_wp2_with (first
    | ((with_reducible refine gate_dst (N := 0) rfl ?_); refine box_event ?hg (N := 0) ?hd (cs := #[.slice none 0 0]) (t := 70) ?hr ?_; (case hd => rfl); (case hg => rfl); (case hr => first | (go_simp; done) | (go_simp; rfl)); intro g2 hg w2 hbox hb; have G2 := Am (show w.heap.size ≤ g2 by rw [hg]; exact bZ HB.out); have HB2 := Am (bP HB.out hb); have BK2 := Am hbox; have hcz := (bC hbox 0).trans rfl; have hfz := blk_frozen hbox 0; clear hbox hb hg HB)
    | ((with_reducible refine gate_dst (N := 1) rfl ?_); refine Kd.S_make kz _ 117 rfl (N := 1) rfl 68 _ _ rfl 8 rfl rfl Try.underlying68 (.agg #[(.int .i64 0), (.string ⟨#[]⟩), (.int .i64 0), (.string ⟨#[]⟩), (.bool false), (.slice none 0 0)]) 80 info117 rfl (by decide) (by omega) () (ok := fun _ => True) (okp := fun _ => True) rfl (fun _ hk => hk) trivial (by omega) (by omega) (Below.refl _ _) (Nat.le_refl _) ?_; intro v1 w3 ho4 hb hg_ hnew_; simp only [Int.reduceToNat] at ho4; obtain ⟨gb, cb, rfl⟩ := kz_slice (Kd.S_R ho4) rfl; have HO := Am (Kd.R_lower (Kd.S_R ho4) (bZ HB2.out)); have BK3 := Am (bB BK2.out hb); have HB3 := Am (bP HB2.out hb); clear hcz hfz; have hcz := (bC BK3.out 0).trans rfl; have hfz := blk_frozen BK3.out 0; clear hb hg_ hnew_ ho4 BK2 HB2))
  have HO5 := Kd.R_far (Kd.R_types HO.out BK3.out (by decide)) (p := ⟨g2, 0, none⟩) (fun _ hk => hk.2) (.slice (some ⟨gb, 0, none⟩) 8 cb)
  obtain ⟨_, hcb, hrd⟩ := Kd.R_reads' HO5
  obtain ⟨hge, hrow⟩ := kz_row HO5 rfl
  have HB5 := bS HB3.out G2.out (j := 0) (v := .slice (some ⟨gb, 0, none⟩) 8 cb)
  have BK5 := Am (blk_put BK3.out 0 (.slice (some ⟨gb, 0, none⟩) 8 cb) (cs' := #[.slice (some ⟨gb, 0, none⟩) 8 cb]) rfl)
  refine bodyPost_ret (results_cell_row rfl _ _ g2 70 #[.slice (some ⟨gb, 0, none⟩) 8 cb] (0, 0) _ rfl BK5.out Try.underlying70 rfl (by kernel_rfl)) rfl ?_
  exact ⟨_, _, rfl, hcb, hge, hrow, kz_k117 hrd, HB5⟩
theorem grown_after {w W W' : World} {g : Nat} (hb : Below w.heap.size w W) (h : W.grownBy W' (some g)) : w.grownBy W' (some g) :=
  ⟨h.os.trans hb.os, h.tape.trans hb.tape, h.output.trans hb.output, Nat.le_trans hb.size h.size, fun k hk hne => (h.block k (Nat.lt_of_lt_of_le hk hb.size) hne).trans (hb.block k hk)⟩
set_option maxHeartbeats 2000000 in
set_option maxRecDepth 100000 in
theorem ex_markNet (gb c : Nat) (w : World) (hr : Row w gb (MK 0)) :
    Calls Try.prog 52 #[.agg #[.slice (some ⟨gb, 0, none⟩) 8 c], .int .i64 1] w fun e w' => e = .returned (.int .i64 41) ∧ w.grownBy w' (some gb) ∧ Row w' gb (MK 8) := by
  have hu70 := Try.underlying70
  have HR := Am hr
  clear hr
  go_enter Try.func52, Try.ntmps52
  go_wp2_with (go_at_call 96; refine (ex_markSockS gb c _ (HR.out.below (oA (bJ _ _) _))).mono ?_; rintro e w' ⟨rfl, hg, hrow⟩; have HG := Am hg; have HW := Am hrow; clear hg hrow)
  go_ret
  exact ⟨rfl, grown_after (oA (bJ _ _) _) HG.out, HW.out⟩
set_option maxHeartbeats 2000000 in
set_option maxRecDepth 100000 in
theorem ex_heldNet (gb c : Nat) (w : World) (hr : Row w gb (MK 8)) :
    Calls Try.prog 53 #[.agg #[.slice (some ⟨gb, 0, none⟩) 8 c], .int .i64 1] w fun e w' => e = .returned (.int .i64 41) ∧ Below w.heap.size w w' := by
  have hu70 := Try.underlying70
  have HR := Am hr
  clear hr
  go_enter Try.func53, Try.ntmps53
  go_wp2_with (go_at_call 97; refine (ex_heldSockS gb c _ (HR.out.below (oA (bJ _ _) _))).mono ?_; rintro e w' ⟨rfl, hb⟩; have HB := Am hb; clear hb)
  go_ret
  exact ⟨rfl, bP (oA (bJ _ _) _) HB.out⟩
end Go.Proofs.Ytehekikjadjdaaa.PFnExactNetNew
