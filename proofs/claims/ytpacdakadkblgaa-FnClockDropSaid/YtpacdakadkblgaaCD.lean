/- Proved here, without a condition beyond those that each theorem states: impl.ClockDrop. Printed by ck.py, a program of this session. -/
import Derived.Test.YtpacdakadkblgaaPFnClockDropx10
import Derived.Test.YtpacdakadkblgaaCK
import Derived.Test.YtpacdakadkblgaaCT
import Derived.Test.YtpacdakadkblgaaCI
namespace Go.Proofs.Ytpacdakadkblgaa.PFnClockDrop
open Go.RowKit Go.Proofs.YtpacdakadkblgaaW.PrintWords Go.Proofs.YtpacdakadkblgaaW.PrintLast Go.Proofs.YtpacdakadkblgaaW.PrintMore
set_option linter.unusedVariables false
set_option linter.unusedSimpArgs false
attribute [local go_sem ↓] isSome_setCell_
theorem clkOk_len {now : Int} {l : List S35} (h : clkOk now l = true) : l.length ≤ 12 := by
  unfold clkOk at h
  rw [Bool.and_eq_true, Bool.and_eq_true, decide_eq_true_eq] at h
  omega
theorem idx_range (l : List S35) (x : Int) : ∀ (d i : Nat), i + d = l.length → (impl_Clock_at.idx l x d i = -1 ∨ ((i : Int) ≤ impl_Clock_at.idx l x d i ∧ impl_Clock_at.idx l x d i < l.length))
  | 0, _, _ => .inl rfl
  | d + 1, i, h => by
    rw [impl_Clock_at.idx]
    by_cases c : (aT l i).f0 = x
    · rw [if_pos c]
      exact .inr ⟨by omega, by omega⟩
    · rw [if_neg c]
      rcases idx_range l x d (i + 1) (by omega) with h1 | ⟨h1, h2⟩
      · exact .inl h1
      · exact .inr ⟨by omega, h2⟩
theorem clone_f {l : List S35} (h : l.length ≤ 1000000) : impl_Alarm_16.f l = some l := by
  unfold impl_Alarm_16.f
  rw [Option.bind_some, if_pos (by simp; omega), List.nil_append]
def impl_ClockDrop.f (a0_0 : Int) (l0_1 : List (S35)) (a1 : Int) : Option (Int × List S35 × Bool) :=
  some (if clkOk a0_0 l0_1 = true then (if 0 ≤ impl_Clock_at.idx l0_1 a1 l0_1.length 0 then (a0_0, l0_1.eraseIdx (impl_Clock_at.idx l0_1 a1 l0_1.length 0).toNat, true) else (0, [], false)) else (0, [], false))
/-- The row of a clone that is not empty. -/
theorem row_form {w : World} {base : Nat} {ok : Nat → Prop} {v : Value} {l : List S35} (h : Kd.R k35 35 w base ok v l) (hl : 0 < l.length) : ∃ g c, v = .slice (some ⟨g, 0, none⟩) l.length c ∧ base ≤ g := by
  obtain ⟨_, inner, ho, _⟩ := h
  obtain ⟨g, c, he, hb, _⟩ := ho.form (by omega)
  exact ⟨g, c, he, hb⟩
set_option maxHeartbeats 4000000 in
set_option maxRecDepth 100000 in
theorem impl_ClockDrop.calls (a0_0 : Int) (A0_1 : Option Addr) (c0_1 : Nat) (l0_1 : List (S35)) (a1 : Int) (r1 : Int) (r2 : List (S35)) (r3 : Bool) (w : World) (hr0_1 : Kd.C k35 w A0_1 l0_1.length l0_1) (hc0_1 : l0_1.length ≤ c0_1) (h : impl_ClockDrop.f a0_0 l0_1 a1 = some (r1, r2, r3)) :
  Calls Try.prog 5 #[.agg #[.int .i64 a0_0, .slice A0_1 l0_1.length c0_1], .int .i64 a1] w fun e w' => ∃ v1_ : Value, e = .returned (.tuple #[.agg #[.int .i64 r1, v1_], .bool r3]) ∧ Kd.R k35 35 w' w.heap.size (fun _ => True) v1_ r2 ∧ Below w.heap.size w w' := by
  have hu23 := Try.underlying23
  have hu25 := Try.underlying25
  have hu35 := Try.underlying35
  
  have H := Option.some.inj h
  have G := Am hr0_1
  have hlen := hr0_1.2.1
  have HL := Am hc0_1
  clear h hr0_1 hc0_1
  have HB := Am (bJ w.heap.size w)
  obtain ⟨q, hq⟩ : ∃ q, impl_Clock_at.idx l0_1 a1 l0_1.length 0 = q := ⟨_, rfl⟩
  have hqr := idx_range l0_1 a1 l0_1.length 0 (by omega)
  rw [hq] at hqr H
  obtain ⟨va, ea⟩ : ∃ b, (clkOk a0_0 l0_1) = b := ⟨_, rfl⟩
  obtain ⟨vb, eb⟩ : ∃ b, (decide (q < 0)) = b := ⟨_, rfl⟩
  have HV0 : ((!(clkOk a0_0 l0_1)) || (decide (q < 0))) = ((!va) || vb) := by rw [ea, eb]
  rcases (by decide : ∀ a b : Bool, (a = false ∧ ((!a) || b) = true) ∨ (a = true ∧ b = false ∧ ((!a) || b) = false) ∨ (a = true ∧ b = true ∧ ((!a) || b) = true)) va vb with ⟨rfl, hv⟩ | ⟨rfl, rfl, hv⟩ | ⟨rfl, rfl, hv⟩
  all_goals have HV := Am (HV0.trans hv); clear HV0 hv
  rotate_left
  · have e2 : ∃ k : Nat, q = k ∧ k < l0_1.length := by
      have := of_decide_eq_false eb
      exact ⟨q.toNat, by omega, by omega⟩
    obtain ⟨k, rfl, hk⟩ := e2
    have hl12 := clkOk_len ea
    rw [ea, if_pos rfl, if_pos (by omega)] at H
    have HK := Am hk
    have HC := Am (clone_f (l := l0_1) (by omega))
    clear hk hl12
    go_enter Try.func5, Try.ntmps5
    go_wp2_with (first
      | ((with_reducible refine gate_dst (N := 2) rfl ?_); refine box_event ?hg (N := 2) ?hd (cs := #[.int .i64 a0_0, .slice A0_1 l0_1.length c0_1]) (t := 25) ?hr ?_; (case hd => rfl); (case hg => rfl); (case hr => first | (go_simp; done) | (go_simp; rfl)); intro gBa hg w_ hbox hb; have Ba := Am hbox; have HB_ := Am (bP (by repeat (first | exact HB.out | apply oA | apply o1)) hb); clear HB hb ; have HB := HB_; clear HB_; clear hg hbox; have Baq0 := cz0 Ba.out; have Baq1 := cz1 Ba.out)
      | ((with_reducible refine gate_dst (N := 4) rfl ?_); refine box_event ?hg (N := 4) ?hd (cs := #[.int .i64 0, .slice none 0 0]) (t := 25) ?hr ?_; (case hd => rfl); (case hg => rfl); (case hr => first | (go_simp; done) | (go_simp; rfl)); intro gRa hg w_ hbox hb; have GERa := Am (show w.heap.size ≤ gRa from by rw [hg]; exact bZ HB.out); have NERaBa := Am (show gRa ≠ gBa from by have := blk_lt Ba.out; omega); have Ra := Am hbox; have HB_ := Am (bP (by repeat (first | exact HB.out | apply oA | apply o1)) hb); have Ba_ := Am (bB (by repeat (first | exact Ba.out | refine bA ?_ _ | refine blk_drew ?_)) hb); clear HB hb Ba; have HB := HB_; clear HB_; (try clear Baq0 Baq1); have Ba := Ba_; clear Ba_; have Baq0 := cz0 Ba.out; have Baq1 := cz1 Ba.out; clear hg hbox; have Raq0 := cz0 Ra.out; have Raq1 := cz1 Ra.out)
      | (go_at_call 14; refine (impl_Clock_at.calls a0_0 A0_1 c0_1 l0_1 a1 _ _ (cB G.out HB.out) HL.out rfl).mono ?_; rintro e w_ ⟨rfl, hb⟩; rw [hq]; have HB_ := Am (bP (by repeat (first | exact HB.out | apply oA | apply o1)) hb); have Ba_ := Am (bB (by repeat (first | exact Ba.out | refine bA ?_ _ | refine blk_drew ?_)) hb); have Ra_ := Am (bB (by repeat (first | exact Ra.out | refine bA ?_ _ | refine blk_drew ?_)) hb); clear HB hb Ba Ra; have HB := HB_; clear HB_; (try clear Baq0 Baq1); have Ba := Ba_; clear Ba_; have Baq0 := cz0 Ba.out; have Baq1 := cz1 Ba.out; (try clear Raq0 Raq1); have Ra := Ra_; clear Ra_; have Raq0 := cz0 Ra.out; have Raq1 := cz1 Ra.out)
      | (go_at_call 10; refine (impl_ClockOk.calls a0_0 A0_1 c0_1 l0_1 _ _ (cB G.out HB.out) HL.out rfl).mono ?_; rintro e w_ ⟨rfl, hb⟩; rw [ea]; have HB_ := Am (bP (by repeat (first | exact HB.out | apply oA | apply o1)) hb); have Ba_ := Am (bB (by repeat (first | exact Ba.out | refine bA ?_ _ | refine blk_drew ?_)) hb); have Ra_ := Am (bB (by repeat (first | exact Ra.out | refine bA ?_ _ | refine blk_drew ?_)) hb); clear HB hb Ba Ra; have HB := HB_; clear HB_; (try clear Baq0 Baq1); have Ba := Ba_; clear Ba_; have Baq0 := cz0 Ba.out; have Baq1 := cz1 Ba.out; (try clear Raq0 Raq1); have Ra := Ra_; clear Ra_; have Raq0 := cz0 Ra.out; have Raq1 := cz1 Ra.out; have Raz0 := blk_frozen Ra.out 0; have Raz1 := blk_frozen Ra.out 1)
      | fail)
    have hw1 : IntKind.i64.wrap ((k : Int) + 1) = (k : Int) + 1 := (wrapE_ _).trans (w64_ (by have := HK.out; omega) (by have := HK.out; omega))
    have hw2 : wrap64 ((k : Int) + 1) = (k : Int) + 1 := w64_ (by have := HK.out; omega) (by have := HK.out; omega)
    clear Raz0 Raz1
    refine via_start (S := fun W => Below w.heap.size w W ∧ W.cell? ⟨gBa, 0, none⟩ = some (.int .i64 a0_0) ∧ W.cell? ⟨gBa, 1, none⟩ = some (.slice A0_1 l0_1.length c0_1)) [(0, 18), (1, 19), (2, 20), (3, 21), (5, 23), (6, 24), (7, 25), (4, 22), (8, 26), (9, 27), (10, 999), (11, 5)] (by kernel_rfl) ?_ (fun hHeld => ?_)
    · exact ⟨o1 HB.out, Baq0, Baq1⟩
    iterate 7 (refine via_take (v := ?_) rfl (by kernel_rfl) (by kernel_rfl) (by kernel_rfl) (by kernel_rfl) (fun _ _ _ h => h) (Or.inl ⟨by rfl, ?_⟩) (by assumption) ?_; rotate_left; (focus (intro w hSw; (try dsimp only at hSw); go_simp; (try with_reducible rfl); done)); (try simp only [Act.put, List.setIfInBounds_toArray, List.set_cons_zero, List.set_cons_succ]))
    (refine via_call rfl (by kernel_rfl) (fun K hK => ?_); (try simp only [List.getElem_toArray, List.getElem_cons_zero, List.getElem_cons_succ]); go_simp; (go_at_call 16; refine (impl_Alarm_16.calls A0_1 c0_1 l0_1 l0_1 _ (cB G.out (o1 HB.out)) HL.out HC.out).mono ?_; rintro e wc_ ⟨v0, rfl, hR, hb⟩; obtain ⟨gM, cM, rfl, hM⟩ := row_form hR (by have := HK.out; omega)); (try go_wp2_with fail); refine hK.out _ _ ?_ (fun hHeld => ?_); (focus (have z := bB (bD Ba.out) hb; exact ⟨bP (o1 HB.out) hb, cz0 z, cz1 z⟩)); clear hK K; (try simp only [Act.put, List.setIfInBounds_toArray, List.set_cons_zero, List.set_cons_succ]))
    have HBc := Am (bP (o1 HB.out) hb)
    have BaC := Am (bB (bD Ba.out) hb)
    have RaC := Am (bB (bD Ra.out) hb)
    have HRc := Am (Kd.R_lower hR (base' := w.heap.size) HB.out.size)
    have hM2 := Am (show w_.heap.size ≤ gM from hM)
    have hRlt := Am (blk_lt Ra.out)
    have hBlt := Am (blk_lt Ba.out)
    clear hR hb hM HB Ba Ra Baq0 Baq1 Raq0 Raq1
    (refine via_call rfl (by kernel_rfl) (fun K hK => ?_); (try simp only [List.getElem_toArray, List.getElem_cons_zero, List.getElem_cons_succ]); go_simp; (go_at_call 15; refine (sDel15.calls (w0 := w) (base := w.heap.size) _ _ k HRc.out rfl rfl HK.out HBc.out HBc.out.size).mono ?_; rintro e wd_ ⟨rfl, hR, hb, hg⟩); (try go_wp2_with fail); refine hK.out _ _ ?_ (fun hHeld => ?_); (focus (have z := blk_grown BaC.out hg (by intro e; injection e with e; have := hM2.out; have := hBlt.out; omega); exact ⟨hb, cz0 z, cz1 z⟩)); clear hK K; (try simp only [Act.put, List.setIfInBounds_toArray, List.set_cons_zero, List.set_cons_succ]))
    have HRd := Am hR
    have HBd := Am hb
    have BaD := Am (blk_grown BaC.out hg (by intro e; injection e with e; have := hM2.out; have := hBlt.out; omega))
    have RaD := Am (blk_grown RaC.out hg (by intro e; injection e with e; have := hM2.out; have := hRlt.out; omega))
    have hBR := Am (show gBa ≠ gRa from Ne.symm NERaBa.out)
    have Raq0 := cz0 RaD.out
    have Raq1 := cz1 RaD.out
    have Raz0 := blk_frozen RaD.out 0
    have Raz1 := blk_frozen RaD.out 1
    clear hR hb hg
    iterate 1 (refine via_take (v := ?_) rfl (by kernel_rfl) (by kernel_rfl) (by kernel_rfl) (by kernel_rfl) (fun _ _ _ h => h) (Or.inl ⟨by rfl, ?_⟩) (by assumption) ?_; rotate_left; (focus (intro w hSw; (try dsimp only at hSw); go_simp; (try with_reducible rfl); done)); (try simp only [Act.put, List.setIfInBounds_toArray, List.set_cons_zero, List.set_cons_succ]))
    (refine via_call rfl (by kernel_rfl) (fun K hK => ?_); (try simp only [List.getElem_toArray, List.getElem_cons_zero, List.getElem_cons_succ]); go_simp; skip; (try go_wp2_with fail); refine hK.out _ _ ?_ (fun hHeld => ?_); (focus (have z := blk_far (blk_far BaD.out (p := ⟨gRa, 0, none⟩) hBR.out (.int .i64 a0_0)) (p := ⟨gRa, 1, none⟩) hBR.out (.slice (some ⟨gM, 0, none⟩) (l0_1.length - 1) cM); exact ⟨(HBd.out.setCell GERa.out _).setCell GERa.out _, cz0 z, cz1 z⟩)); clear hK K; (try simp only [Act.put, List.setIfInBounds_toArray, List.set_cons_zero, List.set_cons_succ]))
    iterate 1 (refine via_take (v := ?_) rfl (by kernel_rfl) (by kernel_rfl) (by kernel_rfl) (by kernel_rfl) (fun _ _ _ h => h) (Or.inl ⟨by rfl, ?_⟩) (by assumption) ?_; rotate_left; (focus (intro w hSw; (try dsimp only at hSw); go_simp; (try with_reducible rfl); done)); (try simp only [Act.put, List.setIfInBounds_toArray, List.set_cons_zero, List.set_cons_succ]))
    refine via_done (by kernel_rfl) ?_
    clear hHeld Raz0 Raz1 Raq0 Raq1
    go_wp2_with fail
    have hp0 := blk_put (cs' := #[.int .i64 a0_0, .slice none 0 0]) RaD.out 0 (.int .i64 a0_0) rfl
    have hp1 := blk_put (cs' := #[.int .i64 a0_0, .slice (some ⟨gM, 0, none⟩) (l0_1.length - 1) cM]) hp0 1 (.slice (some ⟨gM, 0, none⟩) (l0_1.length - 1) cM) rfl
    refine bodyPost_ret (results_ct rfl _ _ gRa 25 #[.int .i64 a0_0, .slice (some ⟨gM, 0, none⟩) (l0_1.length - 1) cM] (0, 0) _ rfl hp1 Try.underlying25 rfl (by kernel_rfl)) rfl ?_
    rw [Int.toNat_natCast] at H
    simp only [Prod.mk.injEq] at H
    obtain ⟨rfl, rfl, rfl⟩ := H
    exact ⟨_, rfl, Kd.R_set (Kd.R_set HRd.out RaD.out (by decide) 0 _) hp0 (by decide) 1 _, (HBd.out.setCell GERa.out _).setCell GERa.out _⟩
  all_goals
    have H2 : ((0, [], false) : Int × List S35 × Bool) = (r1, r2, r3) := by
      first | (rw [ea, if_neg (by decide)] at H; exact H) | (rw [ea, if_pos rfl, if_neg (by have := of_decide_eq_true eb; omega)] at H; exact H)
    simp only [Prod.mk.injEq] at H2
    obtain ⟨rfl, rfl, rfl⟩ := H2
    clear H hqr
    go_enter Try.func5, Try.ntmps5
    go_wp2_with (first
      | ((with_reducible refine gate_dst (N := 2) rfl ?_); refine box_event ?hg (N := 2) ?hd (cs := #[.int .i64 a0_0, .slice A0_1 l0_1.length c0_1]) (t := 25) ?hr ?_; (case hd => rfl); (case hg => rfl); (case hr => first | (go_simp; done) | (go_simp; rfl)); intro gBa hg w_ hbox hb; have Ba := Am hbox; have HB_ := Am (bP (by repeat (first | exact HB.out | apply oA | apply o1)) hb); clear HB hb ; have HB := HB_; clear HB_; clear hg hbox; have Baq0 := cz0 Ba.out; have Baq1 := cz1 Ba.out)
      | ((with_reducible refine gate_dst (N := 4) rfl ?_); refine box_event ?hg (N := 4) ?hd (cs := #[.int .i64 0, .slice none 0 0]) (t := 25) ?hr ?_; (case hd => rfl); (case hg => rfl); (case hr => first | (go_simp; done) | (go_simp; rfl)); intro gRa hg w_ hbox hb; have GERa := Am (show w.heap.size ≤ gRa from by rw [hg]; exact bZ HB.out); have NERaBa := Am (show gRa ≠ gBa from by have := blk_lt Ba.out; omega); have Ra := Am hbox; have HB_ := Am (bP (by repeat (first | exact HB.out | apply oA | apply o1)) hb); have Ba_ := Am (bB (by repeat (first | exact Ba.out | refine bA ?_ _ | refine blk_drew ?_)) hb); clear HB hb Ba; have HB := HB_; clear HB_; (try clear Baq0 Baq1); have Ba := Ba_; clear Ba_; have Baq0 := cz0 Ba.out; have Baq1 := cz1 Ba.out; clear hg hbox; have Raq0 := cz0 Ra.out; have Raq1 := cz1 Ra.out)
      | (go_at_call 14; refine (impl_Clock_at.calls a0_0 A0_1 c0_1 l0_1 a1 _ _ (cB G.out HB.out) HL.out rfl).mono ?_; rintro e w_ ⟨rfl, hb⟩; rw [hq]; have HB_ := Am (bP (by repeat (first | exact HB.out | apply oA | apply o1)) hb); have Ba_ := Am (bB (by repeat (first | exact Ba.out | refine bA ?_ _ | refine blk_drew ?_)) hb); have Ra_ := Am (bB (by repeat (first | exact Ra.out | refine bA ?_ _ | refine blk_drew ?_)) hb); clear HB hb Ba Ra; have HB := HB_; clear HB_; (try clear Baq0 Baq1); have Ba := Ba_; clear Ba_; have Baq0 := cz0 Ba.out; have Baq1 := cz1 Ba.out; (try clear Raq0 Raq1); have Ra := Ra_; clear Ra_; have Raq0 := cz0 Ra.out; have Raq1 := cz1 Ra.out)
      | (go_at_call 10; refine (impl_ClockOk.calls a0_0 A0_1 c0_1 l0_1 _ _ (cB G.out HB.out) HL.out rfl).mono ?_; rintro e w_ ⟨rfl, hb⟩; rw [ea]; have HB_ := Am (bP (by repeat (first | exact HB.out | apply oA | apply o1)) hb); have Ba_ := Am (bB (by repeat (first | exact Ba.out | refine bA ?_ _ | refine blk_drew ?_)) hb); have Ra_ := Am (bB (by repeat (first | exact Ra.out | refine bA ?_ _ | refine blk_drew ?_)) hb); clear HB hb Ba Ra; have HB := HB_; clear HB_; (try clear Baq0 Baq1); have Ba := Ba_; clear Ba_; have Baq0 := cz0 Ba.out; have Baq1 := cz1 Ba.out; (try clear Raq0 Raq1); have Ra := Ra_; clear Ra_; have Raq0 := cz0 Ra.out; have Raq1 := cz1 Ra.out; have Raz0 := blk_frozen Ra.out 0; have Raz1 := blk_frozen Ra.out 1)
      | fail)
    refine bodyPost_ret (results_ct rfl _ _ gRa 25 #[.int .i64 0, .slice none 0 0] (0, 0) _ rfl (blk_put (cs := #[.int .i64 0, .slice none 0 0]) (blk_put (cs := #[.int .i64 0, .slice none 0 0]) Ra.out 0 _ rfl) 1 _ rfl) Try.underlying25 rfl (by kernel_rfl)) rfl ?_
    exact ⟨_, rfl, Kd.R_nil _ _ _ _ _, (HB.out.setCell GERa.out _).setCell GERa.out _⟩
end Go.Proofs.Ytpacdakadkblgaa.PFnClockDrop
