/- Proved here, without a condition beyond those that each theorem states: impl.ClockTick. Printed by ck.py, a program of this session. -/
import Derived.Test.YtpacdakadkblgaaPFnClockDropx10
import Derived.Test.YtpacdakadkblgaaCE
import Derived.Test.YtpacdakadkblgaaCX
namespace Go.Proofs.Ytpacdakadkblgaa.PFnClockDrop
open Go.RowKit Go.Proofs.YtpacdakadkblgaaW.PrintWords Go.Proofs.YtpacdakadkblgaaW.PrintLast Go.Proofs.YtpacdakadkblgaaW.PrintMore
set_option linter.unusedVariables false
set_option linter.unusedSimpArgs false
attribute [local go_sem ↓] isSome_setCell_
def impl_ClockTick.l0 : Nat → Int → List S35 → List Int → Option (List S35 × List Int)
  | 0, _, _, _ => none
  | k + 1, lim, l, r => match l with
    | [] => some ([], r)
    | a :: t => if a.f1 ≤ lim then (if r.length < 1000000 ∧ t.length < 1000000 then impl_ClockTick.l0 k lim (if 0 < a.f2 then putM t ⟨a.f0, wrap64 (a.f1 + a.f2), a.f2⟩ else t) (r ++ [a.f0]) else none) else some (a :: t, r)
def impl_ClockTick.f (k : Nat) (a0_0 : Int) (l0_1 : List (S35)) (a1 : Int) : Option (Int × List S35 × List Int × Bool) :=
  if (clkOk a0_0 l0_1 && (inB a1 0 500 && !decide (4095 < wrap64 (a0_0 + a1)))) = true then (impl_ClockTick.l0 k (wrap64 (a0_0 + a1)) l0_1 []).bind fun p => (if p.1.length < 1000000 then some (wrap64 (a0_0 + a1), p.1, p.2, true) else none) else some (0, [], [], false)
theorem impl_ClockTick.mono_l : ∀ k lim l r, LeO (impl_ClockTick.l0 k lim l r) (impl_ClockTick.l0 (k + 1) lim l r)
  | 0, _, _, _ => LeO.none _
  | k + 1, lim, [], r => LeO.refl _
  | k + 1, lim, a :: t, r => by
    rw [impl_ClockTick.l0, impl_ClockTick.l0]
    exact LeO.ite (LeO.ite (impl_ClockTick.mono_l k _ _ _) (LeO.none _)) (LeO.refl _)
theorem impl_ClockTick.mono : ∀ a0 a1 a2 k, LeO (impl_ClockTick.f k a0 a1 a2) (impl_ClockTick.f (k + 1) a0 a1 a2) := by
  intro a0 a1 a2 k
  unfold impl_ClockTick.f
  exact LeO.ite (LeO.bind (impl_ClockTick.mono_l k _ _ _) (fun _ => LeO.refl _)) (LeO.refl _)
set_option maxHeartbeats 4000000 in
set_option maxRecDepth 100000 in
theorem impl_ClockTick.calls (k : Nat) (a0_0 : Int) (A0_1 : Option Addr) (c0_1 : Nat) (l0_1 : List (S35)) (a1 : Int) (r1 : Int) (r2 : List (S35)) (r3 : List Int) (r4 : Bool) (w : World) (hr0_1 : Kd.C k35 w A0_1 l0_1.length l0_1) (hc0_1 : l0_1.length ≤ c0_1) (h : impl_ClockTick.f k a0_0 l0_1 a1 = some (r1, r2, r3, r4)) :
  Calls Try.prog 8 #[.agg #[.int .i64 a0_0, .slice A0_1 l0_1.length c0_1], .int .i64 a1] w fun e w' => ∃ v1_ v2_ : Value, e = .returned (.tuple #[.agg #[.int .i64 r1, v1_], v2_, .bool r4]) ∧ Kd.R k35 35 w' w.heap.size (fun _ => True) v1_ r2 ∧ Kd.R (Kd.int .i64) 3 w' w.heap.size (fun _ => True) v2_ r3 ∧ Below w.heap.size w w' := by
  have hu23 := Try.underlying23
  have hu25 := Try.underlying25
  have hu31 := Try.underlying31
  have hu35 := Try.underlying35
  
  have H := h
  unfold impl_ClockTick.f at H
  have G := Am hr0_1
  have hlen := hr0_1.2.1
  have HL := Am hc0_1
  clear h hr0_1 hc0_1
  have HB := Am (bJ w.heap.size w)
  obtain ⟨lim, hlim⟩ : ∃ lim, wrap64 (a0_0 + a1) = lim := ⟨_, rfl⟩
  have hlimE : IntKind.i64.wrap (a0_0 + a1) = lim := (wrapE_ _).trans hlim
  rw [hlim] at H
  obtain ⟨va, ea⟩ : ∃ b, (clkOk a0_0 l0_1) = b := ⟨_, rfl⟩
  obtain ⟨vb, eb⟩ : ∃ b, (inB a1 0 500) = b := ⟨_, rfl⟩
  obtain ⟨vg, eg⟩ : ∃ b, (decide (4095 < lim)) = b := ⟨_, rfl⟩
  have HV0 : ((!(clkOk a0_0 l0_1)) || ((!(inB a1 0 500)) || (decide (4095 < lim)))) = ((!va) || ((!vb) || vg)) := by rw [ea, eb, eg]
  rcases (by decide : ∀ a b g : Bool, (a = false ∧ ((!a) || ((!b) || g)) = true) ∨ (a = true ∧ b = false ∧ ((!a) || ((!b) || g)) = true) ∨ (a = true ∧ b = true ∧ g = false ∧ ((!a) || ((!b) || g)) = false) ∨ (a = true ∧ b = true ∧ g = true ∧ ((!a) || ((!b) || g)) = true)) va vb vg with ⟨rfl, hv⟩ | ⟨rfl, rfl, hv⟩ | ⟨rfl, rfl, rfl, hv⟩ | ⟨rfl, rfl, rfl, hv⟩
  all_goals have HV := Am (HV0.trans hv); clear HV0 hv
  rotate_left 2
  · rw [ea, eb, eg, show (true && (true && !false)) = true from rfl, if_pos rfl] at H
    have HC := Am (clone_f (l := l0_1) (by have := clkOk_len ea; omega))
    have H12 := Am (clkOk_len ea)
    go_enter Try.func8, Try.ntmps8
    go_wp2_with (first
      | ((with_reducible refine gate_dst (N := 2) rfl ?_); refine box_event ?hg (N := 2) ?hd (cs := #[.int .i64 a0_0, .slice A0_1 l0_1.length c0_1]) (t := 25) ?hr ?_; (case hd => rfl); (case hg => rfl); (case hr => first | (go_simp; done) | (go_simp; rfl)); intro gBa hg w_ hbox hb; have Ba := Am hbox; have HB_ := Am (bP (by repeat (first | exact HB.out | apply oA | apply o1)) hb); clear HB hb ; have HB := HB_; clear HB_; clear hg hbox; have Baq0 := cz0 Ba.out; have Baq1 := cz1 Ba.out)
      | ((with_reducible refine gate_dst (N := 4) rfl ?_); refine box_event ?hg (N := 4) ?hd (cs := #[.int .i64 0, .slice none 0 0]) (t := 25) ?hr ?_; (case hd => rfl); (case hg => rfl); (case hr => first | (go_simp; done) | (go_simp; rfl)); intro gRa hg w_ hbox hb; have GERa := Am (show w.heap.size ≤ gRa from by rw [hg]; exact bZ HB.out); have NERaBa := Am (show gRa ≠ gBa from by have := blk_lt Ba.out; omega); have Ra := Am hbox; have HB_ := Am (bP (by repeat (first | exact HB.out | apply oA | apply o1)) hb); have Ba_ := Am (bB (by repeat (first | exact Ba.out | refine bA ?_ _ | refine blk_drew ?_)) hb); clear HB hb Ba; have HB := HB_; clear HB_; (try clear Baq0 Baq1); have Ba := Ba_; clear Ba_; have Baq0 := cz0 Ba.out; have Baq1 := cz1 Ba.out; clear hg hbox; have Raq0 := cz0 Ra.out; have Raq1 := cz1 Ra.out)
      | (go_at_call 10; refine (impl_ClockOk.calls a0_0 A0_1 c0_1 l0_1 _ _ (cB G.out HB.out) HL.out rfl).mono ?_; rintro e w_ ⟨rfl, hb⟩; rw [ea]; have HB_ := Am (bP (by repeat (first | exact HB.out | apply oA | apply o1)) hb); have Ba_ := Am (bB (by repeat (first | exact Ba.out | refine bA ?_ _ | refine blk_drew ?_)) hb); have Ra_ := Am (bB (by repeat (first | exact Ra.out | refine bA ?_ _ | refine blk_drew ?_)) hb); clear HB hb Ba Ra; have HB := HB_; clear HB_; (try clear Baq0 Baq1); have Ba := Ba_; clear Ba_; have Baq0 := cz0 Ba.out; have Baq1 := cz1 Ba.out; (try clear Raq0 Raq1); have Ra := Ra_; clear Ra_; have Raq0 := cz0 Ra.out; have Raq1 := cz1 Ra.out)
      | (go_at_call 19; refine (in_ _ _ _ _).mono ?_; rintro e w_ ⟨rfl, hb⟩; rw [eb]; have HB_ := Am (bP (by repeat (first | exact HB.out | apply oA | apply o1)) hb); have Ba_ := Am (bB (by repeat (first | exact Ba.out | refine bA ?_ _ | refine blk_drew ?_)) hb); have Ra_ := Am (bB (by repeat (first | exact Ra.out | refine bA ?_ _ | refine blk_drew ?_)) hb); clear HB hb Ba Ra; have HB := HB_; clear HB_; (try clear Baq0 Baq1); have Ba := Ba_; clear Ba_; have Baq0 := cz0 Ba.out; have Baq1 := cz1 Ba.out; (try clear Raq0 Raq1); have Ra := Ra_; clear Ra_; have Raq0 := cz0 Ra.out; have Raq1 := cz1 Ra.out)
      | fail)
    have hRlt := Am (blk_lt Ra.out)
    have hBlt := Am (blk_lt Ba.out)
    have hBR := Am (show gBa ≠ gRa from Ne.symm NERaBa.out)
    refine via_start (S := fun W => Below w.heap.size w W ∧ W.cell? ⟨gBa, 0, none⟩ = some (.int .i64 a0_0) ∧ W.cell? ⟨gBa, 1, none⟩ = some (.slice A0_1 l0_1.length c0_1)) [(0, 26), (1, 27), (2, 28), (3, 29), (4, 30), (5, 31), (6, 32), (8, 7)] (by kernel_rfl) ?_ (fun hHeld => ?_)
    · exact ⟨o1 HB.out, Baq0, Baq1⟩
    iterate 6 (refine via_take (v := ?_) rfl (by kernel_rfl) (by kernel_rfl) (by kernel_rfl) (by kernel_rfl) (fun _ _ _ h => h) (Or.inl ⟨by rfl, ?_⟩) (by assumption) ?_; rotate_left; (focus (intro w hSw; (try dsimp only at hSw); go_simp; (try with_reducible rfl); done)); (try simp only [Act.put, List.setIfInBounds_toArray, List.set_cons_zero, List.set_cons_succ]))
    refine via_two (i := 6) (j := 8) [(7, 33), (8, 7), (9, 999)] [(6, 32), (7, 33), (9, 999)] rfl rfl (by kernel_rfl) (fun K hK => ?_) (fun K hK => ?_)
    focus
      ((try simp only [List.getElem_toArray, List.getElem_cons_zero, List.getElem_cons_succ]); go_simp; (go_at_call 16; refine (impl_Alarm_16.calls A0_1 c0_1 l0_1 l0_1 _ (cB G.out (o1 HB.out)) HL.out HC.out).mono ?_; rintro e wc_ ⟨v0, rfl, hR, hb⟩; obtain ⟨A0, c0, rfl⟩ := Kd.R_slice hR); (try go_wp2_with fail); refine hK.out _ _ ?_ (fun hHeld => ?_); (focus (have z := bB (bD Ba.out) hb; exact ⟨bP (o1 HB.out) hb, cz0 z, cz1 z⟩)); clear hK K; (try simp only [Act.put, List.setIfInBounds_toArray, List.set_cons_zero, List.set_cons_succ]))
      iterate 1 (refine via_take (v := ?_) rfl (by kernel_rfl) (by kernel_rfl) (by kernel_rfl) (by kernel_rfl) (fun _ _ _ h => h) (Or.inl ⟨by rfl, ?_⟩) (by assumption) ?_; rotate_left; (focus (intro w hSw; (try dsimp only at hSw); go_simp; (try with_reducible rfl); done)); (try simp only [Act.put, List.setIfInBounds_toArray, List.set_cons_zero, List.set_cons_succ]))
      have HBc := Am (bP (o1 HB.out) hb)
      have BaC := Am (bB (bD Ba.out) hb)
      have RaC := Am (bB (bD Ra.out) hb)
      have HRc := Am (Kd.R_lower hR (base' := w.heap.size) HB.out.size)
      (refine via_call rfl (by kernel_rfl) (fun K hK => ?_); (try simp only [List.getElem_toArray, List.getElem_cons_zero, List.getElem_cons_succ]); go_simp; skip; (try go_wp2_with fail); refine hK.out _ _ ?_ (fun hHeld => ?_); (focus (have z := blk_alloc BaC.out (.cells #[.int .i64 0, .slice none 0 0] 25); exact ⟨oA HBc.out _, cz0 z, cz1 z⟩)); clear hK K; (try simp only [Act.put, List.setIfInBounds_toArray, List.set_cons_zero, List.set_cons_succ]))
      have HBA := Am (show Below w.heap.size w (World.alloc wc_ (.cells #[.int .i64 0, .slice none 0 0] 25)) from oA HBc.out _)
      have BaA := Am (show (World.alloc wc_ (.cells #[.int .i64 0, .slice none 0 0] 25)).heap[gBa]? = _ from blk_alloc BaC.out _)
      have RaA := Am (show (World.alloc wc_ (.cells #[.int .i64 0, .slice none 0 0] 25)).heap[gRa]? = _ from blk_alloc RaC.out _)
      have DaA := Am (show (World.alloc wc_ (.cells #[.int .i64 0, .slice none 0 0] 25)).heap[wc_.heap.size]? = some (.cells #[.int .i64 0, .slice none 0 0] 25) from blk_new _ _)
      have HRA := Am (show Kd.R k35 35 (World.alloc wc_ (.cells #[.int .i64 0, .slice none 0 0] 25)) w.heap.size (fun _ => True) (.slice A0 l0_1.length c0) l0_1 from Kd.R_alloc HRc.out _)
      obtain ⟨gDa, hgD⟩ : ∃ g, g = wc_.heap.size := ⟨_, rfl⟩
      have GEDa := Am (show w.heap.size ≤ gDa by rw [hgD]; exact HBc.out.size)
      have hRD := Am (show gRa ≠ gDa by have := blk_lt RaC.out; omega)
      have hBD := Am (show gBa ≠ gDa by have := blk_lt BaC.out; omega)
      rw [← hgD] at DaA ⊢
      clear hgD HBc BaC RaC HRc hR hb
      generalize World.alloc wc_ _ = WA at HBA BaA RaA DaA HRA hHeld ⊢
    rotate_left
    focus
      ((try simp only [List.getElem_toArray, List.getElem_cons_zero, List.getElem_cons_succ]); go_simp; skip; (try go_wp2_with fail); refine hK.out _ _ ?_ (fun hHeld => ?_); (focus (have z := blk_alloc (blk_drew Ba.out) (.cells #[.int .i64 0, .slice none 0 0] 25); exact ⟨oA (o1 HB.out) _, cz0 z, cz1 z⟩)); clear hK K; (try simp only [Act.put, List.setIfInBounds_toArray, List.set_cons_zero, List.set_cons_succ]))
      have HB1 := Am (show Below w.heap.size w (World.drew (World.alloc w_ (.cells #[.int .i64 0, .slice none 0 0] 25))) from o1 (oA HB.out _))
      have Ba1 := Am (show (World.drew (World.alloc w_ (.cells #[.int .i64 0, .slice none 0 0] 25))).heap[gBa]? = _ from blk_drew (blk_alloc Ba.out _))
      have Ra1 := Am (show (World.drew (World.alloc w_ (.cells #[.int .i64 0, .slice none 0 0] 25))).heap[gRa]? = _ from blk_drew (blk_alloc Ra.out _))
      have DaA := Am (show (World.drew (World.alloc w_ (.cells #[.int .i64 0, .slice none 0 0] 25))).heap[w_.heap.size]? = some (.cells #[.int .i64 0, .slice none 0 0] 25) from blk_drew (blk_new _ _))
      obtain ⟨gDa, hgD⟩ : ∃ g, g = w_.heap.size := ⟨_, rfl⟩
      have GEDa := Am (show w.heap.size ≤ gDa by rw [hgD]; exact HB.out.size)
      have hRD := Am (show gRa ≠ gDa by have := blk_lt Ra.out; omega)
      have hBD := Am (show gBa ≠ gDa by have := blk_lt Ba.out; omega)
      rw [← hgD] at DaA ⊢
      clear hgD
      generalize World.drew (World.alloc w_ _) = WA at HB1 Ba1 Ra1 DaA hHeld ⊢
      (refine via_call rfl (by kernel_rfl) (fun K hK => ?_); (try simp only [List.getElem_toArray, List.getElem_cons_zero, List.getElem_cons_succ]); go_simp; (go_at_call 16; refine (impl_Alarm_16.calls A0_1 c0_1 l0_1 l0_1 _ (cB G.out HB1.out) HL.out HC.out).mono ?_; rintro e wc_ ⟨v0, rfl, hR, hb⟩; obtain ⟨A0, c0, rfl⟩ := Kd.R_slice hR); (try go_wp2_with fail); refine hK.out _ _ ?_ (fun hHeld => ?_); (focus (have z := bB Ba1.out hb; exact ⟨bP HB1.out hb, cz0 z, cz1 z⟩)); clear hK K; (try simp only [Act.put, List.setIfInBounds_toArray, List.set_cons_zero, List.set_cons_succ]))
      iterate 1 (refine via_take (v := ?_) rfl (by kernel_rfl) (by kernel_rfl) (by kernel_rfl) (by kernel_rfl) (fun _ _ _ h => h) (Or.inl ⟨by rfl, ?_⟩) (by assumption) ?_; rotate_left; (focus (intro w hSw; (try dsimp only at hSw); go_simp; (try with_reducible rfl); done)); (try simp only [Act.put, List.setIfInBounds_toArray, List.set_cons_zero, List.set_cons_succ]))
      have HBA := Am (bP HB1.out hb)
      have BaA := Am (bB Ba1.out hb)
      have RaA := Am (bB Ra1.out hb)
      have DaA := Am (bB DaA.out hb)
      have HRA := Am (Kd.R_lower hR (base' := w.heap.size) HB1.out.size)
      clear HB1 Ba1 Ra1 hR hb
    all_goals
      have dq0 := cz0 DaA.out
      have dq1 := cz1 DaA.out
      have dz0 := blk_frozen DaA.out 0
      have dz1 := blk_frozen DaA.out 1
      clear HB Ba Ra Baq0 Baq1 Raq0 Raq1
      (refine via_call rfl (by kernel_rfl) (fun K hK => ?_); (try simp only [List.getElem_toArray, List.getElem_cons_zero, List.getElem_cons_succ]); go_simp; skip; (try go_wp2_with fail); refine hK.out _ _ ?_ (fun hHeld => ?_); (focus (have z := blk_far (blk_far BaA.out (p := ⟨gDa, 0, none⟩) hBD.out (.int .i64 lim)) (p := ⟨gDa, 1, none⟩) hBD.out (.slice A0 l0_1.length c0); exact ⟨(HBA.out.setCell GEDa.out _).setCell GEDa.out _, cz0 z, cz1 z⟩)); clear hK K; (try simp only [Act.put, List.setIfInBounds_toArray, List.set_cons_zero, List.set_cons_succ]))
      refine via_done (by kernel_rfl) ?_
      have hp0 := blk_put (cs' := #[.int .i64 lim, .slice none 0 0]) DaA.out 0 (.int .i64 lim) rfl
      have Da := Am (blk_put (cs' := #[.int .i64 lim, .slice A0 l0_1.length c0]) hp0 1 (.slice A0 l0_1.length c0) rfl)
      have Ba := Am (blk_far (blk_far BaA.out (p := ⟨gDa, 0, none⟩) hBD.out (.int .i64 lim)) (p := ⟨gDa, 1, none⟩) hBD.out (.slice A0 l0_1.length c0))
      have Ra := Am (blk_far (blk_far RaA.out (p := ⟨gDa, 0, none⟩) hRD.out (.int .i64 lim)) (p := ⟨gDa, 1, none⟩) hRD.out (.slice A0 l0_1.length c0))
      have HRD := Am (Kd.R_set (Kd.R_set HRA.out DaA.out (by decide) 0 (.int .i64 lim)) hp0 (by decide) 1 (.slice A0 l0_1.length c0))
      have HB := Am ((HBA.out.setCell (p := ⟨gDa, 0, none⟩) GEDa.out (.int .i64 lim)).setCell (p := ⟨gDa, 1, none⟩) GEDa.out (.slice A0 l0_1.length c0))
      clear dq0 dq1 dz0 dz1 hHeld hp0 DaA BaA RaA HBA HRA
      generalize World.setCell (World.setCell _ _ _) _ _ = WD at Da Ba Ra HRD HB ⊢
      have HQ := Am (Kd.Q_of_R HRD.out)
      obtain ⟨p, hp, H⟩ := Option.bind_eq_some_iff.1 H
      by_cases hp6 : p.1.length < 1000000
      rotate_left
      · rw [if_neg hp6] at H
        cases H
      rw [if_pos hp6] at H
      have H2 := Option.some.inj H
      simp only [Prod.mk.injEq] at H2
      obtain ⟨rfl, rfl, rfl, rfl⟩ := H2
      clear H HRD HC hlim hlimE
      have HP := Am hp
      have HP6 := Am hp6
      clear hp hp6
      have Raq0 := cz0 Ra.out; have Raq1 := cz1 Ra.out
      go_wp2_with (first
        | ((with_reducible refine gate_dst (N := 34) rfl ?_); refine Kd.R_lit (Kd.int .i64) (w0 := w) w.heap.size 3 ?hg (N := 34) ?hd (xs := ([] : List Int)) (inner := []) (ok := fun _ => True) (okp := fun _ => True) ?hr ?hp (fun _ hk => hk) trivial HB.out HB.out.size (by simp) ?_; (case hd => rfl); (case hg => rfl); (case hr => first | (go_simp; done) | (go_simp; rfl)); (case hp => exact Reps.none _ _); intro u0 w_ ho hb hg_ hnew_; have HU := Am ho; have HB1 := Am hb; have Da1 := Am (blk_grown Da.out hg_ (by simp)); have Ra1 := Am (blk_grown Ra.out hg_ (by simp)); have HQ1 := Am (Kd.Q_grown HQ.out hg_ (fun _ _ => by simp)); clear HB Da Ra Ba HQ Raq0 Raq1 hb ho hg_ hnew_; have HB := HB1; have Da := Da1; have Ra := Ra1; have HQ := HQ1; clear HB1 Da1 Ra1 HQ1)
        | fail)
      go_loopg [8] k (fun kq v8 w' => ∃ (u : Value) (l : List S35) (r : List Int) (A : Option Addr) (n c : Nat), u = v8 ∧ Aside0 (w'.heap[gDa]? = some (.cells #[.int .i64 lim, .slice A n c] 25 (0, 0))) ∧ Aside0 (Kd.Q k35 35 w' w.heap.size (fun _ => True) (.slice A n c) l) ∧ Aside0 (Kd.R (Kd.int .i64) 3 w' w.heap.size (fun _ => True) u r) ∧ Aside0 (w'.heap[gRa]? = some (.cells #[.int .i64 0, .slice none 0 0] 25 (0, 0))) ∧ Aside0 (Below w.heap.size w w') ∧ Aside0 (impl_ClockTick.l0 kq lim l r = some p))
      case atStart => exact ⟨u0, l0_1, [], A0, l0_1.length, c0, rfl, Da, HQ, HU, Ra, HB, HP⟩
      case round =>
        clear Da HQ HU Ra HB HP
        obtain ⟨u, l, r, A, n, c, rfl, Da, HQ, HU, Ra, HB, HP⟩ := hrel
        have Daq0 := cz0 Da.out; have Daq1 := cz1 Da.out
        rcases gk with _ | gk
        · exact absurd HP.out (by simp [impl_ClockTick.l0])
        rcases l with _ | ⟨a, t⟩
        · obtain rfl : n = 0 := (Kd.Q_reads' HQ.out).1
          have hpe := Am (Option.some.inj HP.out)
          have HLn := Am (show ([] : List S35).length < 1000000 by decide)
          have HM := Am (fun W (hb : Below wr.heap.size wr W) => (⟨hb, pw_cell_below hb Daq0, pw_cell_below hb Daq1⟩ : Below wr.heap.size wr W ∧ W.cell? ⟨gDa, 0, none⟩ = some (.int .i64 lim) ∧ W.cell? ⟨gDa, 1, none⟩ = some (.slice A 0 c)))
          go_wp2_with fail
          refine via_go HM [(0, 35), (1, 36), (2, 37), (3, 38), (4, 39), (5, 40), (6, 41), (7, 42), (8, 43), (9, 44), (10, 45), (11, 46), (12, 47), (13, 48)] (by as_aux_lemma => kernel_rfl) ?_ (fun hHeld => ?_)
          · (first | with_reducible exact HM.out _ (o1 (bJ _ _)) | with_reducible assumption | exact HM.out _ (bP (And.left (by assumption : Below wr.heap.size wr _ ∧ _)) (by assumption)))
          repeat (first
            | (refine via_take (v := ?_) rfl (by as_aux_lemma => kernel_rfl) (by as_aux_lemma => kernel_rfl) (by as_aux_lemma => kernel_rfl) (by as_aux_lemma => kernel_rfl) (fun _ _ _ h => h) (Or.inl ⟨by rfl, ?_⟩) (by assumption) ?_; rotate_left; (focus (intro w hSw; (try dsimp only at hSw); go_simp; (try with_reducible rfl); done)); (try simp only [Act.put, List.setIfInBounds_toArray, List.set_cons_zero, List.set_cons_succ]))
            | (refine via_take rfl (by as_aux_lemma => kernel_rfl) (by as_aux_lemma => kernel_rfl) (by as_aux_lemma => kernel_rfl) (by as_aux_lemma => kernel_rfl) (fun _ _ _ h => h) (Or.inr ⟨by rfl, rfl⟩) (by assumption) ?_; (try simp only [Act.put, List.setIfInBounds_toArray, List.set_cons_zero, List.set_cons_succ])))
          refine via_done (by as_aux_lemma => kernel_rfl) ?_
          have HE := Am (And.left (by assumption : Below wr.heap.size wr _ ∧ _))
          have HQ2 := Am (Kd.Q_below HQ.out HE.out)
          have HU2 := Am (Kd.R_below HU.out HE.out)
          have Ra2 := Am (bB Ra.out HE.out)
          have HB_ := Am (bP HB.out HE.out); clear HB; have HB := HB_; clear HB_; have Da_ := Am (bB Da.out HE.out); clear Da Daq0 Daq1; have Da := Da_; clear Da_; have Daq0 := cz0 Da.out; have Daq1 := cz1 Da.out; clear HE
          clear HQ HU Ra HM hHeld
          have GQ := Am (Kd.Q_reads' HQ2.out)
          go_wp2_with (first
            | (go_at_call 16; refine (impl_Alarm_16.calls A c [] [] _ GQ.out.2.2 GQ.out.2.1 (clone_f (Nat.le_of_lt HLn.out))).mono ?_; rintro e wc_ ⟨v0, rfl, hR, hb⟩; obtain ⟨A1, c1, rfl⟩ := Kd.R_slice hR; have HRc := Am (Kd.R_lower hR (base' := w.heap.size) HB.out.size); have HBc := Am (bP HB.out hb); have HUc := Am (Kd.R_below HU2.out hb); have DaC := Am (bB Da.out hb); have RaC := Am (bB Ra2.out hb); clear hR hb HB HU2 Da Ra2 Daq0 Daq1 HQ2 GQ; have Daq0 := cz0 DaC.out; have Daq1 := cz1 DaC.out; have Daz1 := blk_frozen DaC.out 1; have Raq0 := cz0 RaC.out; have Raq1 := cz1 RaC.out; have Raz0 := blk_frozen RaC.out 0; have Raz1 := blk_frozen RaC.out 1; have hne1 : ¬ gRa = gDa := hRD.out; have hne2 : ¬ gDa = gRa := Ne.symm hRD.out)
            | fail)
          have pD := blk_put (cs' := #[.int .i64 lim, .slice A1 ([] : List S35).length c1]) DaC.out 1 (.slice A1 ([] : List S35).length c1) rfl
          have pR := blk_far RaC.out (p := ⟨gDa, 1, none⟩) hRD.out (.slice A1 ([] : List S35).length c1)
          have pR0 := blk_put (cs' := #[.int .i64 lim, .slice none 0 0]) pR 0 (.int .i64 lim) rfl
          have pR1 := blk_put (cs' := #[.int .i64 lim, .slice A1 ([] : List S35).length c1]) pR0 1 (.slice A1 ([] : List S35).length c1) rfl
          refine bodyPost_ret (results_ctt rfl _ _ gRa 25 #[.int .i64 lim, .slice A1 ([] : List S35).length c1] (0, 0) _ rfl pR1 Try.underlying25 rfl (by kernel_rfl)) rfl ?_
          rw [← hpe.out]
          exact ⟨_, _, rfl, Kd.R_set (Kd.R_set (Kd.R_set HRc.out DaC.out (by decide) 1 _) pR (by decide) 0 _) pR0 (by decide) 1 _, Kd.R_set (Kd.R_set (Kd.R_set HUc.out DaC.out (by decide) 1 _) pR (by decide) 0 _) pR0 (by decide) 1 _, ((HBc.out.setCell GEDa.out _).setCell GERa.out _).setCell GERa.out _⟩
        obtain ⟨gM, o, rfl, hn, hnc, s0, s1, s2⟩ := head_cells HQ.out
        have HN := Am (And.intro hn hnc)
        have d1 : decide ((n : Int) > 0) = true := decide_eq_true (by omega)
        have d2 : decide ((0 : Int) < (n : Int)) = true := decide_eq_true (by omega)
        have d3 : decide (0 < n) = true := decide_eq_true (by omega)
        have d4 := eq_true (show (0 : Int) < (n : Int) by omega)
        have d5 := eq_true (show 0 < n by omega)
        have HP2 := HP.out
        rw [impl_ClockTick.l0] at HP2
        clear hn hnc
        rcases bc (decide (a.f1 ≤ lim)) with eb | eb
        · have HM := Am (fun W (hb : Below wr.heap.size wr W) => (⟨hb, pw_cell_below hb Daq0, pw_cell_below hb Daq1, pw_cell_below hb s0, pw_cell_below hb s1⟩ : Below wr.heap.size wr W ∧ W.cell? ⟨gDa, 0, none⟩ = some (.int .i64 lim) ∧ W.cell? ⟨gDa, 1, none⟩ = some (.slice (some ⟨gM, o, none⟩) n c) ∧ W.cell? ⟨gM, o, none⟩ = some (.int .i64 a.f0) ∧ W.cell? ⟨gM, o + 1, none⟩ = some (.int .i64 a.f1)))
          go_wp2_with fail
          refine via_go HM [(0, 35), (1, 36), (2, 37), (3, 38), (4, 39), (5, 40), (6, 41), (7, 42), (8, 43), (9, 44), (10, 45), (11, 46), (12, 47), (13, 48)] (by as_aux_lemma => kernel_rfl) ?_ (fun hHeld => ?_)
          · (first | with_reducible exact HM.out _ (o1 (bJ _ _)) | with_reducible assumption | exact HM.out _ (bP (And.left (by assumption : Below wr.heap.size wr _ ∧ _)) (by assumption)))
          repeat (first
            | (refine via_take (v := ?_) rfl (by as_aux_lemma => kernel_rfl) (by as_aux_lemma => kernel_rfl) (by as_aux_lemma => kernel_rfl) (by as_aux_lemma => kernel_rfl) (fun _ _ _ h => h) (Or.inl ⟨by rfl, ?_⟩) (by assumption) ?_; rotate_left; (focus (intro w hSw; (try dsimp only at hSw); go_simp; (try with_reducible rfl); done)); (try simp only [Act.put, List.setIfInBounds_toArray, List.set_cons_zero, List.set_cons_succ]))
            | (refine via_take rfl (by as_aux_lemma => kernel_rfl) (by as_aux_lemma => kernel_rfl) (by as_aux_lemma => kernel_rfl) (by as_aux_lemma => kernel_rfl) (fun _ _ _ h => h) (Or.inr ⟨by rfl, rfl⟩) (by assumption) ?_; (try simp only [Act.put, List.setIfInBounds_toArray, List.set_cons_zero, List.set_cons_succ])))
          refine via_done (by as_aux_lemma => kernel_rfl) ?_
          have HE := Am (And.left (by assumption : Below wr.heap.size wr _ ∧ _))
          obtain ⟨rfl, hnc⟩ := HN.out
          have hpe := Am (show (a :: t, r) = p by rw [if_neg (of_decide_eq_false eb)] at HP2; exact Option.some.inj HP2)
          have HLn := Am (show (a :: t).length < 1000000 by have := HP6.out; rw [← hpe.out] at this; exact this)
          have HQ2 := Am (Kd.Q_below HQ.out HE.out)
          have HU2 := Am (Kd.R_below HU.out HE.out)
          have Ra2 := Am (bB Ra.out HE.out)
          have HB_ := Am (bP HB.out HE.out); clear HB; have HB := HB_; clear HB_; have Da_ := Am (bB Da.out HE.out); clear Da Daq0 Daq1; have Da := Da_; clear Da_; have Daq0 := cz0 Da.out; have Daq1 := cz1 Da.out; clear HE
          clear HQ HU Ra HM hHeld
          have GQ := Am (Kd.Q_reads' HQ2.out)
          go_wp2_with (first
            | (go_at_call 16; refine (impl_Alarm_16.calls (some ⟨gM, o, none⟩) c (a :: t) (a :: t) _ GQ.out.2.2 GQ.out.2.1 (clone_f (Nat.le_of_lt HLn.out))).mono ?_; rintro e wc_ ⟨v0, rfl, hR, hb⟩; obtain ⟨A1, c1, rfl⟩ := Kd.R_slice hR; have HRc := Am (Kd.R_lower hR (base' := w.heap.size) HB.out.size); have HBc := Am (bP HB.out hb); have HUc := Am (Kd.R_below HU2.out hb); have DaC := Am (bB Da.out hb); have RaC := Am (bB Ra2.out hb); clear hR hb HB HU2 Da Ra2 Daq0 Daq1 HQ2 GQ; have Daq0 := cz0 DaC.out; have Daq1 := cz1 DaC.out; have Daz1 := blk_frozen DaC.out 1; have Raq0 := cz0 RaC.out; have Raq1 := cz1 RaC.out; have Raz0 := blk_frozen RaC.out 0; have Raz1 := blk_frozen RaC.out 1; have hne1 : ¬ gRa = gDa := hRD.out; have hne2 : ¬ gDa = gRa := Ne.symm hRD.out)
            | fail)
          have pD := blk_put (cs' := #[.int .i64 lim, .slice A1 ((a :: t) : List S35).length c1]) DaC.out 1 (.slice A1 ((a :: t) : List S35).length c1) rfl
          have pR := blk_far RaC.out (p := ⟨gDa, 1, none⟩) hRD.out (.slice A1 ((a :: t) : List S35).length c1)
          have pR0 := blk_put (cs' := #[.int .i64 lim, .slice none 0 0]) pR 0 (.int .i64 lim) rfl
          have pR1 := blk_put (cs' := #[.int .i64 lim, .slice A1 ((a :: t) : List S35).length c1]) pR0 1 (.slice A1 ((a :: t) : List S35).length c1) rfl
          refine bodyPost_ret (results_ctt rfl _ _ gRa 25 #[.int .i64 lim, .slice A1 ((a :: t) : List S35).length c1] (0, 0) _ rfl pR1 Try.underlying25 rfl (by kernel_rfl)) rfl ?_
          rw [← hpe.out]
          exact ⟨_, _, rfl, Kd.R_set (Kd.R_set (Kd.R_set HRc.out DaC.out (by decide) 1 _) pR (by decide) 0 _) pR0 (by decide) 1 _, Kd.R_set (Kd.R_set (Kd.R_set HUc.out DaC.out (by decide) 1 _) pR (by decide) 0 _) pR0 (by decide) 1 _, ((HBc.out.setCell GEDa.out _).setCell GERa.out _).setCell GERa.out _⟩
        · have HM := Am (fun W (hb : Below wr.heap.size wr W) => (⟨hb, pw_cell_below hb Daq0, pw_cell_below hb Daq1, pw_cell_below hb s0, pw_cell_below hb s1⟩ : Below wr.heap.size wr W ∧ W.cell? ⟨gDa, 0, none⟩ = some (.int .i64 lim) ∧ W.cell? ⟨gDa, 1, none⟩ = some (.slice (some ⟨gM, o, none⟩) n c) ∧ W.cell? ⟨gM, o, none⟩ = some (.int .i64 a.f0) ∧ W.cell? ⟨gM, o + 1, none⟩ = some (.int .i64 a.f1)))
          go_wp2_with fail
          refine via_go HM [(0, 35), (1, 36), (2, 37), (3, 38), (4, 39), (5, 40), (6, 41), (7, 42), (8, 43), (9, 44), (10, 45), (11, 46), (12, 47), (13, 48)] (by as_aux_lemma => kernel_rfl) ?_ (fun hHeld => ?_)
          · (first | with_reducible exact HM.out _ (o1 (bJ _ _)) | with_reducible assumption | exact HM.out _ (bP (And.left (by assumption : Below wr.heap.size wr _ ∧ _)) (by assumption)))
          repeat (first
            | (refine via_take (v := ?_) rfl (by as_aux_lemma => kernel_rfl) (by as_aux_lemma => kernel_rfl) (by as_aux_lemma => kernel_rfl) (by as_aux_lemma => kernel_rfl) (fun _ _ _ h => h) (Or.inl ⟨by rfl, ?_⟩) (by assumption) ?_; rotate_left; (focus (intro w hSw; (try dsimp only at hSw); go_simp; (try with_reducible rfl); done)); (try simp only [Act.put, List.setIfInBounds_toArray, List.set_cons_zero, List.set_cons_succ]))
            | (refine via_take rfl (by as_aux_lemma => kernel_rfl) (by as_aux_lemma => kernel_rfl) (by as_aux_lemma => kernel_rfl) (by as_aux_lemma => kernel_rfl) (fun _ _ _ h => h) (Or.inr ⟨by rfl, rfl⟩) (by assumption) ?_; (try simp only [Act.put, List.setIfInBounds_toArray, List.set_cons_zero, List.set_cons_succ])))
          refine via_done (by as_aux_lemma => kernel_rfl) ?_
          have HE := Am (And.left (by assumption : Below wr.heap.size wr _ ∧ _))
          rw [if_pos (of_decide_eq_true eb)] at HP2
          by_cases hz : r.length < 1000000 ∧ t.length < 1000000
          rotate_left
          · rw [if_neg hz] at HP2
            cases HP2
          rw [if_pos hz] at HP2
          have HZ := Am hz
          have HP3 := Am HP2
          have HQ2 := Am (Kd.Q_below HQ.out HE.out)
          have HU2 := Am (Kd.R_below HU.out HE.out)
          have Ra2 := Am (bB Ra.out HE.out)
          have s0 := pw_cell_below HE.out s0
          have s1 := pw_cell_below HE.out s1
          have s2 := pw_cell_below HE.out s2
          have HB_ := Am (bP HB.out HE.out); clear HB; have HB := HB_; clear HB_; have Da_ := Am (bB Da.out HE.out); clear Da Daq0 Daq1; have Da := Da_; clear Da_; have Daq0 := cz0 Da.out; have Daq1 := cz1 Da.out; clear HE
          clear HQ HU Ra HM hHeld HP2 HP hz
          go_upto_region 7 with (first
      | ((with_reducible refine gate_dst (N := 9) rfl ?_); refine box_event ?hg (N := 9) ?hd (cs := #[.int .i64 0, .int .i64 0, .int .i64 0]) (t := 35) ?hr ?_; (case hd => rfl); (case hg => rfl); (case hr => first | (go_simp; done) | (go_simp; rfl)); intro gEa hg w_ hbox hb; have GEEa := Am (show w.heap.size ≤ gEa from by rw [hg]; exact bZ HB.out); have NEEaDa := Am (show gEa ≠ gDa from by have := blk_lt Da.out; omega); have HQe := Am (Kd.Q_elderB HQ2.out gEa (by rw [hg]; exact Nat.le_refl _)); have HQ3 := Am (Kd.Q_below HQe.out hb); have HU3 := Am (Kd.R_below HU2.out hb); have NEER := Am (show gEa ≠ gRa by have := blk_lt Ra2.out; omega); have Ra3 := Am (bB Ra2.out hb); have hEn := Am (show some gEa ≠ (Value.slice (some ⟨gM, o, none⟩) n c).ownBlock from fun h => by have := Kd.Q_lt HQ2.out _ h.symm; omega); have s0 := pw_cell_below hb s0; have s1 := pw_cell_below hb s1; have s2 := pw_cell_below hb s2; clear HQ2 HU2 Ra2 HQe; have Ea := Am hbox; have Eaz0 := blk_frozen hbox 0; have Eaz1 := blk_frozen hbox 1; have Eaz2 := blk_frozen hbox 2; have HB_ := Am (bP (by repeat (first | exact HB.out | apply oA | apply o1)) hb); have Da_ := Am (bB (by repeat (first | exact Da.out | refine bA ?_ _ | refine blk_drew ?_)) hb); clear HB hb Da; have HB := HB_; clear HB_; (try clear Daq0 Daq1); have Da := Da_; clear Da_; have Daq0 := cz0 Da.out; have Daq1 := cz1 Da.out; clear hg hbox; obtain ⟨Eaq0, Eaq1, Eaq2⟩ := cy3 Ea.out)
      | fail)
          have e0 := blk_put (cs' := #[.int .i64 a.f0, .int .i64 0, .int .i64 0]) Ea.out 0 (.int .i64 a.f0) rfl
          have e1 := blk_put (cs' := #[.int .i64 a.f0, .int .i64 a.f1, .int .i64 0]) e0 1 (.int .i64 a.f1) rfl
          have Ea1 := Am (blk_put (cs' := #[.int .i64 a.f0, .int .i64 a.f1, .int .i64 a.f2]) e1 2 (.int .i64 a.f2) rfl)
          have Da1 := Am (blk_far (blk_far (blk_far Da.out (p := ⟨gEa, 0, none⟩) (Ne.symm NEEaDa.out) (.int .i64 a.f0)) (p := ⟨gEa, 1, none⟩) (Ne.symm NEEaDa.out) (.int .i64 a.f1)) (p := ⟨gEa, 2, none⟩) (Ne.symm NEEaDa.out) (.int .i64 a.f2))
          have Ra1 := Am (blk_far (blk_far (blk_far Ra3.out (p := ⟨gEa, 0, none⟩) (Ne.symm NEER.out) (.int .i64 a.f0)) (p := ⟨gEa, 1, none⟩) (Ne.symm NEER.out) (.int .i64 a.f1)) (p := ⟨gEa, 2, none⟩) (Ne.symm NEER.out) (.int .i64 a.f2))
          have HQ1 := Am (Kd.Q_far (Kd.Q_far (Kd.Q_far HQ3.out (p := ⟨gEa, 0, none⟩) (fun k hk => hk.2) (.int .i64 a.f0)) (p := ⟨gEa, 1, none⟩) (fun k hk => hk.2) (.int .i64 a.f1)) (p := ⟨gEa, 2, none⟩) (fun k hk => hk.2) (.int .i64 a.f2))
          have HU1 := Am (Kd.R_set (Kd.R_set (Kd.R_set HU3.out Ea.out (by decide) 0 (.int .i64 a.f0)) e0 (by decide) 1 (.int .i64 a.f1)) e1 (by decide) 2 (.int .i64 a.f2))
          have HB1 := Am (Below.setCell (Below.setCell (Below.setCell HB.out (p := ⟨gEa, 0, none⟩) GEEa.out (.int .i64 a.f0)) (p := ⟨gEa, 1, none⟩) GEEa.out (.int .i64 a.f1)) (p := ⟨gEa, 2, none⟩) GEEa.out (.int .i64 a.f2))
          clear e0 e1 Ea Da Ra3 HQ3 HU3 HB s0 s1 s2 Eaz0 Eaz1 Eaz2 hEn Eaq0 Eaq1 Eaq2 Daq0 Daq1
          generalize World.setCell (World.setCell (World.setCell _ _ _) _ _) _ _ = WE at Ea1 Da1 Ra1 HQ1 HU1 HB1 ⊢
          have Daq0 := cz0 Da1.out
          have Daq1 := cz1 Da1.out
          have Daz1 := blk_frozen Da1.out 1
          obtain ⟨hn, hnc⟩ := HN.out
          have h1 : 1 ≤ n := by omega
          have h2 : (1 : Int) ≤ (n : Int) := by omega
          have h3 : (n : Int) ≤ (c : Int) := by omega
          have hD := Am (Kd.Q_drop (k := 1) HQ1.out (by simp))
          clear hn
          have hD2 := Am (show Kd.Q k35 35 WE w.heap.size (fun k => True ∧ k ≠ gEa) (.slice (if c = 1 then some (⟨gM, o, none⟩ : Addr) else some ⟨gM, o + 3, none⟩) (n - 1) (c - 1)) t by
            have z := hD.out
            rw [Option.map_some, add_at] at z
            exact z)
          have hn1 := Am (show n - 1 = t.length by have := HN.out.1; omega)
          have hEn := Am (show some gEa ≠ (Value.slice (some (⟨gM, o, none⟩ : Addr)) n c).ownBlock from fun h => (HQ1.out.1 _ h.symm).2 rfl)
          clear hD HQ1
          go_upto_region 8 with fail
          generalize (if c = 1 then some (⟨gM, o, none⟩ : Addr) else some ⟨gM, o + 3, none⟩) = A1 at hD2 ⊢
          generalize n - 1 = n1 at hD2 hn1 ⊢
          generalize c - 1 = c1 at hD2 ⊢
          have Da2 := Am (blk_put (cs' := #[.int .i64 lim, .slice A1 n1 c1]) Da1.out 1 (.slice A1 n1 c1) rfl)
          have Ea2 := Am (blk_far Ea1.out (p := ⟨gDa, 1, none⟩) NEEaDa.out (.slice A1 n1 c1))
          have Ra2 := Am (blk_far Ra1.out (p := ⟨gDa, 1, none⟩) hRD.out (.slice A1 n1 c1))
          have HQ2 := Am (Kd.Q_set hD2.out Da1.out (by decide) 1 (.slice A1 n1 c1))
          have HU2 := Am (Kd.R_set HU1.out Da1.out (by decide) 1 (.slice A1 n1 c1))
          have HB2 := Am (Below.setCell HB1.out (p := ⟨gDa, 1, none⟩) GEDa.out (.slice A1 n1 c1))
          clear Da1 Ea1 Ra1 hD2 HU1 HB1 Daq0 Daq1 Daz1 h1 h2 h3 HN hnc hEn
          generalize World.setCell _ _ _ = WG at Da2 Ea2 Ra2 HQ2 HU2 HB2 ⊢
          obtain rfl := hn1.out
          have Eaq0 := cz0 Ea2.out
          by_cases h0 : 0 < a.f2
          · have p1 : decide (a.f2 > 0) = true := decide_eq_true h0
            have p2 := eq_true (show a.f2 > 0 from h0)
            have HP4 := Am (show impl_ClockTick.l0 gk lim (putM t ⟨a.f0, wrap64 (a.f1 + a.f2), a.f2⟩) (r ++ [a.f0]) = some p by have z := HP3.out; rw [if_pos h0] at z; exact z)
            clear HP3 h0
            go_wp2_with (first
              | (at_builtin; go_loud (refine Kd.R_append (Kd.int .i64) (w0 := w) w.heap.size rfl (.tmp 57) (.tmp 60) 31 3 (.int .i64 0) 8 rfl Try.underlying31 info3 rfl (by decide) (by omega) u r a.f0 [.int .i64 a.f0] (fun _ => True) (fun _ => False) rfl rfl ?aP (fun _ hk => hk.elim) ?aF ?aO ?aB ?aS ?aL ?_); (case aP => exact rfl); (case aF => exact fun _ _ => trivial); (case aO => exact HU2.out); (case aB => exact HB2.out); (case aS => exact HB2.out.size); (case aL => have := HZ.out.1; omega); intro u1 w_ ho hb hg hat; have HU3 := Am ho; have HB3 := Am hb; have Da3 := Am (blk_grown Da2.out hg (Kd.R_ne HU2.out Da2.out (by decide))); have Ea3 := Am (blk_grown Ea2.out hg (Kd.R_ne HU2.out Ea2.out (by decide))); have Ra3 := Am (blk_grown Ra2.out hg (Kd.R_ne HU2.out Ra2.out (by decide))); have HQ3 := Am (Kd.Q_over' HQ2.out (Kd.R_typed HU2.out) (by decide) hg); clear HU2 HB2 Da2 Ea2 Ra2 HQ2 Eaq0 ho hb hg hat; have Eaq0 := cz0 Ea3.out; have Eaq1 := cz1 Ea3.out; have Eaq2 := cz2 Ea3.out; have Eaz1 := blk_frozen Ea3.out 1; have HQ4 := Am (Kd.Q_mono (Kd.Q_far HQ3.out (p := ⟨gEa, 1, none⟩) (fun k hk => hk.2) (.int .i64 (wrap64 (a.f1 + a.f2)))) (fun _ _ => (trivial : True))); have Da4 := Am (blk_far Da3.out (p := ⟨gEa, 1, none⟩) (Ne.symm NEEaDa.out) (.int .i64 (wrap64 (a.f1 + a.f2)))); have Ra4 := Am (blk_far Ra3.out (p := ⟨gEa, 1, none⟩) (Ne.symm NEER.out) (.int .i64 (wrap64 (a.f1 + a.f2)))); have HU4 := Am (Kd.R_set HU3.out Ea3.out (by decide) 1 (.int .i64 (wrap64 (a.f1 + a.f2)))); have HB4 := Am (Below.setCell HB3.out (p := ⟨gEa, 1, none⟩) GEEa.out (.int .i64 (wrap64 (a.f1 + a.f2)))); have hput := Am (put_ gDa lim ⟨a.f0, wrap64 (a.f1 + a.f2), a.f2⟩ HQ4.out Da4.out HB4.out.size GEDa.out (by have := HZ.out.2; omega)); clear HQ3 Da3 Ra3 HU3 HB3)
              | (go_at_call 20; refine hput.out.mono ?_; rintro e wp_ ⟨rfl, v2, hP⟩; obtain ⟨A2, n2, c2, rfl⟩ : ∃ A2 n2 c2, v2 = Value.slice A2 n2 c2 := (Kd.Q_slice hP.q).elim fun A1 h => h.elim fun c1 h => ⟨A1, _, c1, h.1⟩; have HPu := Am hP; clear hP hput; refine Aside0.out ?_)
              | fail)
            refine Aside0.mk ?_
            go_wp2_with fail
            have Ra5 := Am ((HPu.out.keep gRa (blk_lt Ra4.out) hRD.out (Kd.Q_ne HQ4.out Ra4.out (by decide))).trans Ra4.out)
            have HU5 := Am (Kd.R_mono (Kd.R_step (Kd.R_apart' (Kd.R_types HU4.out Da4.out (by decide)) (Kd.Q_typed HQ4.out) (by decide)) (fun q hq hlt => HPu.out.keep q hlt hq.1.2 hq.2)) (fun _ _ => (trivial : True)))
            go_roundg gk
            case measure => omega
            case rel => exact ⟨u1, _, _, A2, n2, c2, rfl, ⟨HPu.out.cell⟩, ⟨HPu.out.q⟩, HU5, Ra5, ⟨HB4.out.trans HPu.out.below⟩, HP4⟩
          · have p1 : decide (a.f2 > 0) = false := decide_eq_false h0
            have p2 := eq_false (show ¬ a.f2 > 0 from h0)
            have HP4 := Am (show impl_ClockTick.l0 gk lim t (r ++ [a.f0]) = some p by have z := HP3.out; rw [if_neg h0] at z; exact z)
            clear HP3 h0
            go_wp2_with (first
              | (at_builtin; go_loud (refine Kd.R_append (Kd.int .i64) (w0 := w) w.heap.size rfl (.tmp 57) (.tmp 60) 31 3 (.int .i64 0) 8 rfl Try.underlying31 info3 rfl (by decide) (by omega) u r a.f0 [.int .i64 a.f0] (fun _ => True) (fun _ => False) rfl rfl ?aP (fun _ hk => hk.elim) ?aF ?aO ?aB ?aS ?aL ?_); (case aP => exact rfl); (case aF => exact fun _ _ => trivial); (case aO => exact HU2.out); (case aB => exact HB2.out); (case aS => exact HB2.out.size); (case aL => have := HZ.out.1; omega); intro u1 w_ ho hb hg hat; have HU3 := Am ho; have HB3 := Am hb; have Da3 := Am (blk_grown Da2.out hg (Kd.R_ne HU2.out Da2.out (by decide))); have Ea3 := Am (blk_grown Ea2.out hg (Kd.R_ne HU2.out Ea2.out (by decide))); have Ra3 := Am (blk_grown Ra2.out hg (Kd.R_ne HU2.out Ra2.out (by decide))); have HQ3 := Am (Kd.Q_over' HQ2.out (Kd.R_typed HU2.out) (by decide) hg); clear HU2 HB2 Da2 Ea2 Ra2 HQ2 Eaq0 ho hb hg hat; have Eaq1 := cz1 Ea3.out; have Eaq2 := cz2 Ea3.out; have Eaz1 := blk_frozen Ea3.out 1)
              | fail)
            go_roundg gk
            case measure => omega
            case rel => exact ⟨u1, t, _, A1, t.length, c1, rfl, Da3, ⟨Kd.Q_mono HQ3.out (fun _ _ => trivial)⟩, HU3, Ra3, HB3, HP4⟩
  all_goals
    have H2 : ((0, [], [], false) : Int × List S35 × List Int × Bool) = (r1, r2, r3, r4) := by
      rw [if_neg (by simp [*])] at H
      exact Option.some.inj H
    simp only [Prod.mk.injEq] at H2
    obtain ⟨rfl, rfl, rfl, rfl⟩ := H2
    clear H
    go_enter Try.func8, Try.ntmps8
    go_wp2_with (first
      | ((with_reducible refine gate_dst (N := 2) rfl ?_); refine box_event ?hg (N := 2) ?hd (cs := #[.int .i64 a0_0, .slice A0_1 l0_1.length c0_1]) (t := 25) ?hr ?_; (case hd => rfl); (case hg => rfl); (case hr => first | (go_simp; done) | (go_simp; rfl)); intro gBa hg w_ hbox hb; have Ba := Am hbox; have HB_ := Am (bP (by repeat (first | exact HB.out | apply oA | apply o1)) hb); clear HB hb ; have HB := HB_; clear HB_; clear hg hbox; have Baq0 := cz0 Ba.out; have Baq1 := cz1 Ba.out)
      | ((with_reducible refine gate_dst (N := 4) rfl ?_); refine box_event ?hg (N := 4) ?hd (cs := #[.int .i64 0, .slice none 0 0]) (t := 25) ?hr ?_; (case hd => rfl); (case hg => rfl); (case hr => first | (go_simp; done) | (go_simp; rfl)); intro gRa hg w_ hbox hb; have GERa := Am (show w.heap.size ≤ gRa from by rw [hg]; exact bZ HB.out); have NERaBa := Am (show gRa ≠ gBa from by have := blk_lt Ba.out; omega); have Ra := Am hbox; have HB_ := Am (bP (by repeat (first | exact HB.out | apply oA | apply o1)) hb); have Ba_ := Am (bB (by repeat (first | exact Ba.out | refine bA ?_ _ | refine blk_drew ?_)) hb); clear HB hb Ba; have HB := HB_; clear HB_; (try clear Baq0 Baq1); have Ba := Ba_; clear Ba_; have Baq0 := cz0 Ba.out; have Baq1 := cz1 Ba.out; clear hg hbox; have Raq0 := cz0 Ra.out; have Raq1 := cz1 Ra.out)
      | (go_at_call 10; refine (impl_ClockOk.calls a0_0 A0_1 c0_1 l0_1 _ _ (cB G.out HB.out) HL.out rfl).mono ?_; rintro e w_ ⟨rfl, hb⟩; rw [ea]; have HB_ := Am (bP (by repeat (first | exact HB.out | apply oA | apply o1)) hb); have Ba_ := Am (bB (by repeat (first | exact Ba.out | refine bA ?_ _ | refine blk_drew ?_)) hb); have Ra_ := Am (bB (by repeat (first | exact Ra.out | refine bA ?_ _ | refine blk_drew ?_)) hb); clear HB hb Ba Ra; have HB := HB_; clear HB_; (try clear Baq0 Baq1); have Ba := Ba_; clear Ba_; have Baq0 := cz0 Ba.out; have Baq1 := cz1 Ba.out; (try clear Raq0 Raq1); have Ra := Ra_; clear Ra_; have Raq0 := cz0 Ra.out; have Raq1 := cz1 Ra.out; have Raz0 := blk_frozen Ra.out 0; have Raz1 := blk_frozen Ra.out 1)
      | (go_at_call 19; refine (in_ _ _ _ _).mono ?_; rintro e w_ ⟨rfl, hb⟩; (try clear Raz0 Raz1); (try rw [eb]); have HB_ := Am (bP (by repeat (first | exact HB.out | apply oA | apply o1)) hb); have Ba_ := Am (bB (by repeat (first | exact Ba.out | refine bA ?_ _ | refine blk_drew ?_)) hb); have Ra_ := Am (bB (by repeat (first | exact Ra.out | refine bA ?_ _ | refine blk_drew ?_)) hb); clear HB hb Ba Ra; have HB := HB_; clear HB_; (try clear Baq0 Baq1); have Ba := Ba_; clear Ba_; have Baq0 := cz0 Ba.out; have Baq1 := cz1 Ba.out; (try clear Raq0 Raq1); have Ra := Ra_; clear Ra_; have Raq0 := cz0 Ra.out; have Raq1 := cz1 Ra.out; have Raz0 := blk_frozen Ra.out 0; have Raz1 := blk_frozen Ra.out 1)
      | fail)
    refine bodyPost_ret (results_ctt rfl _ _ gRa 25 #[.int .i64 0, .slice none 0 0] (0, 0) _ rfl (blk_put (cs := #[.int .i64 0, .slice none 0 0]) (blk_put (cs := #[.int .i64 0, .slice none 0 0]) Ra.out 0 _ rfl) 1 _ rfl) Try.underlying25 rfl (by kernel_rfl)) rfl ?_
    exact ⟨_, _, rfl, Kd.R_nil _ _ _ _ _, Kd.R_nil _ _ _ _ _, (HB.out.setCell GERa.out _).setCell GERa.out _⟩
end Go.Proofs.Ytpacdakadkblgaa.PFnClockDrop
