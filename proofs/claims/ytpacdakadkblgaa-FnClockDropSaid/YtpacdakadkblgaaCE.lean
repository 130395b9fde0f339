/- Proved here, without a condition beyond those that each theorem states: impl.ClockSet. Printed by ck.py, a program of this session. -/
import Derived.Test.YtpacdakadkblgaaPFnClockDropx10
import Derived.Test.YtpacdakadkblgaaCD
import Derived.Test.YtpacdakadkblgaaCP
namespace Go.Proofs.Ytpacdakadkblgaa.PFnClockDrop
open Go.RowKit Go.Proofs.YtpacdakadkblgaaW.PrintWords Go.Proofs.YtpacdakadkblgaaW.PrintLast Go.Proofs.YtpacdakadkblgaaW.PrintMore
set_option linter.unusedVariables false
set_option linter.unusedSimpArgs false
attribute [local go_sem ↓] isSome_setCell_
theorem head_R {w : World} {base : Nat} {ok : Nat → Prop} {v : Value} {l : List S35} (h : Kd.R k35 35 w base ok v l) : Head v := by
  intro a m k he
  obtain ⟨_, inner, ho, _⟩ := h
  rcases ho.2 with ⟨h1, _⟩ | ⟨g, cap, cur, h1, _⟩
  · rw [h1] at he; injection he with he; cases he
  · rw [h1] at he; injection he with he; injection he with he; rw [← he]
theorem R_of_head {w : World} {base : Nat} {ok : Nat → Prop} {v : Value} {l : List S35} (h : Kd.Q k35 35 w base ok v l) (hd : Head v) (hl : 0 < l.length) : Kd.R k35 35 w base ok v l := by
  have hq := Q_fl h
  rcases hq.2 with ⟨h1, _⟩ | ⟨g, off, cap, cur, rfl, _⟩
  · omega
  · have h0 := hd _ _ _ rfl
    dsimp only at h0
    have e : off * 3 = 0 := h0
    rw [e] at h ⊢
    exact Kd.R_of_Q h (by decide) hl
theorem putM_pos {t : List S35} {a : S35} (h : a.f1 ≤ 4095) : 0 < (putM t a).length := by
  unfold putM
  rw [if_pos h, insAt_len (bsI_le t a)]
  omega
def lessM (l : List S35) (id : Int) : List S35 := if 0 ≤ impl_Clock_at.idx l id l.length 0 then l.eraseIdx (impl_Clock_at.idx l id l.length 0).toNat else l
def impl_ClockSet.f (a0_0 : Int) (l0_1 : List (S35)) (a1 : Int) (a2 : Int) (a3 : Int) : Option (Int × List S35 × Bool) :=
  some (if (clkOk a0_0 l0_1 && (inB a1 0 99 && (inB a2 1 4095 && (inB a3 0 99 && !decide (4095 < wrap64 (a0_0 + a2)))))) = true then
    (if (lessM l0_1 a1).length = 12 then (0, [], false) else (a0_0, putM (lessM l0_1 a1) ⟨a1, wrap64 (a0_0 + a2), a3⟩, true)) else (0, [], false))
set_option maxHeartbeats 4000000 in
set_option maxRecDepth 100000 in
theorem impl_ClockSet.calls (a0_0 : Int) (A0_1 : Option Addr) (c0_1 : Nat) (l0_1 : List (S35)) (a1 : Int) (a2 : Int) (a3 : Int) (r1 : Int) (r2 : List (S35)) (r3 : Bool) (w : World) (hr0_1 : Kd.C k35 w A0_1 l0_1.length l0_1) (hc0_1 : l0_1.length ≤ c0_1) (h : impl_ClockSet.f a0_0 l0_1 a1 a2 a3 = some (r1, r2, r3)) :
  Calls Try.prog 9 #[.agg #[.int .i64 a0_0, .slice A0_1 l0_1.length c0_1], .int .i64 a1, .int .i64 a2, .int .i64 a3] w fun e w' => ∃ v1_ : Value, e = .returned (.tuple #[.agg #[.int .i64 r1, v1_], .bool r3]) ∧ Kd.R k35 35 w' w.heap.size (fun _ => True) v1_ r2 ∧ Below w.heap.size w w' := by
  have hu23 := Try.underlying23
  have hu25 := Try.underlying25
  have hu35 := Try.underlying35
  
  have H := Option.some.inj h
  have G := Am hr0_1
  have hlen := hr0_1.2.1
  have HL := Am hc0_1
  clear h hr0_1 hc0_1
  have HB := Am (bJ w.heap.size w)
  obtain ⟨va, ea⟩ : ∃ b, (clkOk a0_0 l0_1) = b := ⟨_, rfl⟩
  obtain ⟨vb, eb⟩ : ∃ b, (inB a1 0 99) = b := ⟨_, rfl⟩
  obtain ⟨vc, ec⟩ : ∃ b, (inB a2 1 4095) = b := ⟨_, rfl⟩
  obtain ⟨vd, ed⟩ : ∃ b, (inB a3 0 99) = b := ⟨_, rfl⟩
  obtain ⟨vg, eg⟩ : ∃ b, (decide (4095 < wrap64 (a0_0 + a2))) = b := ⟨_, rfl⟩
  have HV0 : ((!(clkOk a0_0 l0_1)) || ((!(inB a1 0 99)) || ((!(inB a2 1 4095)) || ((!(inB a3 0 99)) || (decide (4095 < wrap64 (a0_0 + a2))))))) = ((!va) || ((!vb) || ((!vc) || ((!vd) || vg)))) := by rw [ea, eb, ec, ed, eg]
  rcases (by intro a b c d g; cases a; exact Or.inl ⟨rfl, rfl⟩; cases b; exact Or.inr (Or.inl ⟨rfl, rfl, rfl⟩); cases c; exact Or.inr (Or.inr (Or.inl ⟨rfl, rfl, rfl, rfl⟩)); cases d; exact Or.inr (Or.inr (Or.inr (Or.inl ⟨rfl, rfl, rfl, rfl, rfl⟩))); cases g; exact Or.inr (Or.inr (Or.inr (Or.inr (Or.inl ⟨rfl, rfl, rfl, rfl, rfl, rfl⟩)))); exact Or.inr (Or.inr (Or.inr (Or.inr (Or.inr (⟨rfl, rfl, rfl, rfl, rfl, rfl⟩))))) : ∀ a b c d g : Bool, (a = false ∧ ((!a) || ((!b) || ((!c) || ((!d) || g)))) = true) ∨ (a = true ∧ b = false ∧ ((!a) || ((!b) || ((!c) || ((!d) || g)))) = true) ∨ (a = true ∧ b = true ∧ c = false ∧ ((!a) || ((!b) || ((!c) || ((!d) || g)))) = true) ∨ (a = true ∧ b = true ∧ c = true ∧ d = false ∧ ((!a) || ((!b) || ((!c) || ((!d) || g)))) = true) ∨ (a = true ∧ b = true ∧ c = true ∧ d = true ∧ g = false ∧ ((!a) || ((!b) || ((!c) || ((!d) || g)))) = false) ∨ (a = true ∧ b = true ∧ c = true ∧ d = true ∧ g = true ∧ ((!a) || ((!b) || ((!c) || ((!d) || g)))) = true)) va vb vc vd vg with ⟨rfl, hv⟩ | ⟨rfl, rfl, hv⟩ | ⟨rfl, rfl, rfl, hv⟩ | ⟨rfl, rfl, rfl, rfl, hv⟩ | ⟨rfl, rfl, rfl, rfl, rfl, hv⟩ | ⟨rfl, rfl, rfl, rfl, rfl, hv⟩
  all_goals have HV := Am (HV0.trans hv); clear HV0 hv
  rotate_left 4
  · rw [ea, eb, ec, ed, eg, show (true && (true && (true && (true && !false)))) = true from rfl, if_pos rfl] at H
    have HC := Am (clone_f (l := l0_1) (by have := clkOk_len ea; omega))
    have H12 := Am (clkOk_len ea)
    go_enter Try.func9, Try.ntmps9
    go_wp2_with (first
      | ((with_reducible refine gate_dst (N := 4) rfl ?_); refine box_event ?hg (N := 4) ?hd (cs := #[.int .i64 a0_0, .slice A0_1 l0_1.length c0_1]) (t := 25) ?hr ?_; (case hd => rfl); (case hg => rfl); (case hr => first | (go_simp; done) | (go_simp; rfl)); intro gBa hg w_ hbox hb; have Ba := Am hbox; have HB_ := Am (bP (by repeat (first | exact HB.out | apply oA | apply o1)) hb); clear HB hb ; have HB := HB_; clear HB_; clear hg hbox; have Baq0 := cz0 Ba.out; have Baq1 := cz1 Ba.out)
      | ((with_reducible refine gate_dst (N := 8) rfl ?_); refine box_event ?hg (N := 8) ?hd (cs := #[.int .i64 0, .slice none 0 0]) (t := 25) ?hr ?_; (case hd => rfl); (case hg => rfl); (case hr => first | (go_simp; done) | (go_simp; rfl)); intro gRa hg w_ hbox hb; have GERa := Am (show w.heap.size ≤ gRa from by rw [hg]; exact bZ HB.out); have NERaBa := Am (show gRa ≠ gBa from by have := blk_lt Ba.out; omega); have Ra := Am hbox; have HB_ := Am (bP (by repeat (first | exact HB.out | apply oA | apply o1)) hb); have Ba_ := Am (bB (by repeat (first | exact Ba.out | refine bA ?_ _ | refine blk_drew ?_)) hb); clear HB hb Ba; have HB := HB_; clear HB_; (try clear Baq0 Baq1); have Ba := Ba_; clear Ba_; have Baq0 := cz0 Ba.out; have Baq1 := cz1 Ba.out; clear hg hbox; have Raq0 := cz0 Ra.out; have Raq1 := cz1 Ra.out)
      | (go_at_call 10; refine (impl_ClockOk.calls a0_0 A0_1 c0_1 l0_1 _ _ (cB G.out HB.out) HL.out rfl).mono ?_; rintro e w_ ⟨rfl, hb⟩; rw [ea]; have HB_ := Am (bP (by repeat (first | exact HB.out | apply oA | apply o1)) hb); have Ba_ := Am (bB (by repeat (first | exact Ba.out | refine bA ?_ _ | refine blk_drew ?_)) hb); have Ra_ := Am (bB (by repeat (first | exact Ra.out | refine bA ?_ _ | refine blk_drew ?_)) hb); clear HB hb Ba Ra; have HB := HB_; clear HB_; (try clear Baq0 Baq1); have Ba := Ba_; clear Ba_; have Baq0 := cz0 Ba.out; have Baq1 := cz1 Ba.out; (try clear Raq0 Raq1); have Ra := Ra_; clear Ra_; have Raq0 := cz0 Ra.out; have Raq1 := cz1 Ra.out)
      | (go_at_call 19; refine (in_ _ _ _ _).mono ?_; rintro e w_ ⟨rfl, hb⟩; (first | rw [eb] | rw [ec] | rw [ed]); have HB_ := Am (bP (by repeat (first | exact HB.out | apply oA | apply o1)) hb); have Ba_ := Am (bB (by repeat (first | exact Ba.out | refine bA ?_ _ | refine blk_drew ?_)) hb); have Ra_ := Am (bB (by repeat (first | exact Ra.out | refine bA ?_ _ | refine blk_drew ?_)) hb); clear HB hb Ba Ra; have HB := HB_; clear HB_; (try clear Baq0 Baq1); have Ba := Ba_; clear Ba_; have Baq0 := cz0 Ba.out; have Baq1 := cz1 Ba.out; (try clear Raq0 Raq1); have Ra := Ra_; clear Ra_; have Raq0 := cz0 Ra.out; have Raq1 := cz1 Ra.out)
      | fail)
    have hRlt := Am (blk_lt Ra.out)
    have hBlt := Am (blk_lt Ba.out)
    have hBR := Am (show gBa ≠ gRa from Ne.symm NERaBa.out)
    refine via_start (S := fun W => Below w.heap.size w W ∧ W.cell? ⟨gBa, 0, none⟩ = some (.int .i64 a0_0) ∧ W.cell? ⟨gBa, 1, none⟩ = some (.slice A0_1 l0_1.length c0_1)) [(0, 38), (1, 39), (2, 40), (3, 41), (4, 42), (6, 10)] (by kernel_rfl) ?_ (fun hHeld => ?_)
    · exact ⟨o1 HB.out, Baq0, Baq1⟩
    iterate 4 (refine via_take (v := ?_) rfl (by kernel_rfl) (by kernel_rfl) (by kernel_rfl) (by kernel_rfl) (fun _ _ _ h => h) (Or.inl ⟨by rfl, ?_⟩) (by assumption) ?_; rotate_left; (focus (intro w hSw; (try dsimp only at hSw); go_simp; (try with_reducible rfl); done)); (try simp only [Act.put, List.setIfInBounds_toArray, List.set_cons_zero, List.set_cons_succ]))
    refine via_two (i := 4) (j := 6) [(5, 43), (6, 10), (7, 999)] [(4, 42), (5, 43), (7, 999)] rfl rfl (by kernel_rfl) (fun K hK => ?_) (fun K hK => ?_)
    focus
      ((try simp only [List.getElem_toArray, List.getElem_cons_zero, List.getElem_cons_succ]); go_simp; (go_at_call 16; refine (impl_Alarm_16.calls A0_1 c0_1 l0_1 l0_1 _ (cB G.out (o1 HB.out)) HL.out HC.out).mono ?_; rintro e wc_ ⟨v0, rfl, hR, hb⟩; obtain ⟨A0, c0, rfl⟩ := Kd.R_slice hR); (try go_wp2_with fail); refine hK.out _ _ ?_ (fun hHeld => ?_); (focus (have z := bB (bD Ba.out) hb; exact ⟨bP (o1 HB.out) hb, cz0 z, cz1 z⟩)); clear hK K; (try simp only [Act.put, List.setIfInBounds_toArray, List.set_cons_zero, List.set_cons_succ]))
      iterate 1 (refine via_take (v := ?_) rfl (by kernel_rfl) (by kernel_rfl) (by kernel_rfl) (by kernel_rfl) (fun _ _ _ h => h) (Or.inl ⟨by rfl, ?_⟩) (by assumption) ?_; rotate_left; (focus (intro w hSw; (try dsimp only at hSw); go_simp; (try with_reducible rfl); done)); (try simp only [Act.put, List.setIfInBounds_toArray, List.set_cons_zero, List.set_cons_succ]))
      have HBc := Am (bP (o1 HB.out) hb)
      have BaC := Am (bB (bD Ba.out) hb)
      have RaC := Am (bB (bD Ra.out) hb)
      have HRc := Am (Kd.R_lower hR (base' := w.heap.size) HB.out.size)
      (refine via_call rfl (by kernel_rfl) (fun K hK => ?_); (try simp only [List.getElem_toArray, List.getElem_cons_zero, List.getElem_cons_succ]); go_simp; skip; (try go_wp2_with fail); refine hK.out _ _ ?_ (fun hHeld => ?_); (focus (have z := blk_alloc BaC.out (.cells #[.int .i64 0, .slice none 0 0] 25); exact ⟨oA HBc.out _, cz0 z, cz1 z⟩)); clear hK K; (try simp only [Act.put, List.setIfInBounds_toArray, List.set_cons_zero, List.set_cons_succ]))
      have HBA := Am (show Below w.heap.size w (World.alloc wc_ (.cells #[.int .i64 0, .slice none 0 0] 25)) from oA HBc.out _)
      have BaA := Am (show (World.alloc wc_ (.cells #[.int .i64 0, .slice none 0 0] 25)).heap[gBa]? = _ from blk_alloc BaC.out _)
      have RaA := Am (show (World.alloc wc_ (.cells #[.int .i64 0, .slice none 0 0] 25)).heap[gRa]? = _ from blk_alloc RaC.out _)
      have DaA := Am (show (World.alloc wc_ (.cells #[.int .i64 0, .slice none 0 0] 25)).heap[wc_.heap.size]? = some (.cells #[.int .i64 0, .slice none 0 0] 25) from blk_new _ _)
      have HRA := Am (show Kd.R k35 35 (World.alloc wc_ (.cells #[.int .i64 0, .slice none 0 0] 25)) w.heap.size (fun _ => True) (.slice A0 l0_1.length c0) l0_1 from Kd.R_alloc HRc.out _)
      obtain ⟨gDa, hgD⟩ : ∃ g, g = wc_.heap.size := ⟨_, rfl⟩
      have GEDa := Am (show w.heap.size ≤ gDa by rw [hgD]; exact HBc.out.size)
      have hRD := Am (show gRa ≠ gDa by have := blk_lt RaC.out; omega)
      have hBD := Am (show gBa ≠ gDa by have := blk_lt BaC.out; omega)
      rw [← hgD] at DaA ⊢
      clear hgD HBc BaC RaC HRc hR hb
      generalize World.alloc wc_ _ = WA at HBA BaA RaA DaA HRA hHeld ⊢
    rotate_left
    focus
      ((try simp only [List.getElem_toArray, List.getElem_cons_zero, List.getElem_cons_succ]); go_simp; skip; (try go_wp2_with fail); refine hK.out _ _ ?_ (fun hHeld => ?_); (focus (have z := blk_alloc (blk_drew Ba.out) (.cells #[.int .i64 0, .slice none 0 0] 25); exact ⟨oA (o1 HB.out) _, cz0 z, cz1 z⟩)); clear hK K; (try simp only [Act.put, List.setIfInBounds_toArray, List.set_cons_zero, List.set_cons_succ]))
      have HB1 := Am (show Below w.heap.size w (World.drew (World.alloc w_ (.cells #[.int .i64 0, .slice none 0 0] 25))) from o1 (oA HB.out _))
      have Ba1 := Am (show (World.drew (World.alloc w_ (.cells #[.int .i64 0, .slice none 0 0] 25))).heap[gBa]? = _ from blk_drew (blk_alloc Ba.out _))
      have Ra1 := Am (show (World.drew (World.alloc w_ (.cells #[.int .i64 0, .slice none 0 0] 25))).heap[gRa]? = _ from blk_drew (blk_alloc Ra.out _))
      have DaA := Am (show (World.drew (World.alloc w_ (.cells #[.int .i64 0, .slice none 0 0] 25))).heap[w_.heap.size]? = some (.cells #[.int .i64 0, .slice none 0 0] 25) from blk_drew (blk_new _ _))
      obtain ⟨gDa, hgD⟩ : ∃ g, g = w_.heap.size := ⟨_, rfl⟩
      have GEDa := Am (show w.heap.size ≤ gDa by rw [hgD]; exact HB.out.size)
      have hRD := Am (show gRa ≠ gDa by have := blk_lt Ra.out; omega)
      have hBD := Am (show gBa ≠ gDa by have := blk_lt Ba.out; omega)
      rw [← hgD] at DaA ⊢
      clear hgD
      generalize World.drew (World.alloc w_ _) = WA at HB1 Ba1 Ra1 DaA hHeld ⊢
      (refine via_call rfl (by kernel_rfl) (fun K hK => ?_); (try simp only [List.getElem_toArray, List.getElem_cons_zero, List.getElem_cons_succ]); go_simp; (go_at_call 16; refine (impl_Alarm_16.calls A0_1 c0_1 l0_1 l0_1 _ (cB G.out HB1.out) HL.out HC.out).mono ?_; rintro e wc_ ⟨v0, rfl, hR, hb⟩; obtain ⟨A0, c0, rfl⟩ := Kd.R_slice hR); (try go_wp2_with fail); refine hK.out _ _ ?_ (fun hHeld => ?_); (focus (have z := bB Ba1.out hb; exact ⟨bP HB1.out hb, cz0 z, cz1 z⟩)); clear hK K; (try simp only [Act.put, List.setIfInBounds_toArray, List.set_cons_zero, List.set_cons_succ]))
      iterate 1 (refine via_take (v := ?_) rfl (by kernel_rfl) (by kernel_rfl) (by kernel_rfl) (by kernel_rfl) (fun _ _ _ h => h) (Or.inl ⟨by rfl, ?_⟩) (by assumption) ?_; rotate_left; (focus (intro w hSw; (try dsimp only at hSw); go_simp; (try with_reducible rfl); done)); (try simp only [Act.put, List.setIfInBounds_toArray, List.set_cons_zero, List.set_cons_succ]))
      have HBA := Am (bP HB1.out hb)
      have BaA := Am (bB Ba1.out hb)
      have RaA := Am (bB Ra1.out hb)
      have DaA := Am (bB DaA.out hb)
      have HRA := Am (Kd.R_lower hR (base' := w.heap.size) HB1.out.size)
      clear HB1 Ba1 Ra1 hR hb
    all_goals
      have dq0 := cz0 DaA.out
      have dq1 := cz1 DaA.out
      have dz0 := blk_frozen DaA.out 0
      have dz1 := blk_frozen DaA.out 1
      clear HB Ba Ra Baq0 Baq1 Raq0 Raq1
      (refine via_call rfl (by kernel_rfl) (fun K hK => ?_); (try simp only [List.getElem_toArray, List.getElem_cons_zero, List.getElem_cons_succ]); go_simp; skip; (try go_wp2_with fail); refine hK.out _ _ ?_ (fun hHeld => ?_); (focus (have z := blk_far (blk_far BaA.out (p := ⟨gDa, 0, none⟩) hBD.out (.int .i64 a0_0)) (p := ⟨gDa, 1, none⟩) hBD.out (.slice A0 l0_1.length c0); exact ⟨(HBA.out.setCell GEDa.out _).setCell GEDa.out _, cz0 z, cz1 z⟩)); clear hK K; (try simp only [Act.put, List.setIfInBounds_toArray, List.set_cons_zero, List.set_cons_succ]))
      refine via_done (by kernel_rfl) ?_
      have hp0 := blk_put (cs' := #[.int .i64 a0_0, .slice none 0 0]) DaA.out 0 (.int .i64 a0_0) rfl
      have Da := Am (blk_put (cs' := #[.int .i64 a0_0, .slice A0 l0_1.length c0]) hp0 1 (.slice A0 l0_1.length c0) rfl)
      have Ba := Am (blk_far (blk_far BaA.out (p := ⟨gDa, 0, none⟩) hBD.out (.int .i64 a0_0)) (p := ⟨gDa, 1, none⟩) hBD.out (.slice A0 l0_1.length c0))
      have Ra := Am (blk_far (blk_far RaA.out (p := ⟨gDa, 0, none⟩) hRD.out (.int .i64 a0_0)) (p := ⟨gDa, 1, none⟩) hRD.out (.slice A0 l0_1.length c0))
      have HRD := Am (Kd.R_set (Kd.R_set HRA.out DaA.out (by decide) 0 (.int .i64 a0_0)) hp0 (by decide) 1 (.slice A0 l0_1.length c0))
      have HB := Am ((HBA.out.setCell (p := ⟨gDa, 0, none⟩) GEDa.out (.int .i64 a0_0)).setCell (p := ⟨gDa, 1, none⟩) GEDa.out (.slice A0 l0_1.length c0))
      clear dq0 dq1 dz0 dz1 hHeld hp0 DaA BaA RaA HBA HRA
      generalize World.setCell (World.setCell _ _ _) _ _ = WD at Da Ba Ra HRD HB ⊢
      have Baq0 := cz0 Ba.out; have Baq1 := cz1 Ba.out
      have Raq0 := cz0 Ra.out; have Raq1 := cz1 Ra.out
      have Daq0 := cz0 Da.out; have Daq1 := cz1 Da.out
      have GD := Am (Kd.R_reads' HRD.out)
      obtain ⟨q, hq⟩ : ∃ q, impl_Clock_at.idx l0_1 a1 l0_1.length 0 = q := ⟨_, rfl⟩
      have hqr := idx_range l0_1 a1 l0_1.length 0 (by omega)
      rw [hq] at hqr
      have HLM := Am (show lessM l0_1 a1 = if 0 ≤ q then l0_1.eraseIdx q.toNat else l0_1 by unfold lessM; rw [hq])
      by_cases h0 : 0 ≤ q
      · obtain ⟨k, rfl, hk⟩ : ∃ k : Nat, q = k ∧ k < l0_1.length := ⟨q.toNat, by omega, by omega⟩
        have HK := Am hk
        obtain ⟨gM, cM, he, hM⟩ := row_form HRD.out (by omega)
        injection he with he _ hc
        subst he hc
        have hw1 : IntKind.i64.wrap ((k : Int) + 1) = (k : Int) + 1 := (wrapE_ _).trans (w64_ (by omega) (by omega))
        have hw2 : wrap64 ((k : Int) + 1) = (k : Int) + 1 := w64_ (by omega) (by omega)
        have p1 : decide ((k : Int) ≥ 0) = true := decide_eq_true h0
        have p2 := eq_true h0
        clear hqr hk hM
        go_upto_region 7 with (first
      | (go_at_call 14; refine (impl_Clock_at.calls a0_0 _ _ l0_1 a1 _ _ GD.out.2.2 GD.out.2.1 rfl).mono ?_; rintro e w_ ⟨rfl, hb⟩; rw [hq]; have HR2 := Am (Kd.R_below HRD.out hb); have HB_ := Am (bP (by repeat (first | exact HB.out | apply oA | apply o1)) hb); have Ba_ := Am (bB (by repeat (first | exact Ba.out | refine bA ?_ _ | refine blk_drew ?_)) hb); have Ra_ := Am (bB (by repeat (first | exact Ra.out | refine bA ?_ _ | refine blk_drew ?_)) hb); have Da_ := Am (bB (by repeat (first | exact Da.out | refine bA ?_ _ | refine blk_drew ?_)) hb); clear HB hb Ba Ra Da; have HB := HB_; clear HB_; (try clear Baq0 Baq1); have Ba := Ba_; clear Ba_; have Baq0 := cz0 Ba.out; have Baq1 := cz1 Ba.out; (try clear Raq0 Raq1); have Ra := Ra_; clear Ra_; have Raq0 := cz0 Ra.out; have Raq1 := cz1 Ra.out; (try clear Daq0 Daq1); have Da := Da_; clear Da_; have Daq0 := cz0 Da.out; have Daq1 := cz1 Da.out)
      | (go_at_call 15; refine (sDel15.calls (w0 := w) (base := w.heap.size) _ _ k HR2.out rfl rfl HK.out HB.out HB.out.size).mono ?_; rintro e wd_ ⟨rfl, hR, hb, hg⟩; have HR3 := Am hR; have HB3 := Am hb; have Ba3 := Am (blk_grown Ba.out hg (Kd.R_ne HR2.out Ba.out (by decide))); have Ra3 := Am (blk_grown Ra.out hg (Kd.R_ne HR2.out Ra.out (by decide))); have Da3 := Am (blk_grown Da.out hg (Kd.R_ne HR2.out Da.out (by decide))); clear hR hb hg HB Ba Ra Da Baq0 Baq1 Raq0 Raq1 Daq0 Daq1; have HB := HB3; clear HB3; have Ba := Ba3; clear Ba3; have Baq0 := cz0 Ba.out; have Baq1 := cz1 Ba.out; have Ra := Ra3; clear Ra3; have Raq0 := cz0 Ra.out; have Raq1 := cz1 Ra.out; have Da := Da3; clear Da3; have Daq0 := cz0 Da.out; have Daq1 := cz1 Da.out; have Daz1 := blk_frozen Da.out 1)
      | fail)
        have Da1 := Am (blk_put (cs' := #[.int .i64 a0_0, .slice (some ⟨gM, 0, none⟩) (l0_1.length - 1) c0]) Da.out 1 (.slice (some ⟨gM, 0, none⟩) (l0_1.length - 1) c0) rfl)
        have Ba1 := Am (blk_far Ba.out (p := ⟨gDa, 1, none⟩) hBD.out (.slice (some ⟨gM, 0, none⟩) (l0_1.length - 1) c0))
        have Ra1 := Am (blk_far Ra.out (p := ⟨gDa, 1, none⟩) hRD.out (.slice (some ⟨gM, 0, none⟩) (l0_1.length - 1) c0))
        have HR1 := Am (Kd.R_set HR3.out Da.out (by decide) 1 (.slice (some ⟨gM, 0, none⟩) (l0_1.length - 1) c0))
        have HB1 := Am (HB.out.setCell (p := ⟨gDa, 1, none⟩) GEDa.out (.slice (some ⟨gM, 0, none⟩) (l0_1.length - 1) c0))
        have HM := Am (show lessM l0_1 a1 = l0_1.eraseIdx k ∧ l0_1.length - 1 = (l0_1.eraseIdx k).length from ⟨by rw [HLM.out, if_pos h0, Int.toNat_natCast], by rw [List.length_eraseIdx_of_lt HK.out]⟩)
        clear HR2 HR3 HB Ba Ra Da Daz1 Baq0 Baq1 Raq0 Raq1 Daq0 Daq1 GD HRD HLM h0 HK p1 p2 hw1 hw2
        generalize World.setCell _ _ _ = WE at Da1 Ba1 Ra1 HR1 HB1 ⊢
        have HLE0 := Am (show l0_1.length - 1 ≤ 12 by have := H12.out; omega)
        generalize l0_1.length - 1 = m at Da1 HR1 HM HLE0 ⊢
        generalize l0_1.eraseIdx k = d at HR1 HM ⊢
        generalize (some (⟨gM, 0, none⟩ : Addr)) = A1 at Da1 HR1 ⊢
        have HLE := Am HLE0.out
        have Daq0 := cz0 Da1.out
        have Daq1 := cz1 Da1.out
        have Baq0 := cz0 Ba1.out
        have Baq1 := cz1 Ba1.out
        have Raq0 := cz0 Ra1.out
        have Raq1 := cz1 Ra1.out
        have Raz0 := blk_frozen Ra1.out 0
        have Raz1 := blk_frozen Ra1.out 1
        have hMl := Am (Kd.R_reads' HR1.out).1
        obtain ⟨b12, e12⟩ : ∃ b, decide (m = 12) = b := ⟨_, rfl⟩
        obtain ⟨f1, f2, f3, f4, f5, f6⟩ := eqN_ (12 : Int) rfl e12
        cases b12
        · have hput := Am (put_ gDa a0_0 ⟨a1, wrap64 (a0_0 + a2), a3⟩ (Kd.Q_of_R HR1.out) Da1.out HB1.out.size GEDa.out (by have := H12.out; have := HLE.out; omega))
          clear Raz0 Raz1
          go_wp2_with (first
            | (go_at_call 20; refine hput.out.mono ?_; rintro e wp_ ⟨rfl, v2, hP⟩; obtain ⟨A2, n2, c2, rfl⟩ : ∃ A2 n2 c2, v2 = Value.slice A2 n2 c2 := (Kd.Q_slice hP.q).elim fun A1 h => h.elim fun c1 h => ⟨A1, _, c1, h.1⟩; have HP := Am hP; have RaP := Am ((hP.keep gRa (blk_lt Ra1.out) hRD.out (Kd.R_ne HR1.out Ra1.out (by decide))).trans Ra1.out); clear hP Raq0 Raq1 Baq0 Baq1 Daq0 Daq1; have Daq0 := cz0 HP.out.cell; have Daq1 := cz1 HP.out.cell; have Raq0 := cz0 RaP.out; have Raq1 := cz1 RaP.out; have Raz0 := blk_frozen RaP.out 0; have Raz1 := blk_frozen RaP.out 1)
            | fail)
          have hp0 := blk_put (cs' := #[.int .i64 a0_0, .slice none 0 0]) RaP.out 0 (.int .i64 a0_0) rfl
          have hp1 := blk_put (cs' := #[.int .i64 a0_0, .slice A2 n2 c2]) hp0 1 (.slice A2 n2 c2) rfl
          refine bodyPost_ret (results_ct rfl _ _ gRa 25 #[.int .i64 a0_0, .slice A2 n2 c2] (0, 0) _ rfl hp1 Try.underlying25 rfl (by kernel_rfl)) rfl ?_
          rw [HM.out.1] at H
          rw [if_neg (by have z := of_decide_eq_false e12; first | exact z | (rw [← hMl.out]; exact z))] at H
          simp only [Prod.mk.injEq] at H
          obtain ⟨rfl, rfl, rfl⟩ := H
          exact ⟨_, rfl, Kd.R_set (Kd.R_set (R_of_head HP.out.q (HP.out.head (head_R HR1.out)) (putM_pos (Int.not_lt.1 (of_decide_eq_false eg)))) RaP.out (by decide) 0 _) hp0 (by decide) 1 _, ((HB1.out.trans HP.out.below).setCell GERa.out _).setCell GERa.out _⟩
        · go_wp2_with fail
          refine bodyPost_ret (results_ct rfl _ _ gRa 25 #[.int .i64 0, .slice none 0 0] (0, 0) _ rfl (blk_put (cs := #[.int .i64 0, .slice none 0 0]) (blk_put (cs := #[.int .i64 0, .slice none 0 0]) Ra1.out 0 _ rfl) 1 _ rfl) Try.underlying25 rfl (by kernel_rfl)) rfl ?_
          rw [HM.out.1] at H
          rw [if_pos (by have z := of_decide_eq_true e12; first | exact z | (rw [← hMl.out]; exact z))] at H
          simp only [Prod.mk.injEq] at H
          obtain ⟨rfl, rfl, rfl⟩ := H
          exact ⟨_, rfl, Kd.R_nil _ _ _ _ _, (HB1.out.setCell GERa.out _).setCell GERa.out _⟩
      · have p1 : decide (q ≥ 0) = false := decide_eq_false h0
        have p2 := eq_false h0
        have p3 : q < 0 := by omega
        go_upto_region 7 with (first
      | (go_at_call 14; refine (impl_Clock_at.calls a0_0 _ _ l0_1 a1 _ _ GD.out.2.2 GD.out.2.1 rfl).mono ?_; rintro e w_ ⟨rfl, hb⟩; rw [hq]; have HR2 := Am (Kd.R_below HRD.out hb); have HB_ := Am (bP (by repeat (first | exact HB.out | apply oA | apply o1)) hb); have Ba_ := Am (bB (by repeat (first | exact Ba.out | refine bA ?_ _ | refine blk_drew ?_)) hb); have Ra_ := Am (bB (by repeat (first | exact Ra.out | refine bA ?_ _ | refine blk_drew ?_)) hb); have Da_ := Am (bB (by repeat (first | exact Da.out | refine bA ?_ _ | refine blk_drew ?_)) hb); clear HB hb Ba Ra Da; have HB := HB_; clear HB_; (try clear Baq0 Baq1); have Ba := Ba_; clear Ba_; have Baq0 := cz0 Ba.out; have Baq1 := cz1 Ba.out; (try clear Raq0 Raq1); have Ra := Ra_; clear Ra_; have Raq0 := cz0 Ra.out; have Raq1 := cz1 Ra.out; (try clear Daq0 Daq1); have Da := Da_; clear Da_; have Daq0 := cz0 Da.out; have Daq1 := cz1 Da.out)
      | fail)
        have Da1 := Da
        have Ba1 := Ba
        have Ra1 := Ra
        have HR1 := HR2
        have HB1 := HB
        have HM := Am (show lessM l0_1 a1 = l0_1 ∧ l0_1.length = l0_1.length from ⟨by rw [HLM.out, if_neg (by omega)], rfl⟩)
        have HLE := Am (show l0_1.length ≤ 12 from H12.out)
        have Daq0 := cz0 Da1.out
        have Daq1 := cz1 Da1.out
        have Baq0 := cz0 Ba1.out
        have Baq1 := cz1 Ba1.out
        have Raq0 := cz0 Ra1.out
        have Raq1 := cz1 Ra1.out
        have Raz0 := blk_frozen Ra1.out 0
        have Raz1 := blk_frozen Ra1.out 1
        have hMl := Am (Kd.R_reads' HR1.out).1
        obtain ⟨b12, e12⟩ : ∃ b, decide (l0_1.length = 12) = b := ⟨_, rfl⟩
        obtain ⟨f1, f2, f3, f4, f5, f6⟩ := eqN_ (12 : Int) rfl e12
        cases b12
        · have hput := Am (put_ gDa a0_0 ⟨a1, wrap64 (a0_0 + a2), a3⟩ (Kd.Q_of_R HR1.out) Da1.out HB1.out.size GEDa.out (by have := H12.out; have := HLE.out; omega))
          clear Raz0 Raz1
          go_wp2_with (first
            | (go_at_call 20; refine hput.out.mono ?_; rintro e wp_ ⟨rfl, v2, hP⟩; obtain ⟨A2, n2, c2, rfl⟩ : ∃ A2 n2 c2, v2 = Value.slice A2 n2 c2 := (Kd.Q_slice hP.q).elim fun A1 h => h.elim fun c1 h => ⟨A1, _, c1, h.1⟩; have HP := Am hP; have RaP := Am ((hP.keep gRa (blk_lt Ra1.out) hRD.out (Kd.R_ne HR1.out Ra1.out (by decide))).trans Ra1.out); clear hP Raq0 Raq1 Baq0 Baq1 Daq0 Daq1; have Daq0 := cz0 HP.out.cell; have Daq1 := cz1 HP.out.cell; have Raq0 := cz0 RaP.out; have Raq1 := cz1 RaP.out; have Raz0 := blk_frozen RaP.out 0; have Raz1 := blk_frozen RaP.out 1)
            | fail)
          have hp0 := blk_put (cs' := #[.int .i64 a0_0, .slice none 0 0]) RaP.out 0 (.int .i64 a0_0) rfl
          have hp1 := blk_put (cs' := #[.int .i64 a0_0, .slice A2 n2 c2]) hp0 1 (.slice A2 n2 c2) rfl
          refine bodyPost_ret (results_ct rfl _ _ gRa 25 #[.int .i64 a0_0, .slice A2 n2 c2] (0, 0) _ rfl hp1 Try.underlying25 rfl (by kernel_rfl)) rfl ?_
          rw [HM.out.1] at H
          rw [if_neg (by have z := of_decide_eq_false e12; first | exact z | (rw [← hMl.out]; exact z))] at H
          simp only [Prod.mk.injEq] at H
          obtain ⟨rfl, rfl, rfl⟩ := H
          exact ⟨_, rfl, Kd.R_set (Kd.R_set (R_of_head HP.out.q (HP.out.head (head_R HR1.out)) (putM_pos (Int.not_lt.1 (of_decide_eq_false eg)))) RaP.out (by decide) 0 _) hp0 (by decide) 1 _, ((HB1.out.trans HP.out.below).setCell GERa.out _).setCell GERa.out _⟩
        · go_wp2_with fail
          refine bodyPost_ret (results_ct rfl _ _ gRa 25 #[.int .i64 0, .slice none 0 0] (0, 0) _ rfl (blk_put (cs := #[.int .i64 0, .slice none 0 0]) (blk_put (cs := #[.int .i64 0, .slice none 0 0]) Ra1.out 0 _ rfl) 1 _ rfl) Try.underlying25 rfl (by kernel_rfl)) rfl ?_
          rw [HM.out.1] at H
          rw [if_pos (by have z := of_decide_eq_true e12; first | exact z | (rw [← hMl.out]; exact z))] at H
          simp only [Prod.mk.injEq] at H
          obtain ⟨rfl, rfl, rfl⟩ := H
          exact ⟨_, rfl, Kd.R_nil _ _ _ _ _, (HB1.out.setCell GERa.out _).setCell GERa.out _⟩
  all_goals
    have H2 : ((0, [], false) : Int × List S35 × Bool) = (r1, r2, r3) := by
      rw [← H, if_neg]
      simp [*]
    simp only [Prod.mk.injEq] at H2
    obtain ⟨rfl, rfl, rfl⟩ := H2
    clear H
    go_enter Try.func9, Try.ntmps9
    go_wp2_with (first
      | ((with_reducible refine gate_dst (N := 4) rfl ?_); refine box_event ?hg (N := 4) ?hd (cs := #[.int .i64 a0_0, .slice A0_1 l0_1.length c0_1]) (t := 25) ?hr ?_; (case hd => rfl); (case hg => rfl); (case hr => first | (go_simp; done) | (go_simp; rfl)); intro gBa hg w_ hbox hb; have Ba := Am hbox; have HB_ := Am (bP (by repeat (first | exact HB.out | apply oA | apply o1)) hb); clear HB hb ; have HB := HB_; clear HB_; clear hg hbox; have Baq0 := cz0 Ba.out; have Baq1 := cz1 Ba.out)
      | ((with_reducible refine gate_dst (N := 8) rfl ?_); refine box_event ?hg (N := 8) ?hd (cs := #[.int .i64 0, .slice none 0 0]) (t := 25) ?hr ?_; (case hd => rfl); (case hg => rfl); (case hr => first | (go_simp; done) | (go_simp; rfl)); intro gRa hg w_ hbox hb; have GERa := Am (show w.heap.size ≤ gRa from by rw [hg]; exact bZ HB.out); have NERaBa := Am (show gRa ≠ gBa from by have := blk_lt Ba.out; omega); have Ra := Am hbox; have HB_ := Am (bP (by repeat (first | exact HB.out | apply oA | apply o1)) hb); have Ba_ := Am (bB (by repeat (first | exact Ba.out | refine bA ?_ _ | refine blk_drew ?_)) hb); clear HB hb Ba; have HB := HB_; clear HB_; (try clear Baq0 Baq1); have Ba := Ba_; clear Ba_; have Baq0 := cz0 Ba.out; have Baq1 := cz1 Ba.out; clear hg hbox; have Raq0 := cz0 Ra.out; have Raq1 := cz1 Ra.out)
      | (go_at_call 10; refine (impl_ClockOk.calls a0_0 A0_1 c0_1 l0_1 _ _ (cB G.out HB.out) HL.out rfl).mono ?_; rintro e w_ ⟨rfl, hb⟩; rw [ea]; have HB_ := Am (bP (by repeat (first | exact HB.out | apply oA | apply o1)) hb); have Ba_ := Am (bB (by repeat (first | exact Ba.out | refine bA ?_ _ | refine blk_drew ?_)) hb); have Ra_ := Am (bB (by repeat (first | exact Ra.out | refine bA ?_ _ | refine blk_drew ?_)) hb); clear HB hb Ba Ra; have HB := HB_; clear HB_; (try clear Baq0 Baq1); have Ba := Ba_; clear Ba_; have Baq0 := cz0 Ba.out; have Baq1 := cz1 Ba.out; (try clear Raq0 Raq1); have Ra := Ra_; clear Ra_; have Raq0 := cz0 Ra.out; have Raq1 := cz1 Ra.out; have Raz0 := blk_frozen Ra.out 0; have Raz1 := blk_frozen Ra.out 1)
      | (go_at_call 19; refine (in_ _ _ _ _).mono ?_; rintro e w_ ⟨rfl, hb⟩; (try clear Raz0 Raz1); (try first | rw [eb] | rw [ec] | rw [ed]); have HB_ := Am (bP (by repeat (first | exact HB.out | apply oA | apply o1)) hb); have Ba_ := Am (bB (by repeat (first | exact Ba.out | refine bA ?_ _ | refine blk_drew ?_)) hb); have Ra_ := Am (bB (by repeat (first | exact Ra.out | refine bA ?_ _ | refine blk_drew ?_)) hb); clear HB hb Ba Ra; have HB := HB_; clear HB_; (try clear Baq0 Baq1); have Ba := Ba_; clear Ba_; have Baq0 := cz0 Ba.out; have Baq1 := cz1 Ba.out; (try clear Raq0 Raq1); have Ra := Ra_; clear Ra_; have Raq0 := cz0 Ra.out; have Raq1 := cz1 Ra.out; have Raz0 := blk_frozen Ra.out 0; have Raz1 := blk_frozen Ra.out 1)
      | fail)
    refine bodyPost_ret (results_ct rfl _ _ gRa 25 #[.int .i64 0, .slice none 0 0] (0, 0) _ rfl (blk_put (cs := #[.int .i64 0, .slice none 0 0]) (blk_put (cs := #[.int .i64 0, .slice none 0 0]) Ra.out 0 _ rfl) 1 _ rfl) Try.underlying25 rfl (by kernel_rfl)) rfl ?_
    exact ⟨_, rfl, Kd.R_nil _ _ _ _ _, (HB.out.setCell GERa.out _).setCell GERa.out _⟩
end Go.Proofs.Ytpacdakadkblgaa.PFnClockDrop
