/- Proved here, without a condition beyond those that each theorem states: (impl.Clock).put. Printed by ck.py, a program of this session. -/
import Derived.Test.YtpacdakadkblgaaCI
import Derived.Test.YtpacdakadkblgaaCB
import Derived.Test.YtpacdakadkblgaaCK
namespace Go.Proofs.Ytpacdakadkblgaa.PFnClockDrop
open Go.RowKit Go.Proofs.YtpacdakadkblgaaW.PrintWords Go.Proofs.YtpacdakadkblgaaW.PrintLast Go.Proofs.YtpacdakadkblgaaW.PrintMore
set_option linter.unusedVariables false
set_option linter.unusedSimpArgs false
attribute [local go_sem ↓] isSome_setCell_
/-- What put makes of the alarms. -/
def putM (t : List S35) (a : S35) : List S35 := if a.f1 ≤ 4095 then insAt t (bsI t a) a else t
theorem bsGo_le (t : List S35) (a : S35) : ∀ (d i j : Nat), i ≤ j → bsGo t a d i j ≤ j
  | 0, _, _, h => h
  | d + 1, i, j, h => by
    rw [bsGo]
    split
    · split
      · exact bsGo_le t a d _ _ (by omega)
      · exact Nat.le_trans (bsGo_le t a d _ _ (by omega)) (by omega)
    · exact h
theorem bsI_le (t : List S35) (a : S35) : bsI t a ≤ t.length := bsGo_le t a _ _ _ (by omega)
/-- What a call of put leaves. -/
structure Putted (w : World) (base cp : Nat) (now : Int) (v : Value) (r : List S35) (v' : Value) (w' : World) : Prop where
  cell : w'.heap[cp]? = some (.cells #[.int .i64 now, v'] 25 (0, 0))
  q : Kd.Q k35 35 w' base (fun _ => True) v' r
  below : Below base w w'
  size : w.heap.size ≤ w'.heap.size
  keep : ∀ k, k < w.heap.size → k ≠ cp → some k ≠ v.ownBlock → w'.heap[k]? = w.heap[k]?
  own : v'.ownBlock = v.ownBlock ∨ ∃ b, v'.ownBlock = some b ∧ w.heap.size ≤ b
  head : Head v → Head v'
set_option maxHeartbeats 4000000 in
set_option maxRecDepth 100000 in
theorem put_ {base : Nat} {w : World} {A : Option Addr} {n c : Nat} {l : List S35} (gCa : Nat) (now : Int) (a : S35) (HO : Kd.Q k35 35 w base (fun _ => True) (.slice A n c) l) (hc : w.heap[gCa]? = some (.cells #[.int .i64 now, .slice A n c] 25 (0, 0)))
    (hbs : base ≤ w.heap.size) (hbc : base ≤ gCa) (hlen : n ≤ 1000000) :
    Calls Try.prog 20 #[.pointer (some ⟨gCa, 0, none⟩), .agg #[.int .i64 a.f0, .int .i64 a.f1, .int .i64 a.f2]] w fun e w' => e = .returned (.tuple #[]) ∧ ∃ v', Putted w base gCa now (.slice A n c) (putM l a) v' w' := by
  have hu23 := Try.underlying23
  have hu25 := Try.underlying25
  have hu35 := Try.underlying35
  have HB := Am (bJ w.heap.size w)
  obtain ⟨hnl, hnc, hC⟩ := Kd.Q_reads' HO
  subst hnl
  have HC := Am hC
  have HQ := Am HO
  have Ca := Am hc
  have HL := Am hlen
  clear HO hc hlen hC
  have hres_ : ∀ ts_ w_, Sem.run Try.prog (results Try.f20 ts_) w_ = .ok (.tuple #[]) w_ := by intro ts_ w_; simp [results, Try.results20, go_sem]
  rcases bc (decide (a.f1 ≤ 4095)) with e | e
  · have hM : Aside0 (putM l a = l) := ⟨by unfold putM; rw [if_neg (of_decide_eq_false e)]⟩
    go_enter Try.func20, Try.ntmps20
    go_wp2_with (first
      | ((with_reducible refine gate_dst (N := 3) rfl ?_); refine box_event ?hg (N := 3) ?hd (cs := #[.int .i64 a.f0, .int .i64 a.f1, .int .i64 a.f2]) (t := 35) ?hr ?_; (case hd => rfl); (case hg => rfl); (case hr => first | (go_simp; done) | (go_simp; rfl)); intro gEa hg w_ hbox hb; have Ea := Am hbox; have HB_ := Am (bP (by repeat (first | exact HB.out | apply oA | apply o1)) hb); have Ca_ := Am (bB (by repeat (first | exact Ca.out | refine bA ?_ _ | refine blk_drew ?_)) hb); clear HB hb Ca; have HB := HB_; clear HB_; (try clear Caq0 Caq1); have Ca := Ca_; clear Ca_; have Caq0 := cz0 Ca.out; have Caq1 := cz1 Ca.out; clear hg hbox; obtain ⟨Eaq0, Eaq1, Eaq2⟩ := cy3 Ea.out)
      | fail)
    refine bodyPost_end (v := .tuple #[]) (hres_ _ _) rfl ?_
    exact ⟨rfl, _, ⟨Ca.out, by rw [hM.out]; exact Kd.Q_below HQ.out HB.out, Below.mono HB.out hbs, HB.out.size, fun k hk _ _ => HB.out.block k hk, .inl rfl, fun h => h⟩⟩
  · have hM : Aside0 (putM l a = insAt l (bsI l a) a) := ⟨by unfold putM; rw [if_pos (of_decide_eq_true e)]⟩
    go_enter Try.func20, Try.ntmps20
    go_wp2_with (first
      | ((with_reducible refine gate_dst (N := 3) rfl ?_); refine box_event ?hg (N := 3) ?hd (cs := #[.int .i64 a.f0, .int .i64 a.f1, .int .i64 a.f2]) (t := 35) ?hr ?_; (case hd => rfl); (case hg => rfl); (case hr => first | (go_simp; done) | (go_simp; rfl)); intro gEa hg w_ hbox hb; have GEEa := Am (show w.heap.size ≤ gEa from by rw [hg]; exact bZ HB.out); have NEEaCa := Am (show gEa ≠ gCa from by have := blk_lt Ca.out; omega); have Ea := Am hbox; have HB_ := Am (bP (by repeat (first | exact HB.out | apply oA | apply o1)) hb); have Ca_ := Am (bB (by repeat (first | exact Ca.out | refine bA ?_ _ | refine blk_drew ?_)) hb); clear HB hb Ca; have HB := HB_; clear HB_; (try clear Caq0 Caq1); have Ca := Ca_; clear Ca_; have Caq0 := cz0 Ca.out; have Caq1 := cz1 Ca.out; clear hg hbox; obtain ⟨Eaq0, Eaq1, Eaq2⟩ := cy3 Ea.out)
      | fail)
    have HM := Am (fun W (hb : Below w_.heap.size w_ W) => (⟨hb, pw_cell_below hb Caq1, pw_cell_below hb Eaq0, pw_cell_below hb Eaq1, pw_cell_below hb Eaq2⟩ : Below w_.heap.size w_ W ∧ W.cell? ⟨gCa, 1, none⟩ = some (.slice A l.length c) ∧ W.cell? ⟨gEa, 0, none⟩ = some (.int .i64 a.f0) ∧ W.cell? ⟨gEa, 1, none⟩ = some (.int .i64 a.f1) ∧ W.cell? ⟨gEa, 2, none⟩ = some (.int .i64 a.f2)))
    go_wp2_with fail
    refine via_go HM [(0, 10), (1, 11), (2, 12), (3, 13), (4, 14), (5, 15), (6, 9), (7, 16), (8, 17), (9, 4), (10, 5)] (by as_aux_lemma => kernel_rfl) ?_ (fun hHeld => ?_)
    · (first | with_reducible exact HM.out _ (o1 (bJ _ _)) | with_reducible assumption | exact HM.out _ (bP (And.left (by assumption : Below w_.heap.size w_ _ ∧ _)) (by assumption)))
    repeat (first
      | (refine via_take (v := ?_) rfl (by as_aux_lemma => kernel_rfl) (by as_aux_lemma => kernel_rfl) (by as_aux_lemma => kernel_rfl) (by as_aux_lemma => kernel_rfl) (fun _ _ _ h => h) (Or.inl ⟨by rfl, ?_⟩) (by assumption) ?_; rotate_left; (focus (intro w hSw; (try dsimp only at hSw); go_simp; (try with_reducible rfl); done)); (try simp only [Act.put, List.setIfInBounds_toArray, List.set_cons_zero, List.set_cons_succ]))
      | (refine via_take rfl (by as_aux_lemma => kernel_rfl) (by as_aux_lemma => kernel_rfl) (by as_aux_lemma => kernel_rfl) (by as_aux_lemma => kernel_rfl) (fun _ _ _ h => h) (Or.inr ⟨by rfl, rfl⟩) (by assumption) ?_; (try simp only [Act.put, List.setIfInBounds_toArray, List.set_cons_zero, List.set_cons_succ]))
      | (refine via_call rfl (by as_aux_lemma => kernel_rfl) (fun K hK => ?_); (try simp only [List.getElem_toArray, List.getElem_cons_zero, List.getElem_cons_succ]); go_simp; (first | (go_at_call 30; refine (bs_ A c l a _ (cB HC.out (bP HB.out (And.left (by assumption : Below w_.heap.size w_ _ ∧ _)))) HL.out).mono ?_; rintro e wc_ ⟨b, rfl, hb⟩)); (try go_wp2_with fail); refine hK.out _ _ ?_ (fun hHeld => ?_); (focus (first | with_reducible exact HM.out _ (o1 (bJ _ _)) | with_reducible assumption | exact HM.out _ (bP (And.left (by assumption : Below w_.heap.size w_ _ ∧ _)) (by assumption)))); clear hK K; (try simp only [Act.put, List.setIfInBounds_toArray, List.set_cons_zero, List.set_cons_succ])))
    refine via_done (by as_aux_lemma => kernel_rfl) ?_
    have HE := Am (And.left (by assumption : Below w_.heap.size w_ _ ∧ _))
    have HB_ := Am (bP HB.out HE.out); clear HB; have HB := HB_; clear HB_; have Ca_ := Am (bB Ca.out HE.out); clear Ca Caq0 Caq1; have Ca := Ca_; clear Ca_; have Caq0 := cz0 Ca.out; have Caq1 := cz1 Ca.out; have Ea_ := Am (bB Ea.out HE.out); clear Ea Eaq0 Eaq1 Eaq2; have Ea := Ea_; clear Ea_; obtain ⟨Eaq0, Eaq1, Eaq2⟩ := cy3 Ea.out; clear HE
    clear HM hHeld
    have hbx := Below.mono HB.out hbs
    have HS := Am (show Below base w wc_ from hbx)
    go_wp2_with fail
    refine via_start (S := fun W => Below base w W ∧ W.cell? ⟨gEa, 0, none⟩ = some (.int .i64 a.f0) ∧ W.cell? ⟨gEa, 1, none⟩ = some (.int .i64 a.f1) ∧ W.cell? ⟨gEa, 2, none⟩ = some (.int .i64 a.f2)) [(0, 18), (1, 19), (2, 20), (3, 21), (5, 23), (6, 24)] (by kernel_rfl) ?_ (fun hHeld => ?_)
    · exact ⟨o1 HS.out, Eaq0, Eaq1, Eaq2⟩
    iterate 6 (refine via_take (v := ?_) rfl (by kernel_rfl) (by kernel_rfl) (by kernel_rfl) (by kernel_rfl) (fun _ _ _ h => h) (Or.inl ⟨by rfl, ?_⟩) (by assumption) ?_; rotate_left; (focus (intro w hSw; (try dsimp only at hSw); go_simp; (try with_reducible rfl); done)); (try simp only [Act.put, List.setIfInBounds_toArray, List.set_cons_zero, List.set_cons_succ]))
    have qA : (World.alloc wc_ (.cells #[.int .i64 a.f0, .int .i64 a.f1, .int .i64 a.f2] 35)).cell? ⟨gCa, 1, none⟩ = some (.slice A l.length c) := cz1 (blk_alloc Ca.out _)
    have hlt := Am (Kd.Q_lt HQ.out)
    have hbo := Am (Kd.Q_base HQ.out)
    have HBA := Am (show Below w.heap.size w (World.drew (World.alloc wc_ (.cells #[.int .i64 a.f0, .int .i64 a.f1, .int .i64 a.f2] 35))) from o1 (oA HB.out _))
    have HSA := Am (show Below base w (World.drew (World.alloc wc_ (.cells #[.int .i64 a.f0, .int .i64 a.f1, .int .i64 a.f2] 35))) from Below.mono HBA.out hbs)
    have CaA := Am (show (World.drew (World.alloc wc_ (.cells #[.int .i64 a.f0, .int .i64 a.f1, .int .i64 a.f2] 35))).heap[gCa]? = _ from blk_drew (blk_alloc Ca.out _))
    have EaA := Am (show (World.drew (World.alloc wc_ (.cells #[.int .i64 a.f0, .int .i64 a.f1, .int .i64 a.f2] 35))).heap[gEa]? = _ from blk_drew (blk_alloc Ea.out _))
    have VaA := Am (show (World.drew (World.alloc wc_ (.cells #[.int .i64 a.f0, .int .i64 a.f1, .int .i64 a.f2] 35))).heap[wc_.heap.size]? = some (.cells #[.int .i64 a.f0, .int .i64 a.f1, .int .i64 a.f2] 35 (0, 0)) from blk_drew (blk_new _ _))
    have hneV := Am (show some wc_.heap.size ≠ (Value.slice A l.length c).ownBlock from fun h => by have := hlt.out _ h.symm; have := HB.out.size; omega)
    have hneE := Am (show some gEa ≠ (Value.slice A l.length c).ownBlock from fun h => by have := hlt.out _ h.symm; have := GEEa.out; omega)
    have hneC := Am (show some gCa ≠ (Value.slice A l.length c).ownBlock from Kd.Q_ne (Kd.Q_below HQ.out HB.out) Ca.out (by decide))
    have hEC := Am (show gEa ≠ gCa from blk_ne Ea.out Ca.out (by decide))
    refine via_two (i := 4) (j := 7) [(7, 25), (8, 26), (9, 27), (10, 28), (11, 999)] [(4, 22), (8, 26), (9, 27), (10, 28), (11, 999)] rfl rfl (by kernel_rfl) (fun K hK => ?_) (fun K hK => ?_)
    focus
      ((try simp only [List.getElem_toArray, List.getElem_cons_zero, List.getElem_cons_succ]); go_simp; skip; (try go_wp2_with fail); refine hK.out _ _ ?_ (fun hHeld => ?_); (focus exact hHeld); clear hK K; (try simp only [Act.put, List.setIfInBounds_toArray, List.set_cons_zero, List.set_cons_succ]))
      (refine via_call rfl (by kernel_rfl) (fun K hK => ?_); (try simp only [List.getElem_toArray, List.getElem_cons_zero, List.getElem_cons_succ]); go_simp; skip; (try go_wp2_with fail); refine hK.out _ _ ?_ (fun hHeld => ?_); (focus exact ⟨HSA.out, (cy3 EaA.out).1, (cy3 EaA.out).2.1, (cy3 EaA.out).2.2⟩); clear hK K; (try simp only [Act.put, List.setIfInBounds_toArray, List.set_cons_zero, List.set_cons_succ]))
      generalize World.drew (World.alloc wc_ _) = WA at HBA HSA CaA EaA VaA hHeld ⊢
    rotate_left
    focus
      ((try simp only [List.getElem_toArray, List.getElem_cons_zero, List.getElem_cons_succ]); go_simp; skip; (try go_wp2_with fail); refine hK.out _ _ ?_ (fun hHeld => ?_); (focus exact ⟨HSA.out, (cy3 EaA.out).1, (cy3 EaA.out).2.1, (cy3 EaA.out).2.2⟩); clear hK K; (try simp only [Act.put, List.setIfInBounds_toArray, List.set_cons_zero, List.set_cons_succ]))
      (refine via_call rfl (by kernel_rfl) (fun K hK => ?_); (try simp only [List.getElem_toArray, List.getElem_cons_zero, List.getElem_cons_succ]); go_simp; skip; (try go_wp2_with fail); refine hK.out _ _ ?_ (fun hHeld => ?_); (focus exact hHeld); clear hK K; (try simp only [Act.put, List.setIfInBounds_toArray, List.set_cons_zero, List.set_cons_succ]))
      generalize World.drew (World.alloc wc_ _) = WA at HBA HSA CaA EaA VaA hHeld ⊢
    all_goals
      clear qA HB HS Ca Ea Caq0 Caq1 Eaq0 Eaq1 Eaq2 hbx
      have hbsA := Am (Nat.le_trans hbs HBA.out.size)
      (refine via_call rfl (by kernel_rfl) (fun K hK => ?_); (try simp only [List.getElem_toArray, List.getElem_cons_zero, List.getElem_cons_succ]); go_simp; (go_at_call 31; refine (ins_ (bsI l a) a wc_.heap.size (Kd.Q_below HQ.out HBA.out) (bsI_le l a) hbsA.out VaA.out hneV.out HL.out).mono ?_; rintro e wi_ ⟨v1, rfl, hI⟩; obtain ⟨A1, n1, c1, rfl⟩ : ∃ A1 n1 c1, v1 = Value.slice A1 n1 c1 := (Kd.Q_slice hI.q).elim fun A1 h => h.elim fun c1 h => ⟨A1, _, c1, h.1⟩); (try go_wp2_with fail); refine hK.out _ _ ?_ (fun hHeld => ?_); (focus (have EaI := blk_grown EaA.out hI.grown hneE.out; exact ⟨HSA.out.grown hI.grown hbsA.out hbo.out, (cy3 EaI).1, (cy3 EaI).2.1, (cy3 EaI).2.2⟩)); clear hK K; (try simp only [Act.put, List.setIfInBounds_toArray, List.set_cons_zero, List.set_cons_succ]))
      have HI := Am hI
      have EaI := Am (blk_grown EaA.out hI.grown hneE.out)
      have CaI := Am (blk_grown CaA.out hI.grown hneC.out)
      have HSI := Am (HSA.out.grown hI.grown hbsA.out hbo.out)
      have qc1 := cz1 CaI.out
      have zc := blk_frozen CaI.out 1
      clear hI EaA CaA
      iterate 2 (refine via_take (v := ?_) rfl (by kernel_rfl) (by kernel_rfl) (by kernel_rfl) (by kernel_rfl) (fun _ _ _ h => h) (Or.inl ⟨by rfl, ?_⟩) (by assumption) ?_; rotate_left; (focus (intro w hSw; (try dsimp only at hSw); go_simp; (try with_reducible rfl); done)); (try simp only [Act.put, List.setIfInBounds_toArray, List.set_cons_zero, List.set_cons_succ]))
      (refine via_call rfl (by kernel_rfl) (fun K hK => ?_); (try simp only [List.getElem_toArray, List.getElem_cons_zero, List.getElem_cons_succ]); go_simp; skip; (try go_wp2_with fail); refine hK.out _ _ ?_ (fun hHeld => ?_); (focus (have EaS := blk_far EaI.out (p := ⟨gCa, 1, none⟩) hEC.out (Value.slice A1 n1 c1); exact ⟨HSI.out.setCell hbc _, (cy3 EaS).1, (cy3 EaS).2.1, (cy3 EaS).2.2⟩)); clear hK K; (try simp only [Act.put, List.setIfInBounds_toArray, List.set_cons_zero, List.set_cons_succ]))
      refine via_done (by kernel_rfl) ?_
      clear qc1 zc hHeld
      go_wp2_with fail
      refine bodyPost_end (v := .tuple #[]) (hres_ _ _) rfl ?_
      have hput := blk_put CaI.out 1 (.slice A1 n1 c1) (cs' := #[.int .i64 now, .slice A1 n1 c1]) rfl
      refine ⟨rfl, .slice A1 n1 c1, ⟨hput, by rw [hM.out]; exact Kd.Q_set HI.out.q CaI.out (by decide) 1 _, HSI.out.setCell hbc _, ?_, ?_, ?_, HI.out.head⟩⟩
      · have h1 := HBA.out.size
        have h2 := HI.out.grown.size
        simp only [World.setCell, Array.size_modify]
        first | omega | (simp; omega)
      · intro k hk h1 h2
        have h3 := HBA.out.size
        exact (Below.heap_setCell wi_ ⟨gCa, 1, none⟩ _ k h1).trans ((HI.out.grown.block k (by omega) h2).trans (HBA.out.block k hk))
      · rcases HI.out.own with h | ⟨b2, h1, h2⟩
        · exact .inl h
        · exact .inr ⟨b2, h1, Nat.le_trans HBA.out.size h2⟩
end Go.Proofs.Ytpacdakadkblgaa.PFnClockDrop
