/- Proved here, without a condition beyond those that each theorem states: slices.BinarySearchFunc by impl.byTime. Printed by ck.py, a program of this session. -/
import Derived.Test.YtpacdakadkblgaaCK
namespace Go.Proofs.Ytpacdakadkblgaa.PFnClockDrop
open Go.RowKit Go.Proofs.YtpacdakadkblgaaW.PrintWords Go.Proofs.YtpacdakadkblgaaW.PrintLast Go.Proofs.YtpacdakadkblgaaW.PrintMore
set_option linter.unusedVariables false
set_option linter.unusedSimpArgs false
attribute [local go_sem ↓] isSome_setCell_
/-- Where the search looks, from i to j. -/
def bsGo (t : List S35) (a : S35) : Nat → Nat → Nat → Nat
  | 0, i, _ => i
  | d + 1, i, j => if i < j then (if byT (aT t ((i + j) / 2)) a < 0 then bsGo t a d ((i + j) / 2 + 1) j else bsGo t a d i ((i + j) / 2)) else i
def bsI (t : List S35) (a : S35) : Nat := bsGo t a t.length 0 t.length
set_option maxHeartbeats 4000000 in
set_option maxRecDepth 100000 in
theorem bs_ (A : Option Addr) (c : Nat) (l : List S35) (a : S35) (w : World) (hr : Kd.C k35 w A l.length l) (hmax : l.length ≤ 1000000) :
  Calls Try.prog 30 #[.slice A l.length c, .agg #[.int .i64 a.f0, .int .i64 a.f1, .int .i64 a.f2], .func (.func 21) #[] #[]] w fun e w' => ∃ b : Bool, e = .returned (.tuple #[.int .i64 (bsI l a : Nat), .bool b]) ∧ Below w.heap.size w w' := by
  have hu23 := Try.underlying23
  have hu35 := Try.underlying35
  have G := Am hr
  have hlen := hr.2.1
  clear hr
  have HB := Am (bJ w.heap.size w)
  go_enter Try.func30, Try.ntmps30
  go_wp2_with (first
      | ((with_reducible refine gate_dst (N := 4) rfl ?_); refine box_event ?hg (N := 4) ?hd (cs := #[.int .i64 a.f0, .int .i64 a.f1, .int .i64 a.f2]) (t := 35) ?hr ?_; (case hd => rfl); (case hg => rfl); (case hr => first | (go_simp; done) | (go_simp; rfl)); intro gTa hg w_ hbox hb; have Ta := Am hbox; have HB_ := Am (bP (by repeat (first | exact HB.out | apply oA | apply o1)) hb); clear HB hb ; have HB := HB_; clear HB_; clear hg hbox; obtain ⟨Taq0, Taq1, Taq2⟩ := cy3 Ta.out)
      | fail)
  go_loopg [9, 10] (l.length + 1) (fun kq v9 v10 w' => ∃ i j d : Nat, v9 = .int .i64 (i : Int) ∧ v10 = .int .i64 (j : Int) ∧ Aside0 (i ≤ j) ∧ Aside0 (j ≤ l.length) ∧ Aside0 (j - i ≤ d) ∧ Aside0 (j - i ≤ kq) ∧ Aside0 (Below w.heap.size w w') ∧ Aside0 (w'.heap[gTa]? = some (.cells #[.int .i64 a.f0, .int .i64 a.f1, .int .i64 a.f2] 35 (0, 0))) ∧ Aside0 (bsI l a = bsGo l a d i j))
  case atStart => exact ⟨0, l.length, l.length, rfl, rfl, ⟨by omega⟩, ⟨by omega⟩, ⟨by omega⟩, ⟨by omega⟩, HB, Ta, ⟨rfl⟩⟩
  case round =>
    clear HB Ta Taq0 Taq1 Taq2
    obtain ⟨i, j, d, rfl, rfl, H1, H2, H3, H4, HB, Ta, HA⟩ := hrel
    obtain ⟨Taq0, Taq1, Taq2⟩ := cy3 Ta.out
    by_cases hlt : i < j
    · obtain ⟨h, hh⟩ : ∃ h, h = (i + j) / 2 := ⟨_, rfl⟩
      have hlt2 : h < j := by omega
      have hle2 : i ≤ h := by omega
      have hj := H2.out
      have hw : wrap64 (IntKind.u64.wrap (wrap64 ((i : Int) + (j : Int))) / 2) = (h : Int) := by
        rw [IntKind.wrap_u64, hh]; unfold wrap64; omega
      have c1 : decide ((i : Int) < (j : Int)) = true := decide_eq_true (by omega)
      obtain ⟨d', hd⟩ : ∃ d', d = d' + 1 := ⟨d - 1, by have := H3.out; omega⟩
      have HA' : Aside0 (bsI l a = if byT (aT l h) a < 0 then bsGo l a d' (h + 1) j else bsGo l a d' i h) := ⟨by rw [HA.out, hd, bsGo, if_pos hlt, hh]⟩
      have HL := Am (show i < j ∧ i ≤ h ∧ h < j ∧ d = d' + 1 from ⟨hlt, hle2, hlt2, hd⟩)
      obtain ⟨ad, rfl, R⟩ := atA G.out (by omega)
      obtain ⟨s0, s1, s2⟩ := R h (by omega) _ HB.out
      have c2 : (i : Int) < (j : Int) := by omega
      have p1 := eq_true (show (0 : Int) ≤ (h : Int) by omega)
      have p2 := eq_true (show (h : Int) < (l.length : Int) by omega)
      have p3 : h < l.length := by omega
      clear hlt hlt2 hle2 hd hh HA R hj
      rcases bc (decide (byT (aT l h) a < 0)) with eb | eb
      all_goals
        have HM := Am (fun W (hb : Below wr.heap.size wr W) => (⟨hb, pw_cell_below hb Taq0, pw_cell_below hb Taq1, pw_cell_below hb Taq2, pw_cell_below hb s0, pw_cell_below hb s1, pw_cell_below hb s2⟩ : Below wr.heap.size wr W ∧ W.cell? ⟨gTa, 0, none⟩ = some (.int .i64 a.f0) ∧ W.cell? ⟨gTa, 1, none⟩ = some (.int .i64 a.f1) ∧ W.cell? ⟨gTa, 2, none⟩ = some (.int .i64 a.f2) ∧ W.cell? (ad.add (h * 3)) = some (.int .i64 (aT l h).f0) ∧ W.cell? ⟨(ad.add (h * 3)).block, (ad.add (h * 3)).off + 1, none⟩ = some (.int .i64 (aT l h).f1) ∧ W.cell? ⟨(ad.add (h * 3)).block, (ad.add (h * 3)).off + 2, none⟩ = some (.int .i64 (aT l h).f2)))
        go_wp2_with fail
        refine via_go HM [(0, 24), (1, 25), (2, 26), (3, 27), (4, 28), (5, 29), (6, 30), (7, 31)] (by as_aux_lemma => kernel_rfl) ?_ (fun hHeld => ?_)
        · (first | with_reducible exact HM.out _ (o1 (bJ _ _)) | with_reducible assumption | exact HM.out _ (bP (And.left (by assumption : Below wr.heap.size wr _ ∧ _)) (by assumption)))
        repeat (first
          | (refine via_take (v := ?_) rfl (by as_aux_lemma => kernel_rfl) (by as_aux_lemma => kernel_rfl) (by as_aux_lemma => kernel_rfl) (by as_aux_lemma => kernel_rfl) (fun _ _ _ h => h) (Or.inl ⟨by rfl, ?_⟩) (by assumption) ?_; rotate_left; (focus (intro w hSw; (try dsimp only at hSw); go_simp; (try with_reducible rfl); done)); (try simp only [Act.put, List.setIfInBounds_toArray, List.set_cons_zero, List.set_cons_succ]))
          | (refine via_take rfl (by as_aux_lemma => kernel_rfl) (by as_aux_lemma => kernel_rfl) (by as_aux_lemma => kernel_rfl) (by as_aux_lemma => kernel_rfl) (fun _ _ _ h => h) (Or.inr ⟨by rfl, rfl⟩) (by assumption) ?_; (try simp only [Act.put, List.setIfInBounds_toArray, List.set_cons_zero, List.set_cons_succ]))
          | (refine via_call rfl (by as_aux_lemma => kernel_rfl) (fun K hK => ?_); (try simp only [List.getElem_toArray, List.getElem_cons_zero, List.getElem_cons_succ]); go_simp; (first | (go_at_call 21; refine (byTime_ _ _ _).mono ?_; rintro e wc_ ⟨rfl, hb⟩)); (try go_wp2_with fail); refine hK.out _ _ ?_ (fun hHeld => ?_); (focus (first | with_reducible exact HM.out _ (o1 (bJ _ _)) | with_reducible assumption | exact HM.out _ (bP (And.left (by assumption : Below wr.heap.size wr _ ∧ _)) (by assumption)))); clear hK K; (try simp only [Act.put, List.setIfInBounds_toArray, List.set_cons_zero, List.set_cons_succ])))
        refine via_done (by as_aux_lemma => kernel_rfl) ?_
        have HE := Am (And.left (by assumption : Below wr.heap.size wr _ ∧ _))
        have HB_ := Am (bP HB.out HE.out); clear HB; have HB := HB_; clear HB_; have Ta_ := Am (bB Ta.out HE.out); clear Ta Taq0 Taq1 Taq2; have Ta := Ta_; clear Ta_; obtain ⟨Taq0, Taq1, Taq2⟩ := cy3 Ta.out; clear HE
        clear hw
        go_wp2
      · go_roundg (h - i)
        case measure => have := H4.out; have := HL.out; omega
        case rel =>
          have h3 := HL.out
          have h4 := H2.out
          have h5 := H3.out
          exact ⟨i, h, d', rfl, by go_num, ⟨by omega⟩, ⟨by omega⟩, ⟨by omega⟩, ⟨Nat.le_refl _⟩, HB, Ta, ⟨by rw [HA'.out, if_neg (of_decide_eq_false eb)]⟩⟩
      · go_roundg (j - (h + 1))
        case measure => have := H4.out; have := HL.out; omega
        case rel =>
          have h3 := HL.out
          have h4 := H2.out
          have h5 := H3.out
          exact ⟨h + 1, j, d', by go_num, rfl, ⟨by omega⟩, ⟨by omega⟩, ⟨by omega⟩, ⟨Nat.le_refl _⟩, HB, Ta, ⟨by rw [HA'.out, if_pos (of_decide_eq_true eb)]⟩⟩
    · have c1 : decide ((i : Int) < (j : Int)) = false := decide_eq_false (by omega)
      have HX : Aside0 (bsI l a = i) := ⟨by rw [HA.out]; cases d with | zero => rfl | succ d => rw [bsGo, if_neg hlt]⟩
      have c2 : ¬ (i : Int) < (j : Int) := by omega
      have hle := Nat.le_trans H1.out H2.out
      clear hlt HA
      by_cases q : i < l.length
      · obtain ⟨ad, rfl, R⟩ := atA G.out (by omega)
        obtain ⟨s0, s1, s2⟩ := R i q _ HB.out
        have d1 : decide ((i : Int) < (l.length : Int)) = true := decide_eq_true (by omega)
        have d2 : decide (i < l.length) = true := decide_eq_true q
        have p1 := eq_true (show (0 : Int) ≤ (i : Int) by omega)
        have p2 := eq_true (show (i : Int) < (l.length : Int) by omega)
        have p3 := q
        clear R q
        have HM := Am (fun W (hb : Below wr.heap.size wr W) => (⟨hb, pw_cell_below hb Taq0, pw_cell_below hb Taq1, pw_cell_below hb Taq2, pw_cell_below hb s0, pw_cell_below hb s1, pw_cell_below hb s2⟩ : Below wr.heap.size wr W ∧ W.cell? ⟨gTa, 0, none⟩ = some (.int .i64 a.f0) ∧ W.cell? ⟨gTa, 1, none⟩ = some (.int .i64 a.f1) ∧ W.cell? ⟨gTa, 2, none⟩ = some (.int .i64 a.f2) ∧ W.cell? (ad.add (i * 3)) = some (.int .i64 (aT l i).f0) ∧ W.cell? ⟨(ad.add (i * 3)).block, (ad.add (i * 3)).off + 1, none⟩ = some (.int .i64 (aT l i).f1) ∧ W.cell? ⟨(ad.add (i * 3)).block, (ad.add (i * 3)).off + 2, none⟩ = some (.int .i64 (aT l i).f2)))
        go_wp2_with fail
        refine via_go HM [(0, 35), (1, 36), (2, 37), (3, 38), (4, 39), (5, 40), (6, 41), (7, 42), (8, 43), (9, 44), (10, 45), (11, 46), (12, 47), (13, 48), (14, 6), (15, 7)] (by as_aux_lemma => kernel_rfl) ?_ (fun hHeld => ?_)
        · (first | with_reducible exact HM.out _ (o1 (bJ _ _)) | with_reducible assumption | exact HM.out _ (bP (And.left (by assumption : Below wr.heap.size wr _ ∧ _)) (by assumption)))
        repeat (first
          | (refine via_take (v := ?_) rfl (by as_aux_lemma => kernel_rfl) (by as_aux_lemma => kernel_rfl) (by as_aux_lemma => kernel_rfl) (by as_aux_lemma => kernel_rfl) (fun _ _ _ h => h) (Or.inl ⟨by rfl, ?_⟩) (by assumption) ?_; rotate_left; (focus (intro w hSw; (try dsimp only at hSw); go_simp; (try with_reducible rfl); done)); (try simp only [Act.put, List.setIfInBounds_toArray, List.set_cons_zero, List.set_cons_succ]))
          | (refine via_take rfl (by as_aux_lemma => kernel_rfl) (by as_aux_lemma => kernel_rfl) (by as_aux_lemma => kernel_rfl) (by as_aux_lemma => kernel_rfl) (fun _ _ _ h => h) (Or.inr ⟨by rfl, rfl⟩) (by assumption) ?_; (try simp only [Act.put, List.setIfInBounds_toArray, List.set_cons_zero, List.set_cons_succ]))
          | (refine via_call rfl (by as_aux_lemma => kernel_rfl) (fun K hK => ?_); (try simp only [List.getElem_toArray, List.getElem_cons_zero, List.getElem_cons_succ]); go_simp; (first | (go_at_call 21; refine (byTime_ _ _ _).mono ?_; rintro e wc_ ⟨rfl, hb⟩)); (try go_wp2_with fail); refine hK.out _ _ ?_ (fun hHeld => ?_); (focus (first | with_reducible exact HM.out _ (o1 (bJ _ _)) | with_reducible assumption | exact HM.out _ (bP (And.left (by assumption : Below wr.heap.size wr _ ∧ _)) (by assumption)))); clear hK K; (try simp only [Act.put, List.setIfInBounds_toArray, List.set_cons_zero, List.set_cons_succ])))
        refine via_done (by as_aux_lemma => kernel_rfl) ?_
        have HE := Am (And.left (by assumption : Below wr.heap.size wr _ ∧ _))
        have HB_ := Am (bP HB.out HE.out); clear HB; have HB := HB_; clear HB_; have Ta_ := Am (bB Ta.out HE.out); clear Ta Taq0 Taq1 Taq2; have Ta := Ta_; clear Ta_; obtain ⟨Taq0, Taq1, Taq2⟩ := cy3 Ta.out; clear HE
        go_wp2
        first | go_ret | go_ret2
        exact ⟨_, by rw [HX.out]; rfl, HB.out⟩
      · have d1 : decide ((i : Int) < (l.length : Int)) = false := decide_eq_false (by omega)
        have d2 : decide (i < l.length) = false := decide_eq_false q
        clear q
        have HM := Am (fun W (hb : Below wr.heap.size wr W) => (⟨hb, pw_cell_below hb Taq0, pw_cell_below hb Taq1, pw_cell_below hb Taq2⟩ : Below wr.heap.size wr W ∧ W.cell? ⟨gTa, 0, none⟩ = some (.int .i64 a.f0) ∧ W.cell? ⟨gTa, 1, none⟩ = some (.int .i64 a.f1) ∧ W.cell? ⟨gTa, 2, none⟩ = some (.int .i64 a.f2)))
        go_wp2_with fail
        refine via_go HM [(0, 35), (1, 36), (2, 37), (3, 38), (4, 39), (5, 40), (6, 41), (7, 42), (8, 43), (9, 44), (10, 45), (11, 46), (12, 47), (13, 48), (14, 6), (15, 7)] (by as_aux_lemma => kernel_rfl) ?_ (fun hHeld => ?_)
        · (first | with_reducible exact HM.out _ (o1 (bJ _ _)) | with_reducible assumption | exact HM.out _ (bP (And.left (by assumption : Below wr.heap.size wr _ ∧ _)) (by assumption)))
        repeat (first
          | (refine via_take (v := ?_) rfl (by as_aux_lemma => kernel_rfl) (by as_aux_lemma => kernel_rfl) (by as_aux_lemma => kernel_rfl) (by as_aux_lemma => kernel_rfl) (fun _ _ _ h => h) (Or.inl ⟨by rfl, ?_⟩) (by assumption) ?_; rotate_left; (focus (intro w hSw; (try dsimp only at hSw); go_simp; (try with_reducible rfl); done)); (try simp only [Act.put, List.setIfInBounds_toArray, List.set_cons_zero, List.set_cons_succ]))
          | (refine via_take rfl (by as_aux_lemma => kernel_rfl) (by as_aux_lemma => kernel_rfl) (by as_aux_lemma => kernel_rfl) (by as_aux_lemma => kernel_rfl) (fun _ _ _ h => h) (Or.inr ⟨by rfl, rfl⟩) (by assumption) ?_; (try simp only [Act.put, List.setIfInBounds_toArray, List.set_cons_zero, List.set_cons_succ])))
        refine via_done (by as_aux_lemma => kernel_rfl) ?_
        have HE := Am (And.left (by assumption : Below wr.heap.size wr _ ∧ _))
        have HB_ := Am (bP HB.out HE.out); clear HB; have HB := HB_; clear HB_; have Ta_ := Am (bB Ta.out HE.out); clear Ta Taq0 Taq1 Taq2; have Ta := Ta_; clear Ta_; obtain ⟨Taq0, Taq1, Taq2⟩ := cy3 Ta.out; clear HE
        go_wp2
        first | go_ret | go_ret2
        exact ⟨_, by rw [HX.out]; rfl, HB.out⟩
end Go.Proofs.Ytpacdakadkblgaa.PFnClockDrop
