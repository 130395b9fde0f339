/- Proved here, without a condition beyond those that each theorem states: spec.ClockTick. Printed by ck.py, a program of this session. -/
import Derived.Test.YtpacdakadkblgaaPFnClockDropx4
import Derived.Test.YtpacdakadkblgaaPFnClockDropx5
import Derived.Test.YtpacdakadkblgaaCA
import Derived.Test.YtpacdakadkblgaaCI
import Derived.Test.YtpacdakadkblgaaCX
namespace Go.Proofs.Ytpacdakadkblgaa.PFnClockDrop
open Go.RowKit Go.Proofs.YtpacdakadkblgaaW.PrintWords Go.Proofs.YtpacdakadkblgaaW.PrintLast Go.Proofs.YtpacdakadkblgaaW.PrintMore
set_option linter.unusedVariables false
set_option linter.unusedSimpArgs false
attribute [local go_sem ↓] isSome_setCell_
def spec_ClockTick.l0 : Nat → Int → List S35 → List Int → Option (List S35 × List Int)
  | 0, _, _, _ => none
  | k + 1, lim, l, r => match l with
    | [] => some ([], r)
    | a :: t => if a.f1 ≤ lim then (if r.length < 1000000 ∧ t.length < 1000000 then (if 0 < a.f2 ∧ inB (wrap64 (a.f1 + a.f2)) 0 4095 = true then (spec_l19Add.f k t a.f0 (wrap64 (a.f1 + a.f2)) a.f2).bind fun l' => spec_ClockTick.l0 k lim l' (r ++ [a.f0]) else spec_ClockTick.l0 k lim t (r ++ [a.f0])) else none) else some (a :: t, r)
def spec_ClockTick.f (k : Nat) (a0_0 : Int) (l0_1 : List (S35)) (a1 : Int) : Option (Int × List S35 × List Int × Bool) :=
  (spec_ClockOk.f k a0_0 l0_1).bind fun ok => (if (ok && (inB a1 0 500 && inB (wrap64 (a0_0 + a1)) 0 4095)) = true then (if l0_1.length < 1000000 then (spec_ClockTick.l0 k (wrap64 (a0_0 + a1)) l0_1 []).bind fun p => some (wrap64 (a0_0 + a1), p.1, p.2, true) else none) else some (0, [], [], false))
theorem spec_ClockTick.mono_l : ∀ k lim l r, LeO (spec_ClockTick.l0 k lim l r) (spec_ClockTick.l0 (k + 1) lim l r)
  | 0, _, _, _ => LeO.none _
  | k + 1, lim, [], r => LeO.refl _
  | k + 1, lim, a :: t, r => by
    rw [spec_ClockTick.l0, spec_ClockTick.l0]
    exact LeO.ite (LeO.ite (LeO.ite (LeO.bind (spec_l19Add.mono _ _ _ _ _) (fun _ => spec_ClockTick.mono_l k _ _ _)) (spec_ClockTick.mono_l k _ _ _)) (LeO.none _)) (LeO.refl _)
theorem spec_ClockTick.mono : ∀ a0 a1 a2 k, LeO (spec_ClockTick.f k a0 a1 a2) (spec_ClockTick.f (k + 1) a0 a1 a2) := by
  intro a0 a1 a2 k
  unfold spec_ClockTick.f
  exact LeO.bind (spec_ClockOk.mono _ _ _) (fun _ => LeO.ite (LeO.ite (LeO.bind (spec_ClockTick.mono_l k _ _ _) (fun _ => LeO.refl _)) (LeO.none _)) (LeO.refl _))
set_option maxHeartbeats 4000000 in
set_option maxRecDepth 100000 in
theorem l6In_ (a lo hi : Int) (w : World) : Calls Try.prog 27 #[.int .i64 a, .int .i64 lo, .int .i64 hi] w fun e w' => e = .returned (.bool (inB a lo hi)) ∧ Below w.heap.size w w' := by
  have HB := Am (bJ w.heap.size w)
  by_cases h1 : lo ≤ a
  all_goals by_cases h2 : a ≤ hi
  all_goals
    go_enter Try.func27, Try.ntmps27
    go_wp2
    go_ret
    exact ⟨by simp [inB, *], HB.out⟩
set_option maxHeartbeats 4000000 in
set_option maxRecDepth 100000 in
theorem l19Time_ (a : Int) (w : World) : Calls Try.prog 28 #[.int .i64 a] w fun e w' => e = .returned (.bool (inB a 0 4095)) ∧ Below w.heap.size w w' := by
  have HB := Am (bJ w.heap.size w)
  go_enter Try.func28, Try.ntmps28
  go_wp2_with (first
      | (go_at_call 27; refine (l6In_ _ _ _ _).mono ?_; rintro e w_ ⟨rfl, hb⟩; have HB_ := Am (bP (by repeat (first | exact HB.out | apply oA | apply o1)) hb); clear HB hb ; have HB := HB_; clear HB_)
      | fail)
  go_ret
  exact ⟨rfl, HB.out⟩
set_option maxHeartbeats 4000000 in
set_option maxRecDepth 100000 in
theorem spec_ClockTick.calls (k : Nat) (a0_0 : Int) (A0_1 : Option Addr) (c0_1 : Nat) (l0_1 : List (S35)) (a1 : Int) (r1 : Int) (r2 : List (S35)) (r3 : List Int) (r4 : Bool) (w : World) (hr0_1 : Kd.C k35 w A0_1 l0_1.length l0_1) (hc0_1 : l0_1.length ≤ c0_1) (h : spec_ClockTick.f k a0_0 l0_1 a1 = some (r1, r2, r3, r4)) :
  Calls Try.prog 24 #[.agg #[.int .i64 a0_0, .slice A0_1 l0_1.length c0_1], .int .i64 a1] w fun e w' => ∃ v1_ v2_ : Value, e = .returned (.tuple #[.agg #[.int .i64 r1, v1_], v2_, .bool r4]) ∧ Kd.R k35 35 w' w.heap.size (fun _ => True) v1_ r2 ∧ Kd.R (Kd.int .i64) 3 w' w.heap.size (fun _ => True) v2_ r3 ∧ Below w.heap.size w w' := by
  have hu23 := Try.underlying23
  have hu25 := Try.underlying25
  have hu31 := Try.underlying31
  have hu35 := Try.underlying35
  
  obtain ⟨ok, hok, H⟩ := Option.bind_eq_some_iff.1 h
  have G := Am hr0_1
  have hlen := hr0_1.2.1
  have HL := Am hc0_1
  have HOK := Am hok
  clear h hr0_1 hc0_1 hok
  have HB := Am (bJ w.heap.size w)
  obtain ⟨lim, hlim⟩ : ∃ lim, wrap64 (a0_0 + a1) = lim := ⟨_, rfl⟩
  rw [hlim] at H
  obtain ⟨va, ea⟩ : ∃ b, (ok) = b := ⟨_, rfl⟩
  obtain ⟨vb, eb⟩ : ∃ b, (inB a1 0 500) = b := ⟨_, rfl⟩
  obtain ⟨vg, eg⟩ : ∃ b, (inB lim 0 4095) = b := ⟨_, rfl⟩
  have HV0 : ((!(ok)) || ((!(inB a1 0 500)) || (!(inB lim 0 4095)))) = ((!va) || ((!vb) || (!vg))) := by rw [ea, eb, eg]
  rcases (by decide : ∀ a b g : Bool, (a = false ∧ ((!a) || ((!b) || (!g))) = true) ∨ (a = true ∧ b = false ∧ ((!a) || ((!b) || (!g))) = true) ∨ (a = true ∧ b = true ∧ g = false ∧ ((!a) || ((!b) || (!g))) = true) ∨ (a = true ∧ b = true ∧ g = true ∧ ((!a) || ((!b) || (!g))) = false)) va vb vg with ⟨rfl, hv⟩ | ⟨rfl, rfl, hv⟩ | ⟨rfl, rfl, rfl, hv⟩ | ⟨rfl, rfl, rfl, hv⟩
  all_goals have HV := Am (HV0.trans hv); clear HV0 hv
  rotate_left 3
  · rw [ea, eb, eg, show (true && (true && true)) = true from rfl, if_pos rfl] at H
    rw [ea] at HOK
    by_cases hz0 : l0_1.length < 1000000
    rotate_left
    · rw [if_neg hz0] at H
      cases H
    rw [if_pos hz0] at H
    obtain ⟨p, hp, H⟩ := Option.bind_eq_some_iff.1 H
    have H2 := Option.some.inj H
    simp only [Prod.mk.injEq] at H2
    obtain ⟨rfl, rfl, rfl, rfl⟩ := H2
    have HP := Am hp
    have HZ0 := Am hz0
    clear H hp hz0
    have hlimE : IntKind.i64.wrap (a0_0 + a1) = lim := (wrapE_ _).trans hlim
    go_enter Try.func24, Try.ntmps24
    go_wp2_with (first
      | ((with_reducible refine gate_dst (N := 2) rfl ?_); refine box_event ?hg (N := 2) ?hd (cs := #[.int .i64 a0_0, .slice A0_1 l0_1.length c0_1]) (t := 25) ?hr ?_; (case hd => rfl); (case hg => rfl); (case hr => first | (go_simp; done) | (go_simp; rfl)); intro gBa hg w_ hbox hb; have Ba := Am hbox; have HB_ := Am (bP (by repeat (first | exact HB.out | apply oA | apply o1)) hb); clear HB hb ; have HB := HB_; clear HB_; clear hg hbox; have Baq0 := cz0 Ba.out; have Baq1 := cz1 Ba.out)
      | ((with_reducible refine gate_dst (N := 4) rfl ?_); refine box_event ?hg (N := 4) ?hd (cs := #[.int .i64 0, .slice none 0 0]) (t := 25) ?hr ?_; (case hd => rfl); (case hg => rfl); (case hr => first | (go_simp; done) | (go_simp; rfl)); intro gRa hg w_ hbox hb; have GERa := Am (show w.heap.size ≤ gRa from by rw [hg]; exact bZ HB.out); have NERaBa := Am (show gRa ≠ gBa from by have := blk_lt Ba.out; omega); have Ra := Am hbox; have HB_ := Am (bP (by repeat (first | exact HB.out | apply oA | apply o1)) hb); have Ba_ := Am (bB (by repeat (first | exact Ba.out | refine bA ?_ _ | refine blk_drew ?_)) hb); clear HB hb Ba; have HB := HB_; clear HB_; (try clear Baq0 Baq1); have Ba := Ba_; clear Ba_; have Baq0 := cz0 Ba.out; have Baq1 := cz1 Ba.out; clear hg hbox; have Raq0 := cz0 Ra.out; have Raq1 := cz1 Ra.out)
      | ((with_reducible refine gate_dst (N := 10) rfl ?_); refine Kd.R_lit (Kd.int .i64) (w0 := w) w.heap.size 3 ?hg (N := 10) ?hd (xs := ([] : List Int)) (inner := []) (ok := fun _ => True) (okp := fun _ => True) ?hr ?hp (fun _ hk => hk) trivial HB.out HB.out.size (by simp) ?_; (case hd => rfl); (case hg => rfl); (case hr => first | (go_simp; done) | (go_simp; rfl)); (case hp => exact Reps.none _ _); intro u0 w_ ho hb hg_ hnew_; have HU := Am ho; have HB1 := Am hb; have Ba1 := Am (blk_grown Ba.out hg_ (by simp)); have Ra1 := Am (blk_grown Ra.out hg_ (by simp)); clear HB Ba Ra Baq0 Baq1 Raq0 Raq1 hb ho hg_ hnew_; have HB := HB1; clear HB1; have Ba := Ba1; clear Ba1; have Baq0 := cz0 Ba.out; have Baq1 := cz1 Ba.out; have Ra := Ra1; clear Ra1; have Raq0 := cz0 Ra.out; have Raq1 := cz1 Ra.out)
      | (go_at_call 18; refine (spec_ClockOk.calls k a0_0 A0_1 c0_1 l0_1 _ _ (cB G.out HB.out) HL.out HOK.out).mono ?_; rintro e w_ ⟨rfl, hb⟩; have HU1 := Am (Kd.R_below HU.out hb); clear HU; have HU := HU1; clear HU1; have HB_ := Am (bP (by repeat (first | exact HB.out | apply oA | apply o1)) hb); have Ba_ := Am (bB (by repeat (first | exact Ba.out | refine bA ?_ _ | refine blk_drew ?_)) hb); have Ra_ := Am (bB (by repeat (first | exact Ra.out | refine bA ?_ _ | refine blk_drew ?_)) hb); clear HB hb Ba Ra; have HB := HB_; clear HB_; (try clear Baq0 Baq1); have Ba := Ba_; clear Ba_; have Baq0 := cz0 Ba.out; have Baq1 := cz1 Ba.out; (try clear Raq0 Raq1); have Ra := Ra_; clear Ra_; have Raq0 := cz0 Ra.out; have Raq1 := cz1 Ra.out)
      | (go_at_call 27; refine (l6In_ _ _ _ _).mono ?_; rintro e w_ ⟨rfl, hb⟩; have HU1 := Am (Kd.R_below HU.out hb); clear HU; have HU := HU1; clear HU1; rw [eb]; have HB_ := Am (bP (by repeat (first | exact HB.out | apply oA | apply o1)) hb); have Ba_ := Am (bB (by repeat (first | exact Ba.out | refine bA ?_ _ | refine blk_drew ?_)) hb); have Ra_ := Am (bB (by repeat (first | exact Ra.out | refine bA ?_ _ | refine blk_drew ?_)) hb); clear HB hb Ba Ra; have HB := HB_; clear HB_; (try clear Baq0 Baq1); have Ba := Ba_; clear Ba_; have Baq0 := cz0 Ba.out; have Baq1 := cz1 Ba.out; (try clear Raq0 Raq1); have Ra := Ra_; clear Ra_; have Raq0 := cz0 Ra.out; have Raq1 := cz1 Ra.out)
      | (go_at_call 28; refine (l19Time_ _ _).mono ?_; rintro e w_ ⟨rfl, hb⟩; have HU1 := Am (Kd.R_below HU.out hb); clear HU; have HU := HU1; clear HU1; rw [eg]; have HB_ := Am (bP (by repeat (first | exact HB.out | apply oA | apply o1)) hb); have Ba_ := Am (bB (by repeat (first | exact Ba.out | refine bA ?_ _ | refine blk_drew ?_)) hb); have Ra_ := Am (bB (by repeat (first | exact Ra.out | refine bA ?_ _ | refine blk_drew ?_)) hb); clear HB hb Ba Ra; have HB := HB_; clear HB_; (try clear Baq0 Baq1); have Ba := Ba_; clear Ba_; have Baq0 := cz0 Ba.out; have Baq1 := cz1 Ba.out; (try clear Raq0 Raq1); have Ra := Ra_; clear Ra_; have Raq0 := cz0 Ra.out; have Raq1 := cz1 Ra.out)
      | ((with_reducible refine gate_dst (N := 29) rfl ?_); refine Kd.R_lit k35 (w0 := w) w.heap.size 35 ?hg (N := 29) ?hd (xs := ([] : List S35)) (inner := []) (ok := fun k => True) (okp := fun _ => False) ?hr ?hp (fun _ hk => hk.elim) (trivial) HB.out HB.out.size (by simp) ?_; (case hd => rfl); (case hg => rfl); (case hr => first | (go_simp; done) | (go_simp; rfl)); (case hp => exact Reps.none _ _); intro v0 w_ ho hb hg_ hnew_; have HVv0 := Am ho; have HB1 := Am hb; have Ba1 := Am (blk_grown Ba.out hg_ (by simp)); have Ra1 := Am (blk_grown Ra.out hg_ (by simp)); have HU1 := Am (Kd.R_grown HU.out hg_ (fun _ _ => by simp)); clear HU; have HU := HU1; clear HU1; clear HB Ba Ra Baq0 Baq1 Raq0 Raq1 hb ho hg_ hnew_; have HB := HB1; clear HB1; have Ba := Ba1; clear Ba1; have Baq0 := cz0 Ba.out; have Baq1 := cz1 Ba.out; have Ra := Ra1; clear Ra1; have Raq0 := cz0 Ra.out; have Raq1 := cz1 Ra.out)
      | (at_builtin; refine Kd.R_append_rows k35 (w0 := w) w.heap.size rfl (.tmp 29) (.tmp 31) 23 35 (.agg #[(.int .i64 0), (.int .i64 0), (.int .i64 0)]) 24 rfl Try.underlying23 info35 rfl (by decide) (by omega) v0 [] l0_1 A0_1 l0_1.length c0_1 (fun k => True) (fun _ => False) rfl rfl ?aO ?aR (fun _ _ h => h) (fun _ h => h.elim) ?aF ?aB ?aS ?aL ?_; (case aO => exact HVv0.out); (case aR => exact cB G.out HB.out); (case aF => exact fun _ _ => trivial); (case aB => exact HB.out); (case aS => exact HB.out.size); (case aL => (have hl_ := HZ0.out; simp only [List.length_nil]; omega)); intro v1 w_ ho hb hg hat; have HW := Am ho; have HB1 := Am hb; have Ba1 := Am (blk_grown Ba.out hg (by first | exact Kd.R_ne HVv0.out Ba.out (by decide) | exact fun e => (HVv0.out.1 _ e.symm) rfl)); have Ra1 := Am (blk_grown Ra.out hg (by first | exact Kd.R_ne HVv0.out Ra.out (by decide) | exact fun e => (HVv0.out.1 _ e.symm) rfl)); have HU1 := Am (Kd.R_over' HU.out (Kd.R_typed HVv0.out) (by decide) hg); clear HU; have HU := HU1; clear HU1; clear HB HVv0 Ba Ra Baq0 Baq1 Raq0 Raq1 hb ho hg hat; have HB := HB1; clear HB1; have Ba := Ba1; clear Ba1; have Baq0 := cz0 Ba.out; have Baq1 := cz1 Ba.out; have Ra := Ra1; clear Ra1; have Raq0 := cz0 Ra.out; have Raq1 := cz1 Ra.out)
      | fail)
    go_loopg [7, 8] k (fun kq v7 v8 w' => ∃ (u v : Value) (l : List S35) (r : List Int), u = v7 ∧ v = v8 ∧ Aside0 (Kd.R k35 35 w' w.heap.size (fun _ => True) v l) ∧ Aside0 (Kd.R (Kd.int .i64) 3 w' w.heap.size (fun _ => True) u r) ∧ Aside0 (w'.heap[gBa]? = some (.cells #[.int .i64 a0_0, .slice A0_1 l0_1.length c0_1] 25 (0, 0))) ∧ Aside0 (w'.heap[gRa]? = some (.cells #[.int .i64 0, .slice none 0 0] 25 (0, 0))) ∧ Aside0 (Below w.heap.size w w') ∧ Aside0 (spec_ClockTick.l0 kq lim l r = some p))
    case atStart => exact ⟨u0, v1, l0_1, [], rfl, rfl, HW, HU, Ba, Ra, HB, HP⟩
    case round =>
      clear HW HU Ba Ra HB HP Baq0 Baq1 Raq0 Raq1
      obtain ⟨u, v, l, r, rfl, rfl, HV, HU, Ba, Ra, HB, HP⟩ := hrel
      have Baq0 := cz0 Ba.out; have Baq1 := cz1 Ba.out
      have Raq0 := cz0 Ra.out; have Raq1 := cz1 Ra.out
      obtain ⟨A, c, he⟩ := Kd.R_slice HV.out
      obtain ⟨n, hn⟩ : ∃ n, n = l.length := ⟨_, rfl⟩
      rw [← hn] at he
      subst he
      rcases gk with _ | gk
      · exact absurd HP.out (by simp [spec_ClockTick.l0])
      rcases l with _ | ⟨a, t⟩
      · obtain rfl : n = 0 := hn
        have hpe := Am (Option.some.inj HP.out)
        have HM := Am (fun W (hb : Below wr.heap.size wr W) => (⟨hb, pw_cell_below hb Baq0, pw_cell_below hb Baq1⟩ : Below wr.heap.size wr W ∧ W.cell? ⟨gBa, 0, none⟩ = some (.int .i64 a0_0) ∧ W.cell? ⟨gBa, 1, none⟩ = some (.slice A0_1 l0_1.length c0_1)))
        go_wp2_with fail
        refine via_go HM [(0, 33), (1, 34), (2, 35), (3, 36), (4, 37), (5, 38), (6, 39), (7, 40), (8, 41), (9, 42), (10, 43), (11, 44), (12, 45), (13, 46)] (by as_aux_lemma => kernel_rfl) ?_ (fun hHeld => ?_)
        · (first | with_reducible exact HM.out _ (o1 (bJ _ _)) | with_reducible assumption | exact HM.out _ (bP (And.left (by assumption : Below wr.heap.size wr _ ∧ _)) (by assumption)))
        repeat (first
          | (refine via_take (v := ?_) rfl (by as_aux_lemma => kernel_rfl) (by as_aux_lemma => kernel_rfl) (by as_aux_lemma => kernel_rfl) (by as_aux_lemma => kernel_rfl) (fun _ _ _ h => h) (Or.inl ⟨by rfl, ?_⟩) (by assumption) ?_; rotate_left; (focus (intro w hSw; (try dsimp only at hSw); go_simp; (try with_reducible rfl); done)); (try simp only [Act.put, List.setIfInBounds_toArray, List.set_cons_zero, List.set_cons_succ]))
          | (refine via_take rfl (by as_aux_lemma => kernel_rfl) (by as_aux_lemma => kernel_rfl) (by as_aux_lemma => kernel_rfl) (by as_aux_lemma => kernel_rfl) (fun _ _ _ h => h) (Or.inr ⟨by rfl, rfl⟩) (by assumption) ?_; (try simp only [Act.put, List.setIfInBounds_toArray, List.set_cons_zero, List.set_cons_succ])))
        refine via_done (by as_aux_lemma => kernel_rfl) ?_
        have HE := Am (And.left (by assumption : Below wr.heap.size wr _ ∧ _))
        have HV2 := Am (Kd.R_below HV.out HE.out)
        have HU2 := Am (Kd.R_below HU.out HE.out)
        have HB_ := Am (bP HB.out HE.out); clear HB; have HB := HB_; clear HB_; have Ba_ := Am (bB Ba.out HE.out); clear Ba Baq0 Baq1; have Ba := Ba_; clear Ba_; have Baq0 := cz0 Ba.out; have Baq1 := cz1 Ba.out; have Ra_ := Am (bB Ra.out HE.out); clear Ra Raq0 Raq1; have Ra := Ra_; clear Ra_; have Raq0 := cz0 Ra.out; have Raq1 := cz1 Ra.out; clear HE
        clear HV HU HM hHeld Baq0 Baq1 Raq0 Raq1
        generalize World.drew wr = wD at Ba Ra HB HV2 HU2 ⊢
        have Baq0 := cz0 Ba.out; have Baq1 := cz1 Ba.out
        have Raq0 := cz0 Ra.out; have Raq1 := cz1 Ra.out
        have Raz0 := blk_frozen Ra.out 0
        have Raz1 := blk_frozen Ra.out 1
        go_wp2_with fail
        have pR0 := blk_put (cs' := #[.int .i64 lim, .slice none 0 0]) Ra.out 0 (.int .i64 lim) rfl
        have pR1 := blk_put (cs' := #[.int .i64 lim, .slice A 0 c]) pR0 1 (.slice A 0 c) rfl
        refine bodyPost_ret (results_ctt rfl _ _ gRa 25 #[.int .i64 lim, .slice A 0 c] (0, 0) _ rfl pR1 Try.underlying25 rfl (by kernel_rfl)) rfl ?_
        rw [← hpe.out]
        exact ⟨_, _, rfl, Kd.R_set (Kd.R_set HV2.out Ra.out (by decide) 0 _) pR0 (by decide) 1 _, Kd.R_set (Kd.R_set HU2.out Ra.out (by decide) 0 _) pR0 (by decide) 1 _, (HB.out.setCell GERa.out _).setCell GERa.out _⟩
      obtain ⟨gM, o, rfl, hn', hnc, s0, s1, s2⟩ := head_cells (Kd.Q_of_R HV.out)
      have HN := Am (And.intro hn' hnc)
      have d1 : decide ((n : Int) > 0) = true := decide_eq_true (by omega)
      have d2 : decide ((0 : Int) < (n : Int)) = true := decide_eq_true (by omega)
      have d3 : decide (0 < n) = true := decide_eq_true (by omega)
      have d4 := eq_true (show (0 : Int) < (n : Int) by omega)
      have d5 := eq_true (show 0 < n by omega)
      have HP2 := HP.out
      rw [spec_ClockTick.l0] at HP2
      clear hn hn' hnc
      rcases bc (decide (a.f1 ≤ lim)) with eb2 | eb2
      · have hpe := Am (show (a :: t, r) = p by rw [if_neg (of_decide_eq_false eb2)] at HP2; exact Option.some.inj HP2)
        have HM := Am (fun W (hb : Below wr.heap.size wr W) => (⟨hb, pw_cell_below hb Baq0, pw_cell_below hb Baq1, pw_cell_below hb s0, pw_cell_below hb s1⟩ : Below wr.heap.size wr W ∧ W.cell? ⟨gBa, 0, none⟩ = some (.int .i64 a0_0) ∧ W.cell? ⟨gBa, 1, none⟩ = some (.slice A0_1 l0_1.length c0_1) ∧ W.cell? ⟨gM, o, none⟩ = some (.int .i64 a.f0) ∧ W.cell? ⟨gM, o + 1, none⟩ = some (.int .i64 a.f1)))
        go_wp2_with fail
        refine via_go HM [(0, 33), (1, 34), (2, 35), (3, 36), (4, 37), (5, 38), (6, 39), (7, 40), (8, 41), (9, 42), (10, 43), (11, 44), (12, 45), (13, 46)] (by as_aux_lemma => kernel_rfl) ?_ (fun hHeld => ?_)
        · (first | with_reducible exact HM.out _ (o1 (bJ _ _)) | with_reducible assumption | exact HM.out _ (bP (And.left (by assumption : Below wr.heap.size wr _ ∧ _)) (by assumption)))
        repeat (first
          | (refine via_take (v := ?_) rfl (by as_aux_lemma => kernel_rfl) (by as_aux_lemma => kernel_rfl) (by as_aux_lemma => kernel_rfl) (by as_aux_lemma => kernel_rfl) (fun _ _ _ h => h) (Or.inl ⟨by rfl, ?_⟩) (by assumption) ?_; rotate_left; (focus (intro w hSw; (try dsimp only at hSw); go_simp; (try with_reducible rfl); done)); (try simp only [Act.put, List.setIfInBounds_toArray, List.set_cons_zero, List.set_cons_succ]))
          | (refine via_take rfl (by as_aux_lemma => kernel_rfl) (by as_aux_lemma => kernel_rfl) (by as_aux_lemma => kernel_rfl) (by as_aux_lemma => kernel_rfl) (fun _ _ _ h => h) (Or.inr ⟨by rfl, rfl⟩) (by assumption) ?_; (try simp only [Act.put, List.setIfInBounds_toArray, List.set_cons_zero, List.set_cons_succ])))
        refine via_done (by as_aux_lemma => kernel_rfl) ?_
        have HE := Am (And.left (by assumption : Below wr.heap.size wr _ ∧ _))
        have HV2 := Am (Kd.R_below HV.out HE.out)
        have HU2 := Am (Kd.R_below HU.out HE.out)
        have HB_ := Am (bP HB.out HE.out); clear HB; have HB := HB_; clear HB_; have Ba_ := Am (bB Ba.out HE.out); clear Ba Baq0 Baq1; have Ba := Ba_; clear Ba_; have Baq0 := cz0 Ba.out; have Baq1 := cz1 Ba.out; have Ra_ := Am (bB Ra.out HE.out); clear Ra Raq0 Raq1; have Ra := Ra_; clear Ra_; have Raq0 := cz0 Ra.out; have Raq1 := cz1 Ra.out; clear HE
        clear HV HU HM hHeld Baq0 Baq1 Raq0 Raq1
        generalize World.drew wr = wD at Ba Ra HB HV2 HU2 ⊢
        have Baq0 := cz0 Ba.out; have Baq1 := cz1 Ba.out
        have Raq0 := cz0 Ra.out; have Raq1 := cz1 Ra.out
        have Raz0 := blk_frozen Ra.out 0
        have Raz1 := blk_frozen Ra.out 1
        go_wp2_with fail
        have pR0 := blk_put (cs' := #[.int .i64 lim, .slice none 0 0]) Ra.out 0 (.int .i64 lim) rfl
        have pR1 := blk_put (cs' := #[.int .i64 lim, .slice (some ⟨gM, o, none⟩) n c]) pR0 1 (.slice (some ⟨gM, o, none⟩) n c) rfl
        refine bodyPost_ret (results_ctt rfl _ _ gRa 25 #[.int .i64 lim, .slice (some ⟨gM, o, none⟩) n c] (0, 0) _ rfl pR1 Try.underlying25 rfl (by kernel_rfl)) rfl ?_
        rw [← hpe.out]
        exact ⟨_, _, rfl, Kd.R_set (Kd.R_set HV2.out Ra.out (by decide) 0 _) pR0 (by decide) 1 _, Kd.R_set (Kd.R_set HU2.out Ra.out (by decide) 0 _) pR0 (by decide) 1 _, (HB.out.setCell GERa.out _).setCell GERa.out _⟩
      · rw [if_pos (of_decide_eq_true eb2)] at HP2
        by_cases hz : r.length < 1000000 ∧ t.length < 1000000
        rotate_left
        · rw [if_neg hz] at HP2
          cases HP2
        rw [if_pos hz] at HP2
        have HZ := Am hz
        have HP3 := Am HP2
        clear HP2 HP hz
        have HM := Am (fun W (hb : Below wr.heap.size wr W) => (⟨hb, pw_cell_below hb Baq0, pw_cell_below hb Baq1, pw_cell_below hb s0, pw_cell_below hb s1⟩ : Below wr.heap.size wr W ∧ W.cell? ⟨gBa, 0, none⟩ = some (.int .i64 a0_0) ∧ W.cell? ⟨gBa, 1, none⟩ = some (.slice A0_1 l0_1.length c0_1) ∧ W.cell? ⟨gM, o, none⟩ = some (.int .i64 a.f0) ∧ W.cell? ⟨gM, o + 1, none⟩ = some (.int .i64 a.f1)))
        go_wp2_with fail
        refine via_go HM [(0, 33), (1, 34), (2, 35), (3, 36), (4, 37), (5, 38), (6, 39), (7, 40), (8, 41), (9, 42), (10, 43), (11, 44), (12, 45), (13, 46)] (by as_aux_lemma => kernel_rfl) ?_ (fun hHeld => ?_)
        · (first | with_reducible exact HM.out _ (o1 (bJ _ _)) | with_reducible assumption | exact HM.out _ (bP (And.left (by assumption : Below wr.heap.size wr _ ∧ _)) (by assumption)))
        repeat (first
          | (refine via_take (v := ?_) rfl (by as_aux_lemma => kernel_rfl) (by as_aux_lemma => kernel_rfl) (by as_aux_lemma => kernel_rfl) (by as_aux_lemma => kernel_rfl) (fun _ _ _ h => h) (Or.inl ⟨by rfl, ?_⟩) (by assumption) ?_; rotate_left; (focus (intro w hSw; (try dsimp only at hSw); go_simp; (try with_reducible rfl); done)); (try simp only [Act.put, List.setIfInBounds_toArray, List.set_cons_zero, List.set_cons_succ]))
          | (refine via_take rfl (by as_aux_lemma => kernel_rfl) (by as_aux_lemma => kernel_rfl) (by as_aux_lemma => kernel_rfl) (by as_aux_lemma => kernel_rfl) (fun _ _ _ h => h) (Or.inr ⟨by rfl, rfl⟩) (by assumption) ?_; (try simp only [Act.put, List.setIfInBounds_toArray, List.set_cons_zero, List.set_cons_succ])))
        refine via_done (by as_aux_lemma => kernel_rfl) ?_
        have HE := Am (And.left (by assumption : Below wr.heap.size wr _ ∧ _))
        have HV2 := Am (Kd.R_below HV.out HE.out)
        have HU2 := Am (Kd.R_below HU.out HE.out)
        have s0 := pw_cell_below HE.out s0
        have s1 := pw_cell_below HE.out s1
        have s2 := pw_cell_below HE.out s2
        have HB_ := Am (bP HB.out HE.out); clear HB; have HB := HB_; clear HB_; have Ba_ := Am (bB Ba.out HE.out); clear Ba Baq0 Baq1; have Ba := Ba_; clear Ba_; have Baq0 := cz0 Ba.out; have Baq1 := cz1 Ba.out; have Ra_ := Am (bB Ra.out HE.out); clear Ra Raq0 Raq1; have Ra := Ra_; clear Ra_; have Raq0 := cz0 Ra.out; have Raq1 := cz1 Ra.out; clear HE
        clear HV HU HM hHeld Baq0 Baq1 Raq0 Raq1
        generalize World.drew wr = wD at Ba Ra HB HV2 HU2 s0 s1 s2 ⊢
        have Baq0 := cz0 Ba.out; have Baq1 := cz1 Ba.out
        have Raq0 := cz0 Ra.out; have Raq1 := cz1 Ra.out
        go_upto_region 7 with (first
      | ((with_reducible refine gate_dst (N := 9) rfl ?_); refine box_event ?hg (N := 9) ?hd (cs := #[.int .i64 0, .int .i64 0, .int .i64 0]) (t := 35) ?hr ?_; (case hd => rfl); (case hg => rfl); (case hr => first | (go_simp; done) | (go_simp; rfl)); intro gEa hg w_ hbox hb; have GEEa := Am (show w.heap.size ≤ gEa from by rw [hg]; exact bZ HB.out); have NEEaBa := Am (show gEa ≠ gBa from by have := blk_lt Ba.out; omega); have NEEaRa := Am (show gEa ≠ gRa from by have := blk_lt Ra.out; omega); have HVe := Am (Kd.R_elderB HV2.out gEa (by rw [hg]; exact Nat.le_refl _)); have HV3 := Am (Kd.R_below HVe.out hb); have HU3 := Am (Kd.R_below HU2.out hb); have s0 := pw_cell_below hb s0; have s1 := pw_cell_below hb s1; have s2 := pw_cell_below hb s2; clear HV2 HU2 HVe; have Ea := Am hbox; have Eaz0 := blk_frozen hbox 0; have Eaz1 := blk_frozen hbox 1; have Eaz2 := blk_frozen hbox 2; have HB_ := Am (bP (by repeat (first | exact HB.out | apply oA | apply o1)) hb); have Ba_ := Am (bB (by repeat (first | exact Ba.out | refine bA ?_ _ | refine blk_drew ?_)) hb); have Ra_ := Am (bB (by repeat (first | exact Ra.out | refine bA ?_ _ | refine blk_drew ?_)) hb); clear HB hb Ba Ra; have HB := HB_; clear HB_; (try clear Baq0 Baq1); have Ba := Ba_; clear Ba_; have Baq0 := cz0 Ba.out; have Baq1 := cz1 Ba.out; (try clear Raq0 Raq1); have Ra := Ra_; clear Ra_; have Raq0 := cz0 Ra.out; have Raq1 := cz1 Ra.out; clear hg hbox; obtain ⟨Eaq0, Eaq1, Eaq2⟩ := cy3 Ea.out)
      | fail)
        have e0 := blk_put (cs' := #[.int .i64 a.f0, .int .i64 0, .int .i64 0]) Ea.out 0 (.int .i64 a.f0) rfl
        have e1 := blk_put (cs' := #[.int .i64 a.f0, .int .i64 a.f1, .int .i64 0]) e0 1 (.int .i64 a.f1) rfl
        have Ea1 := Am (blk_put (cs' := #[.int .i64 a.f0, .int .i64 a.f1, .int .i64 a.f2]) e1 2 (.int .i64 a.f2) rfl)
        have Ba1 := Am (blk_far (blk_far (blk_far Ba.out (p := ⟨gEa, 0, none⟩) (Ne.symm NEEaBa.out) (.int .i64 a.f0)) (p := ⟨gEa, 1, none⟩) (Ne.symm NEEaBa.out) (.int .i64 a.f1)) (p := ⟨gEa, 2, none⟩) (Ne.symm NEEaBa.out) (.int .i64 a.f2))
        have Ra1 := Am (blk_far (blk_far (blk_far Ra.out (p := ⟨gEa, 0, none⟩) (Ne.symm NEEaRa.out) (.int .i64 a.f0)) (p := ⟨gEa, 1, none⟩) (Ne.symm NEEaRa.out) (.int .i64 a.f1)) (p := ⟨gEa, 2, none⟩) (Ne.symm NEEaRa.out) (.int .i64 a.f2))
        have HV1 := Am (Kd.R_far (Kd.R_far (Kd.R_far HV3.out (p := ⟨gEa, 0, none⟩) (fun k hk => hk.2) (.int .i64 a.f0)) (p := ⟨gEa, 1, none⟩) (fun k hk => hk.2) (.int .i64 a.f1)) (p := ⟨gEa, 2, none⟩) (fun k hk => hk.2) (.int .i64 a.f2))
        have HU1 := Am (Kd.R_set (Kd.R_set (Kd.R_set HU3.out Ea.out (by decide) 0 (.int .i64 a.f0)) e0 (by decide) 1 (.int .i64 a.f1)) e1 (by decide) 2 (.int .i64 a.f2))
        have HB1 := Am (Below.setCell (Below.setCell (Below.setCell HB.out (p := ⟨gEa, 0, none⟩) GEEa.out (.int .i64 a.f0)) (p := ⟨gEa, 1, none⟩) GEEa.out (.int .i64 a.f1)) (p := ⟨gEa, 2, none⟩) GEEa.out (.int .i64 a.f2))
        clear e0 e1 Ea Ba Ra HV3 HU3 HB s0 s1 s2 Eaz0 Eaz1 Eaz2 Eaq0 Eaq1 Eaq2 Baq0 Baq1 Raq0 Raq1
        generalize World.setCell (World.setCell (World.setCell _ _ _) _ _) _ _ = WE at Ea1 Ba1 Ra1 HV1 HU1 HB1 ⊢
        have HB := HB1
        have HV := HV1
        have HU := HU1
        have Ea := Ea1
        have Ba := Ba1
        have Ra := Ra1
        clear HB1 HV1 HU1 Ea1 Ba1 Ra1
        have Baq0 := cz0 Ba.out; have Baq1 := cz1 Ba.out
        have Raq0 := cz0 Ra.out; have Raq1 := cz1 Ra.out
        obtain ⟨Eaq0, Eaq1, Eaq2⟩ := cy3 Ea.out
        obtain ⟨hn, hnc⟩ := HN.out
        have h1 : 1 ≤ n := by omega
        have h2 : (1 : Int) ≤ (n : Int) := by omega
        have h3 : (n : Int) ≤ (c : Int) := by omega
        clear hn
        go_upto_region 8 with (first
      | ((with_reducible refine gate_dst (N := 50) rfl ?_); refine Kd.R_lit k35 (w0 := w) w.heap.size 35 ?hg (N := 50) ?hd (xs := ([] : List S35)) (inner := []) (ok := fun k => k ≠ gEa) (okp := fun _ => False) ?hr ?hp (fun _ hk => hk.elim) (by have := blk_lt Ea.out; omega) HB.out HB.out.size (by simp) ?_; (case hd => rfl); (case hg => rfl); (case hr => first | (go_simp; done) | (go_simp; rfl)); (case hp => exact Reps.none _ _); intro v2 w_ ho hb hg_ hnew_; have HVv2 := Am ho; have HB1 := Am hb; have Ba1 := Am (blk_grown Ba.out hg_ (by simp)); have Ra1 := Am (blk_grown Ra.out hg_ (by simp)); have Ea1 := Am (blk_grown Ea.out hg_ (by simp)); have HU1 := Am (Kd.R_grown HU.out hg_ (fun _ _ => by simp)); clear HU; have HU := HU1; clear HU1; have HV1 := Am (Kd.R_grown HV.out hg_ (fun _ _ => by simp)); clear HV; have HV := HV1; clear HV1; clear HB Ba Ra Ea Baq0 Baq1 Raq0 Raq1 Eaq0 Eaq1 Eaq2 hb ho hg_ hnew_; have HB := HB1; clear HB1; have Ba := Ba1; clear Ba1; have Baq0 := cz0 Ba.out; have Baq1 := cz1 Ba.out; have Ra := Ra1; clear Ra1; have Raq0 := cz0 Ra.out; have Raq1 := cz1 Ra.out; have Ea := Ea1; clear Ea1; obtain ⟨Eaq0, Eaq1, Eaq2⟩ := cy3 Ea.out)
      | (at_builtin; refine Kd.R_append_rows k35 (w0 := w) w.heap.size rfl (.tmp 50) (.tmp 52) 23 35 (.agg #[(.int .i64 0), (.int .i64 0), (.int .i64 0)]) 24 rfl Try.underlying23 info35 rfl (by decide) (by omega) v2 [] t _ _ _ (fun k => k ≠ gEa) (fun _ => False) rfl rfl ?aO ?aR (fun _ _ h => h) (fun _ h => h.elim) ?aF ?aB ?aS ?aL ?_; (case aO => exact HVv2.out); (case aR => exact tail_C HV.out); (case aF => exact fun k hk => by have := blk_lt Ea.out; omega); (case aB => exact HB.out); (case aS => exact HB.out.size); (case aL => (have hl_ := And.intro HZ.out.2 HN.out.1; simp only [List.length_nil]; omega)); intro v4 w_ ho hb hg hat; have HW := Am ho; have HB1 := Am hb; have Ba1 := Am (blk_grown Ba.out hg (by first | exact Kd.R_ne HVv2.out Ba.out (by decide) | exact fun e => (HVv2.out.1 _ e.symm) rfl)); have Ra1 := Am (blk_grown Ra.out hg (by first | exact Kd.R_ne HVv2.out Ra.out (by decide) | exact fun e => (HVv2.out.1 _ e.symm) rfl)); have Ea1 := Am (blk_grown Ea.out hg (by first | exact Kd.R_ne HVv2.out Ea.out (by decide) | exact fun e => (HVv2.out.1 _ e.symm) rfl)); have HU1 := Am (Kd.R_over' HU.out (Kd.R_typed HVv2.out) (by decide) hg); clear HU; have HU := HU1; clear HU1; clear HB HVv2 Ba Ra Ea Baq0 Baq1 Raq0 Raq1 Eaq0 Eaq1 Eaq2 hb ho hg hat; have HB := HB1; clear HB1; have Ba := Ba1; clear Ba1; have Baq0 := cz0 Ba.out; have Baq1 := cz1 Ba.out; have Ra := Ra1; clear Ra1; have Raq0 := cz0 Ra.out; have Raq1 := cz1 Ra.out; have Ea := Ea1; clear Ea1; obtain ⟨Eaq0, Eaq1, Eaq2⟩ := cy3 Ea.out)
      | fail)
        clear HV h1 h2 h3 hnc
        generalize (if c = 1 then some (⟨gM, o, none⟩ : Addr) else some ⟨gM, o + 3, none⟩) = Ax
        obtain ⟨A4, c4, rfl⟩ : ∃ A4 c4, v4 = .slice A4 t.length c4 := Kd.R_slice HW.out
        go_upto_region 10 with (first
          | (at_builtin; go_loud (refine Kd.R_append (Kd.int .i64) (w0 := w) w.heap.size rfl (.tmp 54) (.tmp 57) 31 3 (.int .i64 0) 8 rfl Try.underlying31 info3 rfl (by decide) (by omega) u r a.f0 [.int .i64 a.f0] (fun _ => True) (fun _ => False) rfl rfl ?aP (fun _ hk => hk.elim) ?aF ?aO ?aB ?aS ?aL ?_); (case aP => exact rfl); (case aF => exact fun _ _ => trivial); (case aO => exact HU.out); (case aB => exact HB.out); (case aS => exact HB.out.size); (case aL => have := HZ.out.1; omega); intro u1 w_ ho hb hg hat; have HU3 := Am ho; have HB3 := Am hb; have Ba3 := Am (blk_grown Ba.out hg (Kd.R_ne HU.out Ba.out (by decide))); have Ea3 := Am (blk_grown Ea.out hg (Kd.R_ne HU.out Ea.out (by decide))); have Ra3 := Am (blk_grown Ra.out hg (Kd.R_ne HU.out Ra.out (by decide))); have HV3 := Am (Kd.R_over' HW.out (Kd.R_typed HU.out) (by decide) hg); clear HU HB Ba Ea Ra HW Baq0 Baq1 Raq0 Raq1 Eaq0 Eaq1 Eaq2 ho hb hg hat; have Eaq1 := cz1 Ea3.out; have Eaq2 := cz2 Ea3.out; have Eaz1 := blk_frozen Ea3.out 1)
          | fail)
        have Ea1 := Am (blk_put (cs' := #[.int .i64 a.f0, .int .i64 (wrap64 (a.f1 + a.f2)), .int .i64 a.f2]) Ea3.out 1 (.int .i64 (wrap64 (a.f1 + a.f2))) rfl)
        have Ba1 := Am (blk_far Ba3.out (p := ⟨gEa, 1, none⟩) (Ne.symm NEEaBa.out) (.int .i64 (wrap64 (a.f1 + a.f2))))
        have Ra1 := Am (blk_far Ra3.out (p := ⟨gEa, 1, none⟩) (Ne.symm NEEaRa.out) (.int .i64 (wrap64 (a.f1 + a.f2))))
        have HV1 := Am (Kd.R_mono (Kd.R_far HV3.out (p := ⟨gEa, 1, none⟩) (fun k hk => hk) (.int .i64 (wrap64 (a.f1 + a.f2)))) (fun _ _ => (trivial : True)))
        have HU1 := Am (Kd.R_set HU3.out Ea3.out (by decide) 1 (.int .i64 (wrap64 (a.f1 + a.f2))))
        have HB1 := Am (Below.setCell HB3.out (p := ⟨gEa, 1, none⟩) GEEa.out (.int .i64 (wrap64 (a.f1 + a.f2))))
        clear Ea3 Ba3 Ra3 HV3 HU3 HB3 Eaq1 Eaq2 Eaz1
        generalize World.setCell _ _ _ = WH at Ea1 Ba1 Ra1 HV1 HU1 HB1 ⊢
        have HB := HB1
        have HV := HV1
        have HU := HU1
        have Ea := Ea1
        have Ba := Ba1
        have Ra := Ra1
        clear HB1 HV1 HU1 Ea1 Ba1 Ra1
        have Baq0 := cz0 Ba.out; have Baq1 := cz1 Ba.out
        have Raq0 := cz0 Ra.out; have Raq1 := cz1 Ra.out
        obtain ⟨Eaq0, Eaq1, Eaq2⟩ := cy3 Ea.out
        by_cases h0 : 0 < a.f2
        · have p1 : decide (a.f2 > 0) = true := decide_eq_true h0
          have p2 := eq_true (show a.f2 > 0 from h0)
          rcases bc (inB (wrap64 (a.f1 + a.f2)) 0 4095) with et | et
          · have HP4 := Am (show spec_ClockTick.l0 gk lim t (r ++ [a.f0]) = some p by have z := HP3.out; rw [if_neg (by rw [et]; simp)] at z; exact z)
            clear HP3 h0
            go_wp2_with (first
      | (go_at_call 28; refine (l19Time_ _ _).mono ?_; rintro e w_ ⟨rfl, hb⟩; have HU1 := Am (Kd.R_below HU.out hb); have HV1 := Am (Kd.R_below HV.out hb); clear HU HV; have HU := HU1; have HV := HV1; clear HU1 HV1; rw [et]; have HB_ := Am (bP (by repeat (first | exact HB.out | apply oA | apply o1)) hb); have Ba_ := Am (bB (by repeat (first | exact Ba.out | refine bA ?_ _ | refine blk_drew ?_)) hb); have Ra_ := Am (bB (by repeat (first | exact Ra.out | refine bA ?_ _ | refine blk_drew ?_)) hb); have Ea_ := Am (bB (by repeat (first | exact Ea.out | refine bA ?_ _ | refine blk_drew ?_)) hb); clear HB hb Ba Ra Ea; have HB := HB_; clear HB_; (try clear Baq0 Baq1); have Ba := Ba_; clear Ba_; have Baq0 := cz0 Ba.out; have Baq1 := cz1 Ba.out; (try clear Raq0 Raq1); have Ra := Ra_; clear Ra_; have Raq0 := cz0 Ra.out; have Raq1 := cz1 Ra.out; (try clear Eaq0 Eaq1 Eaq2); have Ea := Ea_; clear Ea_; obtain ⟨Eaq0, Eaq1, Eaq2⟩ := cy3 Ea.out)
      | fail)
            go_roundg gk
            case measure => omega
            case rel => exact ⟨u1, _, t, _, rfl, rfl, HV, HU, Ba, Ra, HB, HP4⟩
          · have z := HP3.out
            rw [if_pos ⟨h0, et⟩] at z
            obtain ⟨l', hl1, hl2⟩ := Option.bind_eq_some_iff.1 z
            have HL1 := Am hl1
            have HP4 := Am hl2
            clear HP3 h0 z hl1 hl2
            go_wp2_with (first
      | (go_at_call 28; refine (l19Time_ _ _).mono ?_; rintro e w_ ⟨rfl, hb⟩; have HU1 := Am (Kd.R_below HU.out hb); have HV1 := Am (Kd.R_below HV.out hb); clear HU HV; have HU := HU1; have HV := HV1; clear HU1 HV1; rw [et]; have HB_ := Am (bP (by repeat (first | exact HB.out | apply oA | apply o1)) hb); have Ba_ := Am (bB (by repeat (first | exact Ba.out | refine bA ?_ _ | refine blk_drew ?_)) hb); have Ra_ := Am (bB (by repeat (first | exact Ra.out | refine bA ?_ _ | refine blk_drew ?_)) hb); have Ea_ := Am (bB (by repeat (first | exact Ea.out | refine bA ?_ _ | refine blk_drew ?_)) hb); clear HB hb Ba Ra Ea; have HB := HB_; clear HB_; (try clear Baq0 Baq1); have Ba := Ba_; clear Ba_; have Baq0 := cz0 Ba.out; have Baq1 := cz1 Ba.out; (try clear Raq0 Raq1); have Ra := Ra_; clear Ra_; have Raq0 := cz0 Ra.out; have Raq1 := cz1 Ra.out; (try clear Eaq0 Eaq1 Eaq2); have Ea := Ea_; clear Ea_; obtain ⟨Eaq0, Eaq1, Eaq2⟩ := cy3 Ea.out)
      | (go_at_call 32; refine (spec_l19Add.calls gk A4 c4 t a.f0 (wrap64 (a.f1 + a.f2)) a.f2 l' _ (Kd.R_reads' HV.out).2.2 (Kd.R_reads' HV.out).2.1 HL1.out).mono ?_; rintro e wp_ ⟨v5, rfl, hR, hb⟩; have HVn := Am (Kd.R_lower hR (base' := w.heap.size) HB.out.size); have HUn := Am (Kd.R_below HU.out hb); have Ban := Am (bB Ba.out hb); have Ran := Am (bB Ra.out hb); have HBn := Am (bP HB.out hb); clear hR hb HV HU Ba Ra Ea HB; refine Aside0.out ?_)
      | fail)
            refine Aside0.mk ?_
            go_wp2_with fail
            go_roundg gk
            case measure => omega
            case rel => exact ⟨u1, v5, l', _, rfl, rfl, HVn, HUn, Ban, Ran, HBn, HP4⟩
        · have p1 : decide (a.f2 > 0) = false := decide_eq_false h0
          have p2 := eq_false (show ¬ a.f2 > 0 from h0)
          have HP4 := Am (show spec_ClockTick.l0 gk lim t (r ++ [a.f0]) = some p by have z := HP3.out; rw [if_neg (fun h => h0 h.1)] at z; exact z)
          clear HP3 h0
          go_wp2_with fail
          go_roundg gk
          case measure => omega
          case rel => exact ⟨u1, _, t, _, rfl, rfl, HV, HU, Ba, Ra, HB, HP4⟩
  all_goals
    have H2 : ((0, [], [], false) : Int × List S35 × List Int × Bool) = (r1, r2, r3, r4) := by
      rw [if_neg (by simp [*])] at H
      exact Option.some.inj H
    simp only [Prod.mk.injEq] at H2
    obtain ⟨rfl, rfl, rfl, rfl⟩ := H2
    clear H
    rw [ea] at HOK
    go_enter Try.func24, Try.ntmps24
    go_wp2_with (first
      | ((with_reducible refine gate_dst (N := 2) rfl ?_); refine box_event ?hg (N := 2) ?hd (cs := #[.int .i64 a0_0, .slice A0_1 l0_1.length c0_1]) (t := 25) ?hr ?_; (case hd => rfl); (case hg => rfl); (case hr => first | (go_simp; done) | (go_simp; rfl)); intro gBa hg w_ hbox hb; have Ba := Am hbox; have HB_ := Am (bP (by repeat (first | exact HB.out | apply oA | apply o1)) hb); clear HB hb ; have HB := HB_; clear HB_; clear hg hbox; have Baq0 := cz0 Ba.out; have Baq1 := cz1 Ba.out)
      | ((with_reducible refine gate_dst (N := 4) rfl ?_); refine box_event ?hg (N := 4) ?hd (cs := #[.int .i64 0, .slice none 0 0]) (t := 25) ?hr ?_; (case hd => rfl); (case hg => rfl); (case hr => first | (go_simp; done) | (go_simp; rfl)); intro gRa hg w_ hbox hb; have GERa := Am (show w.heap.size ≤ gRa from by rw [hg]; exact bZ HB.out); have NERaBa := Am (show gRa ≠ gBa from by have := blk_lt Ba.out; omega); have Ra := Am hbox; have HB_ := Am (bP (by repeat (first | exact HB.out | apply oA | apply o1)) hb); have Ba_ := Am (bB (by repeat (first | exact Ba.out | refine bA ?_ _ | refine blk_drew ?_)) hb); clear HB hb Ba; have HB := HB_; clear HB_; (try clear Baq0 Baq1); have Ba := Ba_; clear Ba_; have Baq0 := cz0 Ba.out; have Baq1 := cz1 Ba.out; clear hg hbox; have Raq0 := cz0 Ra.out; have Raq1 := cz1 Ra.out)
      | ((with_reducible refine gate_dst (N := 10) rfl ?_); refine Kd.R_lit (Kd.int .i64) (w0 := w) w.heap.size 3 ?hg (N := 10) ?hd (xs := ([] : List Int)) (inner := []) (ok := fun _ => True) (okp := fun _ => True) ?hr ?hp (fun _ hk => hk) trivial HB.out HB.out.size (by simp) ?_; (case hd => rfl); (case hg => rfl); (case hr => first | (go_simp; done) | (go_simp; rfl)); (case hp => exact Reps.none _ _); intro u0 w_ ho hb hg_ hnew_; have HU := Am ho; have HB1 := Am hb; have Ba1 := Am (blk_grown Ba.out hg_ (by simp)); have Ra1 := Am (blk_grown Ra.out hg_ (by simp)); clear HB Ba Ra Baq0 Baq1 Raq0 Raq1 hb ho hg_ hnew_; have HB := HB1; clear HB1; have Ba := Ba1; clear Ba1; have Baq0 := cz0 Ba.out; have Baq1 := cz1 Ba.out; have Ra := Ra1; clear Ra1; have Raq0 := cz0 Ra.out; have Raq1 := cz1 Ra.out)
      | (go_at_call 18; refine (spec_ClockOk.calls k a0_0 A0_1 c0_1 l0_1 _ _ (cB G.out HB.out) HL.out HOK.out).mono ?_; rintro e w_ ⟨rfl, hb⟩; have HU1 := Am (Kd.R_below HU.out hb); clear HU; have HU := HU1; clear HU1; have HB_ := Am (bP (by repeat (first | exact HB.out | apply oA | apply o1)) hb); have Ba_ := Am (bB (by repeat (first | exact Ba.out | refine bA ?_ _ | refine blk_drew ?_)) hb); have Ra_ := Am (bB (by repeat (first | exact Ra.out | refine bA ?_ _ | refine blk_drew ?_)) hb); clear HB hb Ba Ra; have HB := HB_; clear HB_; (try clear Baq0 Baq1); have Ba := Ba_; clear Ba_; have Baq0 := cz0 Ba.out; have Baq1 := cz1 Ba.out; (try clear Raq0 Raq1); have Ra := Ra_; clear Ra_; have Raq0 := cz0 Ra.out; have Raq1 := cz1 Ra.out; have Raz0 := blk_frozen Ra.out 0; have Raz1 := blk_frozen Ra.out 1)
      | (go_at_call 27; refine (l6In_ _ _ _ _).mono ?_; rintro e w_ ⟨rfl, hb⟩; have HU1 := Am (Kd.R_below HU.out hb); clear HU; have HU := HU1; clear HU1; (try clear Raz0 Raz1); (try rw [eb]); have HB_ := Am (bP (by repeat (first | exact HB.out | apply oA | apply o1)) hb); have Ba_ := Am (bB (by repeat (first | exact Ba.out | refine bA ?_ _ | refine blk_drew ?_)) hb); have Ra_ := Am (bB (by repeat (first | exact Ra.out | refine bA ?_ _ | refine blk_drew ?_)) hb); clear HB hb Ba Ra; have HB := HB_; clear HB_; (try clear Baq0 Baq1); have Ba := Ba_; clear Ba_; have Baq0 := cz0 Ba.out; have Baq1 := cz1 Ba.out; (try clear Raq0 Raq1); have Ra := Ra_; clear Ra_; have Raq0 := cz0 Ra.out; have Raq1 := cz1 Ra.out; have Raz0 := blk_frozen Ra.out 0; have Raz1 := blk_frozen Ra.out 1)
      | (go_at_call 28; refine (l19Time_ _ _).mono ?_; rintro e w_ ⟨rfl, hb⟩; have HU1 := Am (Kd.R_below HU.out hb); clear HU; have HU := HU1; clear HU1; (try clear Raz0 Raz1); (try rw [eg]); have HB_ := Am (bP (by repeat (first | exact HB.out | apply oA | apply o1)) hb); have Ba_ := Am (bB (by repeat (first | exact Ba.out | refine bA ?_ _ | refine blk_drew ?_)) hb); have Ra_ := Am (bB (by repeat (first | exact Ra.out | refine bA ?_ _ | refine blk_drew ?_)) hb); clear HB hb Ba Ra; have HB := HB_; clear HB_; (try clear Baq0 Baq1); have Ba := Ba_; clear Ba_; have Baq0 := cz0 Ba.out; have Baq1 := cz1 Ba.out; (try clear Raq0 Raq1); have Ra := Ra_; clear Ra_; have Raq0 := cz0 Ra.out; have Raq1 := cz1 Ra.out; have Raz0 := blk_frozen Ra.out 0; have Raz1 := blk_frozen Ra.out 1)
      | fail)
    refine bodyPost_ret (results_ctt rfl _ _ gRa 25 #[.int .i64 0, .slice none 0 0] (0, 0) _ rfl (blk_put (cs := #[.int .i64 0, .slice none 0 0]) (blk_put (cs := #[.int .i64 0, .slice none 0 0]) Ra.out 0 _ rfl) 1 _ rfl) Try.underlying25 rfl (by kernel_rfl)) rfl ?_
    exact ⟨_, _, rfl, Kd.R_nil _ _ _ _ _, Kd.R_set (Kd.R_set HU.out Ra.out (by decide) 0 _) (blk_put (cs' := #[.int .i64 0, .slice none 0 0]) Ra.out 0 (.int .i64 0) rfl) (by decide) 1 _, (HB.out.setCell GERa.out _).setCell GERa.out _⟩
end Go.Proofs.Ytpacdakadkblgaa.PFnClockDrop
