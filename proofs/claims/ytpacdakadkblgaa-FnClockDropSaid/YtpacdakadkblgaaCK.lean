/- Proved here, without a condition beyond those that each theorem states: impl.ClockOk and impl.byTime. Printed by ck.py, a program of this session. -/
import Derived.Test.YtpacdakadkblgaaCA
namespace Go.Proofs.Ytpacdakadkblgaa.PFnClockDrop
open Go.RowKit Go.Proofs.YtpacdakadkblgaaW.PrintWords Go.Proofs.YtpacdakadkblgaaW.PrintLast Go.Proofs.YtpacdakadkblgaaW.PrintMore
set_option linter.unusedVariables false
set_option linter.unusedSimpArgs false
attribute [local go_sem ↓] isSome_setCell_
set_option maxHeartbeats 4000000 in
set_option maxRecDepth 100000 in
theorem byTime_ (a b : S35) (w : World) : Calls Try.prog 21 #[.agg #[.int .i64 a.f0, .int .i64 a.f1, .int .i64 a.f2], .agg #[.int .i64 b.f0, .int .i64 b.f1, .int .i64 b.f2]] w fun e w' => e = .returned (.int .i64 (byT a b)) ∧ Below w.heap.size w w' := by
  have hu35 := Try.underlying35
  have HB := Am (bJ w.heap.size w)
  by_cases h1 : a.f1 = b.f1
  all_goals
    go_enter Try.func21, Try.ntmps21
    go_wp2_with (first
      | ((with_reducible refine gate_dst (N := 2) rfl ?_); refine box_event ?hg (N := 2) ?hd (cs := #[.int .i64 a.f0, .int .i64 a.f1, .int .i64 a.f2]) (t := 35) ?hr ?_; (case hd => rfl); (case hg => rfl); (case hr => first | (go_simp; done) | (go_simp; rfl)); intro gCa hg w_ hbox hb; have Ca := Am hbox; have HB_ := Am (bP (by repeat (first | exact HB.out | apply oA | apply o1)) hb); clear HB hb ; have HB := HB_; clear HB_; clear hg hbox; obtain ⟨Caq0, Caq1, Caq2⟩ := cy3 Ca.out)
      | ((with_reducible refine gate_dst (N := 3) rfl ?_); refine box_event ?hg (N := 3) ?hd (cs := #[.int .i64 b.f0, .int .i64 b.f1, .int .i64 b.f2]) (t := 35) ?hr ?_; (case hd => rfl); (case hg => rfl); (case hr => first | (go_simp; done) | (go_simp; rfl)); intro gDa hg w_ hbox hb; have Da := Am hbox; have HB_ := Am (bP (by repeat (first | exact HB.out | apply oA | apply o1)) hb); have Ca_ := Am (bB (by repeat (first | exact Ca.out | refine bA ?_ _ | refine blk_drew ?_)) hb); clear HB hb Ca; have HB := HB_; clear HB_; (try clear Caq0 Caq1 Caq2); have Ca := Ca_; clear Ca_; obtain ⟨Caq0, Caq1, Caq2⟩ := cy3 Ca.out; clear hg hbox; obtain ⟨Daq0, Daq1, Daq2⟩ := cy3 Da.out)
      | fail)
    go_ret
    exact ⟨by simp [byT, h1, wrap64], HB.out⟩
/-- Whether the number x stands among the first i alarms. -/
def clkSeen (l : List S35) (x : Int) : Nat → Bool
  | 0 => false
  | i + 1 => clkSeen l x i || decide ((aT l i).f0 = x)

def clkBad (now : Int) (l : List S35) (x : Nat) : Bool := ((!(inB (aT l x).f0 0 99)) || ((clkSeen l (aT l x).f0 x) || ((!(inB (aT l x).f1 (wrap64 (now + 1)) 4095)) || ((!(inB (aT l x).f2 0 99)) || ((decide (0 < x)) && (decide (byT (aT l (x - 1)) (aT l x) ≥ 0)))))))
def clkRows (now : Int) (l : List S35) : Nat → Nat → Bool
  | 0, _ => true
  | d + 1, i => !clkBad now l i && clkRows now l d (i + 1)
def clkOk (now : Int) (l : List S35) : Bool := clkRows now l l.length 0 && (inB now 0 4095 && decide ((l.length : Int) ≤ 12))
/-- The map that is made along the way. -/
def SeenI (l : List S35) (x : Nat) (o : Obj) : Prop := ∃ g, MapO Try.prog 3 (.bool false) g o ∧ ∀ s : Int, g (.int .i64 s) = .bool (clkSeen l s x)
theorem seen_look {W : World} {b : Nat} {ob : Obj} {l : List S35} {x : Nat} {s : Int} (hb : W.heap[b]? = some ob) (hm : SeenI l x ob) (h1 : I64 s) : (Instr.lookup 48 (.map (some b)) (.int .i64 s) false).run Try.prog W = .ok (.bool (clkSeen l s x)) W := by
  obtain ⟨g, h, hv⟩ := hm
  rw [← hv s]
  exact mo_look keyed3 Try.underlying48 zero4 hb h (key3 h1)
theorem seen_put {l : List S35} {x : Nat} {o1 : Obj} {g g' : Value → Value} (hv : ∀ s : Int, g (.int .i64 s) = .bool (clkSeen l s x)) (hg : SetAt g (.int .i64 (aT l x).f0) (.bool true) g') (hm : MapO Try.prog 3 (.bool false) g' o1) : SeenI l (x + 1) o1 := by
  refine ⟨g', hm, fun s => ?_⟩
  show _ = Value.bool (clkSeen l s x || decide ((aT l x).f0 = s))
  by_cases h : (aT l x).f0 = s
  · rw [← h, hg.1]; simp
  · rw [hg.2 _ (by intro e; simp at e; exact h e.symm), hv s, decide_eq_false h, Bool.or_false]
def impl_ClockOk.f (a0_0 : Int) (l0_1 : List (S35)) : Option Bool := some (clkOk a0_0 l0_1)
set_option maxHeartbeats 4000000 in
set_option maxRecDepth 100000 in
theorem impl_ClockOk.calls (a0_0 : Int) (A0_1 : Option Addr) (c0_1 : Nat) (l0_1 : List (S35)) (r : Bool) (w : World) (hr0_1 : Kd.C k35 w A0_1 l0_1.length l0_1) (hc0_1 : l0_1.length ≤ c0_1) (h : impl_ClockOk.f a0_0 l0_1 = some r) :
  Calls Try.prog 10 #[.agg #[.int .i64 a0_0, .slice A0_1 l0_1.length c0_1]] w fun e w' => e = .returned (.bool r) ∧ Below w.heap.size w w' := by
  have hu23 := Try.underlying23
  have hu25 := Try.underlying25
  have hu35 := Try.underlying35
  have hu48 := Try.underlying48
  obtain rfl := Option.some.inj h
  have G := Am hr0_1
  have hlen := hr0_1.2.1
  clear h hr0_1 hc0_1
  have HB := Am (bJ w.heap.size w)
  go_enter Try.func10, Try.ntmps10
  go_wp2_with (first
      | ((with_reducible refine gate_dst (N := 1) rfl ?_); refine box_event ?hg (N := 1) ?hd (cs := #[.int .i64 a0_0, .slice A0_1 l0_1.length c0_1]) (t := 25) ?hr ?_; (case hd => rfl); (case hg => rfl); (case hr => first | (go_simp; done) | (go_simp; rfl)); intro gBa hg w_ hbox hb; have Ba := Am hbox; have HB_ := Am (bP (by repeat (first | exact HB.out | apply oA | apply o1)) hb); clear HB hb ; have HB := HB_; clear HB_; clear hg hbox; have Baq0 := cz0 Ba.out; have Baq1 := cz1 Ba.out)
      | ((with_reducible refine gate_dst (N := 6) rfl ?_); refine map_event rfl (N := 6) rfl _ rfl ?_; intro gSa hg w_ hbox hb; have GESa := Am (show w.heap.size ≤ gSa from by rw [hg]; exact bZ (by repeat (first | exact HB.out | apply oA | apply o1))); have NESaBa := Am (show gSa ≠ gBa from by have := blk_lt Ba.out; omega); obtain ⟨oSa, hoSa⟩ : ∃ o : Obj, o = .map #[] 0 := ⟨_, rfl⟩; rw [← hoSa] at hbox; have Sa := Am hbox; have HB_ := Am (bP (by repeat (first | exact HB.out | apply oA | apply o1)) hb); have Ba_ := Am (bB (by repeat (first | exact Ba.out | refine bA ?_ _ | refine blk_drew ?_)) hb); clear HB hb Ba; have HB := HB_; clear HB_; (try clear Baq0 Baq1); have Ba := Ba_; clear Ba_; have Baq0 := cz0 Ba.out; have Baq1 := cz1 Ba.out; clear hg hbox)
      | fail)
  have HMp := Am (show SeenI l0_1 0 oSa from ⟨_, by rw [hoSa]; exact mo_made _ _ _, fun _ => rfl⟩)
  clear hoSa
  go_loopg [10] (l0_1.length + 1) (fun kq v10 w' => ∃ (x : Nat) (oSa : Obj), v10 = .int .i64 (x : Int) ∧ Aside0 (x ≤ l0_1.length) ∧ Aside0 (l0_1.length - x ≤ kq) ∧ Aside0 (Below w.heap.size w w') ∧ Aside0 (w'.heap[gBa]? = some (.cells #[.int .i64 a0_0, .slice A0_1 l0_1.length c0_1] 25 (0, 0))) ∧ Aside0 (w'.heap[gSa]? = some oSa) ∧ Aside0 (clkRows a0_0 l0_1 l0_1.length 0 = clkRows a0_0 l0_1 (l0_1.length - x) x) ∧ Aside0 (SeenI l0_1 x oSa))
  case atStart => exact ⟨0, _, rfl, ⟨by omega⟩, ⟨by omega⟩, HB, Ba, Sa, ⟨rfl⟩, HMp⟩
  case round =>
    clear HB HMp Ba Sa Baq0 Baq1
    obtain ⟨x, oSa, rfl, H1, H2, HB, Ba, Sa, HA, HMp⟩ := hrel
    have Baq0 := cz0 Ba.out; have Baq1 := cz1 Ba.out
    by_cases hlt : x < l0_1.length
    · obtain ⟨ad, rfl, R⟩ := atA G.out (by omega)
      obtain ⟨s0, s1, s2⟩ := R x hlt _ HB.out
      have R := Am R
      have hd1 : decide ((x : Int) < (l0_1.length : Int)) = true := decide_eq_true (by omega)
      have hd2 : decide (x < l0_1.length) = true := decide_eq_true hlt
      have p1 := eq_true (show (0 : Int) ≤ (x : Int) by omega)
      have p2 := eq_true (show (x : Int) < (l0_1.length : Int) by omega)
      have p3 : (x : Int) < (l0_1.length : Int) := by omega
      have p4 := hlt
      have H3 := Am hlt
      clear hlt
      go_wp2_with (first
      | ((with_reducible refine gate_dst (N := 5) rfl ?_); refine box_event ?hg (N := 5) ?hd (cs := #[.int .i64 0, .int .i64 0, .int .i64 0]) (t := 35) ?hr ?_; (case hd => rfl); (case hg => rfl); (case hr => first | (go_simp; done) | (go_simp; rfl)); intro gEa hg w_ hbox hb; have Ea := Am hbox; have HWEa := Am hb; have GEEa := Am (show wr.heap.size ≤ gEa by rw [hg]; exact Nat.le_refl _); have NEEaSa := Am (show gEa ≠ gSa from by have := blk_lt Sa.out; omega); have s0 := pw_cell_below hb s0; have s1 := pw_cell_below hb s1; have s2 := pw_cell_below hb s2; clear hg hbox hb; obtain ⟨Eaq0, Eaq1, Eaq2⟩ := cy3 Ea.out; have Eaz := blk_frozen Ea.out)
      | ((with_reducible refine gate_store (t := 35) (p := 5) rfl ?_); refine store_event (t := 35) (p := 5) (w1 := ?_) rfl rfl rfl ?_ ?_; rotate_left; (focus (first | (go_simp; done) | (go_simp; rfl))); intro WF hGW; have HN := Am (show Below wr.heap.size wr WF from by rw [hGW]; repeat (first | with_reducible exact HWEa.out | with_reducible refine below_set ?_ GEEa.out)); have EB := Am (show WF.heap[gEa]? = some (.cells #[.int .i64 (aT l0_1 x).f0, .int .i64 (aT l0_1 x).f1, .int .i64 (aT l0_1 x).f2] 35 (0, 0)) from by rw [hGW]; refine blk_put (cs := #[.int .i64 (aT l0_1 x).f0, .int .i64 (aT l0_1 x).f1, .int .i64 0]) ?_ 2 _ rfl; refine blk_put (cs := #[.int .i64 (aT l0_1 x).f0, .int .i64 0, .int .i64 0]) ?_ 1 _ rfl; refine blk_put (cs := #[.int .i64 0, .int .i64 0, .int .i64 0]) ?_ 0 _ rfl; exact Ea.out); clear Ea HWEa hGW Eaq0 Eaq1 Eaq2 Eaz; have Ea := EB; clear EB; obtain ⟨Eaq0, Eaq1, Eaq2⟩ := cy3 Ea.out; have HB_ := Am (bP HB.out HN.out); clear HB; have HB := HB_; clear HB_; have Ba_ := Am (bB Ba.out HN.out); clear Ba Baq0 Baq1; have Ba := Ba_; clear Ba_; have Baq0 := cz0 Ba.out; have Baq1 := cz1 Ba.out; have Sa_ := Am (bB Sa.out HN.out); clear Sa ; have Sa := Sa_; clear Sa_; skip)
      | fail)
      obtain ⟨j0, j1, j2⟩ := R.out (x - 1) (by have := H3.out; omega) _ HB.out
      have hI : I64 (aT l0_1 x).f0 ∨ inB (aT l0_1 x).f0 0 99 = false := by
        rcases bc (inB (aT l0_1 x).f0 0 99) with e | e
        · exact Or.inr e
        · have := inB_iff.1 e; exact Or.inl (i64_ (by omega) (by omega))
      obtain ⟨va, ea⟩ : ∃ b, (inB (aT l0_1 x).f0 0 99) = b := ⟨_, rfl⟩
      obtain ⟨vb, eb⟩ : ∃ b, (inB (aT l0_1 x).f1 (wrap64 (a0_0 + 1)) 4095) = b := ⟨_, rfl⟩
      obtain ⟨vc, ec⟩ : ∃ b, (inB (aT l0_1 x).f2 0 99) = b := ⟨_, rfl⟩
      obtain ⟨vd, ed⟩ : ∃ b, (decide (0 < x)) = b := ⟨_, rfl⟩
      obtain ⟨vm, em⟩ : ∃ b, (decide (byT (aT l0_1 (x - 1)) (aT l0_1 x) ≥ 0)) = b := ⟨_, rfl⟩
      obtain ⟨vs, es⟩ : ∃ b, (clkSeen l0_1 (aT l0_1 x).f0 x) = b := ⟨_, rfl⟩
      have HV0 : ((!(inB (aT l0_1 x).f0 0 99)) || ((clkSeen l0_1 (aT l0_1 x).f0 x) || ((!(inB (aT l0_1 x).f1 (wrap64 (a0_0 + 1)) 4095)) || ((!(inB (aT l0_1 x).f2 0 99)) || ((decide (0 < x)) && (decide (byT (aT l0_1 (x - 1)) (aT l0_1 x) ≥ 0))))))) = ((!va) || (vs || ((!vb) || ((!vc) || (vd && vm))))) := by rw [ea, eb, ec, ed, em, es]
      rcases (by intro a b c d m s; cases a; exact Or.inl ⟨rfl, rfl⟩; cases s; cases b; exact Or.inr (Or.inl ⟨rfl, rfl, rfl, rfl⟩); cases c; exact Or.inr (Or.inr (Or.inl ⟨rfl, rfl, rfl, rfl, rfl⟩)); cases d; exact Or.inr (Or.inr (Or.inr (Or.inl ⟨rfl, rfl, rfl, rfl, rfl, rfl⟩))); cases m; exact Or.inr (Or.inr (Or.inr (Or.inr (Or.inl ⟨rfl, rfl, rfl, rfl, rfl, rfl, rfl⟩)))); exact Or.inr (Or.inr (Or.inr (Or.inr (Or.inr (Or.inl ⟨rfl, rfl, rfl, rfl, rfl, rfl, rfl⟩))))); exact Or.inr (Or.inr (Or.inr (Or.inr (Or.inr (Or.inr (⟨rfl, rfl, rfl⟩)))))) : ∀ a b c d m s : Bool, (a = false ∧ ((!a) || (s || ((!b) || ((!c) || (d && m))))) = true) ∨ (a = true ∧ b = false ∧ s = false ∧ ((!a) || (s || ((!b) || ((!c) || (d && m))))) = true) ∨ (a = true ∧ b = true ∧ c = false ∧ s = false ∧ ((!a) || (s || ((!b) || ((!c) || (d && m))))) = true) ∨ (a = true ∧ b = true ∧ c = true ∧ d = false ∧ s = false ∧ ((!a) || (s || ((!b) || ((!c) || (d && m))))) = false) ∨ (a = true ∧ b = true ∧ c = true ∧ d = true ∧ m = false ∧ s = false ∧ ((!a) || (s || ((!b) || ((!c) || (d && m))))) = false) ∨ (a = true ∧ b = true ∧ c = true ∧ d = true ∧ m = true ∧ s = false ∧ ((!a) || (s || ((!b) || ((!c) || (d && m))))) = true) ∨ (a = true ∧ s = true ∧ ((!a) || (s || ((!b) || ((!c) || (d && m))))) = true)) va vb vc vd vm vs with ⟨rfl, hv⟩ | ⟨rfl, rfl, rfl, hv⟩ | ⟨rfl, rfl, rfl, rfl, hv⟩ | ⟨rfl, rfl, rfl, rfl, rfl, hv⟩ | ⟨rfl, rfl, rfl, rfl, rfl, rfl, hv⟩ | ⟨rfl, rfl, rfl, rfl, rfl, rfl, hv⟩ | ⟨rfl, rfl, hv⟩
      all_goals have HV := Am (HV0.trans hv); clear HV0 hv
      all_goals
        have HE_ := Am (show clkBad a0_0 l0_1 x = _ from HV.out)
        clear HV
        try
          have hp : 0 < x := of_decide_eq_true ed
          have hm : IntKind.i64.wrap ((x : Int) - 1) = ((x - 1 : Nat) : Int) := wr64 (by omega) (by omega) (by omega)
          have pm : x - 1 < l0_1.length := by omega
          have pm2 := eq_true (show (0 : Int) ≤ ((x - 1 : Nat) : Int) by omega)
          have pm3 := eq_true (show ((x - 1 : Nat) : Int) < (l0_1.length : Int) by omega)
        try have hl : ∀ W : World, W.heap[gSa]? = some oSa → (Instr.lookup 48 (.map (some gSa)) (.int .i64 (aT l0_1 x).f0) false).run Try.prog W = .ok (.bool (clkSeen l0_1 (aT l0_1 x).f0 x)) W := fun W h => seen_look h HMp.out (hI.resolve_right (by rw [ea]; decide))
        have hw := wrapE_ (a0_0 + 1)
        clear hI
        have HM := Am (fun W (hb : Below WF.heap.size WF W) => (⟨hb, pw_cell_below hb Eaq0, pw_cell_below hb Eaq1, pw_cell_below hb Eaq2, pw_cell_below hb Baq0, pw_cell_below hb Baq1, pw_cell_below hb j0, pw_cell_below hb j1, pw_cell_below hb j2, bB Sa.out hb⟩ : Below WF.heap.size WF W ∧ W.cell? ⟨gEa, 0, none⟩ = some (.int .i64 (aT l0_1 x).f0) ∧ W.cell? ⟨gEa, 1, none⟩ = some (.int .i64 (aT l0_1 x).f1) ∧ W.cell? ⟨gEa, 2, none⟩ = some (.int .i64 (aT l0_1 x).f2) ∧ W.cell? ⟨gBa, 0, none⟩ = some (.int .i64 a0_0) ∧ W.cell? ⟨gBa, 1, none⟩ = some (.slice (some ad) l0_1.length c0_1) ∧ W.cell? (ad.add ((x - 1) * 3)) = some (.int .i64 (aT l0_1 (x - 1)).f0) ∧ W.cell? ⟨(ad.add ((x - 1) * 3)).block, (ad.add ((x - 1) * 3)).off + 1, none⟩ = some (.int .i64 (aT l0_1 (x - 1)).f1) ∧ W.cell? ⟨(ad.add ((x - 1) * 3)).block, (ad.add ((x - 1) * 3)).off + 2, none⟩ = some (.int .i64 (aT l0_1 (x - 1)).f2) ∧ W.heap[gSa]? = some oSa))
        refine via_go HM [(0, 15), (1, 16), (2, 17), (3, 18), (4, 19), (5, 20), (6, 21), (7, 22), (8, 23), (9, 24), (10, 25), (11, 26), (12, 27), (13, 28), (14, 29), (15, 30), (16, 31), (17, 32), (18, 33), (19, 34), (20, 35), (21, 36), (22, 37), (23, 38), (24, 39), (25, 40), (26, 41), (27, 42), (28, 43), (29, 44), (30, 45), (31, 46), (32, 47), (33, 48), (34, 49), (35, 50), (36, 51), (37, 52), (38, 53), (39, 54)] (by as_aux_lemma => kernel_rfl) ?_ (fun hHeld => ?_)
        · (first | with_reducible exact HM.out _ (o1 (bJ _ _)) | with_reducible assumption | exact HM.out _ (bP (And.left (by assumption : Below WF.heap.size WF _ ∧ _)) (by assumption)))
        repeat (first
          | (refine via_take (v := ?_) rfl (by as_aux_lemma => kernel_rfl) (by as_aux_lemma => kernel_rfl) (by as_aux_lemma => kernel_rfl) (by as_aux_lemma => kernel_rfl) (fun _ _ _ h => h) (Or.inl ⟨by rfl, ?_⟩) (by assumption) ?_; rotate_left; (focus (intro w hSw; (try dsimp only at hSw); go_simp; (try with_reducible rfl); done)); (try simp only [Act.put, List.setIfInBounds_toArray, List.set_cons_zero, List.set_cons_succ]))
          | (refine via_take rfl (by as_aux_lemma => kernel_rfl) (by as_aux_lemma => kernel_rfl) (by as_aux_lemma => kernel_rfl) (by as_aux_lemma => kernel_rfl) (fun _ _ _ h => h) (Or.inr ⟨by rfl, rfl⟩) (by assumption) ?_; (try simp only [Act.put, List.setIfInBounds_toArray, List.set_cons_zero, List.set_cons_succ]))
          | (refine via_call rfl (by as_aux_lemma => kernel_rfl) (fun K hK => ?_); (try simp only [List.getElem_toArray, List.getElem_cons_zero, List.getElem_cons_succ]); go_simp; (first | (go_at_call 19; refine (in_ _ _ _ _).mono ?_; rintro e wc_ ⟨rfl, hb⟩; (try rw [ea]); (try rw [eb]); (try rw [ec])) | (go_at_call 21; refine (byTime_ _ _ _).mono ?_; rintro e wc_ ⟨rfl, hb⟩)); (try go_wp2_with fail); refine hK.out _ _ ?_ (fun hHeld => ?_); (focus (first | with_reducible exact HM.out _ (o1 (bJ _ _)) | with_reducible assumption | exact HM.out _ (bP (And.left (by assumption : Below WF.heap.size WF _ ∧ _)) (by assumption)))); clear hK K; (try simp only [Act.put, List.setIfInBounds_toArray, List.set_cons_zero, List.set_cons_succ])))
        refine via_done (by as_aux_lemma => kernel_rfl) ?_
        have HE := Am (And.left (by assumption : Below WF.heap.size WF _ ∧ _))
        have HB_ := Am (bP HB.out HE.out); clear HB; have HB := HB_; clear HB_; have Ba_ := Am (bB Ba.out HE.out); clear Ba Baq0 Baq1; have Ba := Ba_; clear Ba_; have Baq0 := cz0 Ba.out; have Baq1 := cz1 Ba.out; have Sa_ := Am (bB Sa.out HE.out); clear Sa ; have Sa := Sa_; clear Sa_; skip; have Ea_ := Am (bB Ea.out HE.out); clear Ea Eaq0 Eaq1 Eaq2; have Ea := Ea_; clear Ea_; obtain ⟨Eaq0, Eaq1, Eaq2⟩ := cy3 Ea.out; clear HE
        clear hw
        go_wp2_with fail
        first
          | go_ret
            exact ⟨congrArg (fun b => Ending.returned (.bool b)) (show false = clkOk a0_0 l0_1 from by unfold clkOk; rw [HA.out, show l0_1.length - x = (l0_1.length - (x + 1)) + 1 from by have := H3.out; omega, clkRows, HE_.out]; rfl), HB.out⟩
          | obtain ⟨gM, hM1, hM2⟩ := HMp.out
            obtain ⟨gM', hS⟩ := set_any gM (.int .i64 (aT l0_1 x).f0) (.bool true)
            have hk := key3 (i64_ (a := (aT l0_1 x).f0) (by have := inB_iff.1 ea; omega) (by have := inB_iff.1 ea; omega))
            obtain ⟨oS1, hrun, hm1⟩ := mo_update (v := .bool true) keyed3 Try.underlying48 Sa.out hM1 hk hS
            have HMp' := Am (seen_put hM2 hS hm1)
            have HA' : Aside0 (clkRows a0_0 l0_1 l0_1.length 0 = clkRows a0_0 l0_1 (l0_1.length - (x + 1)) (x + 1)) := ⟨by rw [HA.out, show l0_1.length - x = (l0_1.length - (x + 1)) + 1 from by have := H3.out; omega, clkRows, HE_.out]; rfl⟩
            clear hM1 hM2 hS hk hm1 HMp HA
            go_wp2
            rw [hrun]
            clear hrun
            go_upon
            go_wp2
            go_roundg (l0_1.length - (x + 1))
            case measure => have := H2.out; have := H3.out; omega
            case rel =>
              have h3 := H3.out
              exact ⟨x + 1, oS1, by go_num, ⟨by omega⟩, ⟨Nat.le_refl _⟩, ⟨below_setb HB.out GESa.out _⟩, ⟨setb_far Ba.out (by first | exact NESaBa.out | exact Ne.symm NESaBa.out) _⟩, ⟨setb_same Sa.out _⟩, HA', HMp'⟩
    · have HX := Am (show x = l0_1.length by have := H1.out; omega)
      have hx : x = l0_1.length := by have := H1.out; omega
      have hd1 : decide ((x : Int) < (l0_1.length : Int)) = false := decide_eq_false (by omega)
      have hd2 : decide (x < l0_1.length) = false := decide_eq_false hlt
      clear hx hlt
      have HA' : Aside0 (clkOk a0_0 l0_1 = (inB a0_0 0 4095 && decide ((l0_1.length : Int) ≤ 12))) := ⟨by unfold clkOk; rw [HA.out, HX.out, Nat.sub_self]; rfl⟩
      clear HA HMp
      rcases bc (inB a0_0 0 4095) with ea | ea
      all_goals
        go_wp2_with (first
      | (go_at_call 19; refine (in_ _ _ _ _).mono ?_; rintro e w_ ⟨rfl, hb⟩; (try rw [ea]); have HB_ := Am (bP (by repeat (first | exact HB.out | apply oA | apply o1)) hb); have Ba_ := Am (bB (by repeat (first | exact Ba.out | refine bA ?_ _ | refine blk_drew ?_)) hb); have Sa_ := Am (bB (by repeat (first | exact Sa.out | refine bA ?_ _ | refine blk_drew ?_)) hb); clear HB hb Ba Sa; have HB := HB_; clear HB_; (try clear Baq0 Baq1); have Ba := Ba_; clear Ba_; have Baq0 := cz0 Ba.out; have Baq1 := cz1 Ba.out; have Sa := Sa_; clear Sa_)
      | fail)
        go_ret
        exact ⟨congrArg (fun b => Ending.returned (.bool b)) (by rw [HA'.out, ea]; rfl), HB.out⟩
end Go.Proofs.Ytpacdakadkblgaa.PFnClockDrop
