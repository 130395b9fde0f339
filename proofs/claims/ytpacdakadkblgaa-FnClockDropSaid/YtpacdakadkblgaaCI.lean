/- Proved here, without a condition beyond those that each theorem states: slices.Insert of one alarm, in terms of rows of the call's own. Printed by ck.py, a program of this session. -/
import Derived.Test.YtpacdakadkblgaaCM
namespace Go.Proofs.Ytpacdakadkblgaa.PFnClockDrop
open Go.RowKit Go.Proofs.YtpacdakadkblgaaW.PrintWords Go.Proofs.YtpacdakadkblgaaW.PrintLast Go.Proofs.YtpacdakadkblgaaW.PrintMore
set_option linter.unusedVariables false
set_option linter.unusedSimpArgs false
attribute [local go_sem ↓] isSome_setCell_
def cellsA (a : S35) : List Value := [.int .i64 a.f0, .int .i64 a.f1, .int .i64 a.f2]
/-- The cells of alarms. -/
def fl : List S35 → List Value
  | [] => []
  | a :: t => cellsA a ++ fl t
theorem fl_len (l : List S35) : (fl l).length = l.length * 3 := by
  induction l with
  | nil => rfl
  | cons a t ih => show (cellsA a ++ fl t).length = _; rw [List.length_append, ih, List.length_cons]; show 3 + _ = _; omega
theorem fl_app (l m : List S35) : fl (l ++ m) = fl l ++ fl m := by
  induction l with
  | nil => rfl
  | cons a t ih => show cellsA a ++ fl (t ++ m) = (cellsA a ++ fl t) ++ fl m; rw [ih, List.append_assoc]
theorem fl_take (l : List S35) (i : Nat) : fl (l.take i) = (fl l).take (i * 3) := by
  rcases Nat.lt_or_ge i l.length with h | h
  · have h1 : fl l = fl (l.take i) ++ fl (l.drop i) := by rw [← fl_app, List.take_append_drop]
    rw [h1, List.take_left']
    rw [fl_len, List.length_take]; omega
  · rw [List.take_of_length_le h, List.take_of_length_le (by rw [fl_len]; omega)]
theorem fl_drop (l : List S35) (i : Nat) : fl (l.drop i) = (fl l).drop (i * 3) := by
  rcases Nat.lt_or_ge i l.length with h | h
  · have h1 : fl l = fl (l.take i) ++ fl (l.drop i) := by rw [← fl_app, List.take_append_drop]
    rw [h1, List.drop_left']
    rw [fl_len, List.length_take]; omega
  · rw [List.drop_of_length_le h, List.drop_of_length_le (by rw [fl_len]; omega)]; rfl
theorem fl_one (l : List S35) : ∀ v ∈ fl l, v.oneCell' = true := by
  induction l with
  | nil => intro v hv; cases hv
  | cons a t ih =>
    intro v hv
    rcases List.mem_append.1 hv with h | h
    · simp [cellsA] at h
      rcases h with rfl | rfl | rfl <;> rfl
    · exact ih v h
def insAt (t : List S35) (i : Nat) (a : S35) : List S35 := t.take i ++ a :: t.drop i
theorem insAt_len {t : List S35} {i : Nat} {a : S35} (h : i ≤ t.length) : (insAt t i a).length = t.length + 1 := by
  unfold insAt; rw [List.length_append, List.length_cons, List.length_take, List.length_drop]; omega
theorem fl_ins (l : List S35) (i : Nat) (a : S35) : fl (insAt l i a) = (fl l).take (i * 3) ++ cellsA a ++ (fl l).drop (i * 3) := by
  unfold insAt
  rw [fl_app, fl_take, ← fl_drop, List.append_assoc]; rfl
theorem reps_fl {R : S35 → List Value → Prop} (hR : ∀ a c, R a c → c = cellsA a) : ∀ (l : List S35) (inner : List Value), Reps R 3 l inner → inner = fl l
  | [], inner, h => List.eq_nil_of_length_eq_zero (by rw [h.1]; rfl)
  | a :: t, inner, h => by
    have h0 := hR _ _ (h.2 0 a rfl)
    have h1 : Reps R 3 t (inner.drop 3) := ⟨by rw [List.length_drop, h.1, List.length_cons]; omega, fun j p hj => by
      have := h.2 (j + 1) p (by simpa using hj)
      rw [List.drop_drop]
      rwa [show 3 + j * 3 = (j + 1) * 3 by omega]⟩
    rw [Nat.zero_mul, List.drop_zero] at h0
    show inner = cellsA a ++ fl t
    rw [← reps_fl hR t _ h1, ← h0, List.take_append_drop]
theorem fl_reps {R : S35 → List Value → Prop} (hR : ∀ a, R a (cellsA a)) : ∀ (l : List S35), Reps R 3 l (fl l)
  | [] => Reps.none _ _
  | a :: t => by
    have ih := fl_reps hR t
    refine ⟨by rw [fl_len], fun j p hj => ?_⟩
    cases j with
    | zero =>
      simp at hj
      subst hj
      exact hR a
    | succ j =>
      have h2 := ih.2 j p (by simpa using hj)
      have h3 : ((fl (a :: t)).drop ((j + 1) * 3)) = (fl t).drop (j * 3) := by
        show (cellsA a ++ fl t).drop _ = _
        rw [show (j + 1) * 3 = (cellsA a).length + j * 3 by show _ = 3 + _; omega, ← List.drop_drop, List.drop_left]
      rw [h3]
      exact h2
theorem Q_fl {w : World} {base : Nat} {ok : Nat → Prop} {v : Value} {l : List S35} (h : Kd.Q k35 35 w base ok v l) : QRow w base 35 3 v l.length (fl l) := by
  obtain ⟨h0, inner, hq, hr⟩ := h
  have := reps_fl (fun a c hc => k35_openM hc) l inner hr
  subst this
  exact hq
theorem fl_Q {w : World} {base : Nat} {v : Value} {l : List S35} (h : QRow w base 35 3 v l.length (fl l)) : Kd.Q k35 35 w base (fun _ => True) v l :=
  ⟨fun _ _ => trivial, fl l, h, fl_reps (fun a => k35_mkM _ _ _ a) l⟩
/-- It begins at its block's head. -/
def Head (v : Value) : Prop := ∀ a m k, v = .slice (some a) m k → a.off = 0
theorem row_put {w : World} {g : Nat} {cur : Array Value} {P Y vs : List Value} {k o : Nat} (hg : w.heap[g]? = some (.cells cur 35 (0, 0))) (hc : cur.toList = P ++ Y) (ho : o = P.length + k) (hk : k + vs.length ≤ Y.length) :
    ∃ cur', (w.setCells g o vs).heap[g]? = some (.cells cur' 35 (0, 0)) ∧ cur'.size = cur.size ∧ cur'.toList = P ++ (Y.take k ++ vs ++ Y.drop (k + vs.length)) := by
  have hs : cur.size = P.length + Y.length := by rw [← Array.length_toList, hc, List.length_append]
  obtain ⟨cur', h1, h2, h3⟩ := setCells_row vs o w cur hg (by omega)
  refine ⟨cur', h1, h2, ?_⟩
  rw [h3, hc, ho, Nat.add_assoc, List.take_length_add_append, List.drop_length_add_append]
  simp [List.append_assoc]
structure Inserted (w : World) (base : Nat) (v : Value) (r : List S35) (v' : Value) (w' : World) : Prop where
  q : Kd.Q k35 35 w' base (fun _ => True) v' r
  grown : w.grownBy w' v.ownBlock
  own : v'.ownBlock = v.ownBlock ∨ ∃ b, v'.ownBlock = some b ∧ w.heap.size ≤ b
  head : Head v → Head v'
theorem own_slice (g o n c : Nat) : (Value.slice (some ⟨g, o, none⟩) n c).ownBlock = some g := rfl
theorem grown_set {w : World} {g o : Nat} {vs : List Value} : w.grownBy (w.setCells g o vs) (some g) := by
  obtain ⟨s1, s2, s3, s4⟩ := setCells_same g vs o w
  exact ⟨s1, s2, s3, by rw [s4]; exact Nat.le_refl _, fun k _ hk => setCells_far vs o k (fun e => hk (by rw [e]))⟩
theorem grown_drew {w w' : World} {row : Option Nat} (h : w.drew.grownBy w' row) : w.grownBy w' row := ⟨h.os, h.tape, h.output, h.size, fun k hk hne => h.block k hk hne⟩
set_option maxHeartbeats 4000000 in
set_option maxRecDepth 100000 in
theorem ins_ {base : Nat} {w : World} {A : Option Addr} {n c : Nat} {l : List S35} (i : Nat) (a : S35) (vb : Nat) (HO : Kd.Q k35 35 w base (fun _ => True) (.slice A n c) l) (hi : i ≤ n) (hb : base ≤ w.heap.size) (hv : w.heap[vb]? = some (.cells #[.int .i64 a.f0, .int .i64 a.f1, .int .i64 a.f2] 35 (0, 0)))
    (hne : some vb ≠ (Value.slice A n c).ownBlock) (hlen : n ≤ 1000000) :
    Calls Try.prog 31 #[.slice A n c, .int .i64 i, .slice (some ⟨vb, 0, none⟩) 1 1] w fun e w' => ∃ v', e = .returned v' ∧ Inserted w base (.slice A n c) (insAt l i a) v' w' := by
  obtain ⟨hnl, hnc, -⟩ := Kd.Q_reads' HO
  have hq := Q_fl HO
  have hvs : ∀ j v, (cellsA a)[j]? = some v → w.cell? ⟨vb, j, none⟩ = some v := by
    intro j v hj
    rw [blk_cell hv, ← Array.getElem?_toList]
    exact hj
  have h1v : ∀ v ∈ cellsA a, v.oneCell' = true := fun v h => fl_one [a] v (by show v ∈ cellsA a ++ []; rw [List.append_nil]; exact h)
  have hvl : (cellsA a).length = 3 := rfl
  have hfl := fl_len l
  have hlr := insAt_len (t := l) (a := a) (by rw [← hnl]; exact hi)
  have hfr := fl_len (insAt l i a)
  subst hnl
  rcases hq.2 with ⟨h0, A', hva, hA⟩ | ⟨g, off, cap, cur, hva, hbg, hg, hcap, hcm, hcs, ht⟩
  · injection hva with ha hn hc
    subst ha
    subst hc
    have hi0 : i = 0 := by omega
    subst hi0
    have hl0 : l = [] := List.eq_nil_of_length_eq_zero h0
    subst hl0
    refine (ins_endgrow A 0 0 vb [] (cellsA a) w (by omega) (by omega) (by omega) rfl hvl (fun _ => rfl) (fun _ _ j v hj => by simp at hj) hvs h1v).mono ?_
    rintro e w' ⟨G, more, h1, h2, h3, rfl, rfl⟩
    refine ⟨_, rfl, fl_Q ⟨hfr, .inr ⟨w.heap.size, 0, G, _, by rw [Nat.zero_mul, hlr]; rfl, hb, heap_alloc_new w.drew _, by rw [hlr]; exact h1, by omega, ?_, ?_⟩⟩, ?_, .inr ⟨w.heap.size, rfl, Nat.le_refl _⟩, fun _ a m k he => by injection he with h _ _; injection h with h; rw [← h]⟩
    · simp [h3, cellsA]; omega
    · rw [Nat.zero_mul, List.drop_zero, Array.toList_append, List.toList_toArray, List.nil_append]
      exact List.take_left' (by rw [hlr]; rfl)
    · exact ⟨rfl, rfl, rfl, by simp, fun k hk _ => heap_alloc_old w.drew _ hk⟩
  · injection hva with ha hn hc
    subst ha
    subst hc
    obtain ⟨P, Y, hPY, hP, hY⟩ : ∃ P Y, cur.toList = P ++ Y ∧ P.length = off * 3 ∧ Y.length = c * 3 := by
      refine ⟨cur.toList.take (off * 3), cur.toList.drop (off * 3), (List.take_append_drop _ _).symm, ?_, ?_⟩
      · rw [List.length_take, Array.length_toList, hcs]; omega
      · rw [List.length_drop, Array.length_toList, hcs]; omega
    have hX : Y.take (l.length * 3) = fl l := by rw [← ht, hPY, ← hP, List.drop_left]
    have hcell : ∀ j v, (fl l)[j]? = some v → w.cell? ⟨g, off * 3 + j, none⟩ = some v := by
      intro j v hj
      rw [blk_cell hg, ← Array.getElem?_toList, hPY, ← hP, List.getElem?_append_right (by omega), Nat.add_sub_cancel_left]
      rw [← hX, List.getElem?_take] at hj
      split at hj
      · exact hj
      · cases hj
    have hsome : ∀ j, j < c * 3 → (w.cell? ⟨g, off * 3 + j, none⟩).isSome = true := by
      intro j hj
      rw [blk_cell hg, Array.getElem?_eq_getElem (by rw [hcs]; omega)]; rfl
    have hfz : ∀ j, w.frozen? ⟨g, j, none⟩ = false := fun j => blk_frozen hg j
    have hhead : ∀ m, Head (Value.slice (some ⟨g, off * 3, none⟩) l.length c) → Head (Value.slice (some ⟨g, off * 3, none⟩) m c) := fun m h a m' k he => by
      injection he with h1 _ _
      injection h1 with h1
      rw [← h1]
      exact h _ _ _ rfl
    have hput : ∀ (w' : World) (cur' : Array Value), w'.heap[g]? = some (.cells cur' 35 (0, 0)) → cur'.size = cur.size → (∃ Z, cur'.toList = P ++ (fl (insAt l i a) ++ Z)) → l.length + 1 ≤ c →
        Kd.Q k35 35 w' base (fun _ => True) (Value.slice (some ⟨g, off * 3, none⟩) (l.length + 1) c) (insAt l i a) := by
      rintro w' cur' h1 h2 ⟨Z, h3⟩ hr
      refine fl_Q ⟨hfr, .inr ⟨g, off, c, cur', by rw [hlr], hbg, h1, by rw [hlr]; exact hr, hcm, by rw [h2, hcs], ?_⟩⟩
      rw [h3, ← hP, List.drop_left]
      exact List.take_left' hfr
    have hnew : ∀ (w' : World) (G : Nat) (cs : Array Value), l.length + 1 ≤ G → G ≤ maxLen → cs.size = G * 3 → w'.heap[w.heap.size]? = some (.cells cs 35 (0, 0)) → (∃ Z, cs.toList = fl (insAt l i a) ++ Z) →
        Kd.Q k35 35 w' base (fun _ => True) (Value.slice (some ⟨w.heap.size, 0, none⟩) (l.length + 1) G) (insAt l i a) := by
      rintro w' G cs h1 h2 h3 h4 ⟨Z, h5⟩
      refine fl_Q ⟨hfr, .inr ⟨w.heap.size, 0, G, cs, by rw [Nat.zero_mul, hlr], hb, h4, by rw [hlr]; exact h1, by omega, by rw [h3]; omega, ?_⟩⟩
      rw [h5, Nat.zero_mul, List.drop_zero]
      exact List.take_left' hfr
    have hnh : ∀ m k, Head (Value.slice (some ⟨w.heap.size, 0, none⟩) m k) := fun m k a m' k' he => by
      injection he with h1 _ _
      injection h1 with h1
      rw [← h1]
    by_cases hr : l.length + 1 ≤ c
    · by_cases hin : i = l.length
      · subst hin
        refine (ins_end g (off * 3) l.length c vb (cellsA a) w hr hlen hvl (fun j hj => by rw [Nat.add_assoc]; exact hsome _ (by omega)) hfz hvs h1v).mono ?_
        rintro e w' ⟨rfl, rfl⟩
        obtain ⟨cur', h1, h2, h3⟩ := row_put (k := l.length * 3) (vs := cellsA a) hg hPY (o := off * 3 + l.length * 3) (by omega) (by omega)
        refine ⟨_, rfl, hput _ cur' h1 h2 ⟨Y.drop (l.length * 3 + (cellsA a).length), ?_⟩ hr, grown_set, .inl rfl, hhead _⟩
        · rw [h3, fl_ins, hX, List.take_of_length_le (show (fl l).length ≤ l.length * 3 by omega), List.drop_of_length_le (show (fl l).length ≤ l.length * 3 by omega), List.append_nil]
      · have hilt : i < l.length := by omega
        have hgv : vb ≠ g := fun e => hne (by rw [e]; rfl)
        refine (ins_shift g (off * 3) l.length c i vb (fl l) (cellsA a) w hilt hr hlen hgv hfl hvl hcell (fun j hj => hsome j (by omega)) hfz hvs (fl_one l) h1v 35 35 3 cur.size (by simp [World.shape?, hv]) (by simp [World.shape?, hg]) (by omega) (blk_frozen hv 0) (blk_frozen hv 3)).mono ?_
        rintro e w' ⟨rfl, rfl⟩
        have hdl : ((fl l).drop (i * 3)).length = (l.length - i) * 3 := by rw [List.length_drop, hfl]; omega
        have hg' : w.drew.heap[g]? = some (.cells cur 35 (0, 0)) := hg
        obtain ⟨cur1, h1, h2, h3⟩ := row_put (k := (i + 1) * 3) (vs := (fl l).drop (i * 3)) hg' hPY (o := off * 3 + (i + 1) * 3) (by omega) (by omega)
        obtain ⟨cur2, h4, h5, h6⟩ := row_put (k := i * 3) (vs := cellsA a) h1 h3 (o := off * 3 + i * 3) (by omega) (by rw [hvl, List.length_append, List.length_append, List.length_take, hdl]; omega)
        refine ⟨_, rfl, hput _ cur2 h4 (h5.trans h2) ⟨Y.drop ((i + 1) * 3 + ((fl l).drop (i * 3)).length), ?_⟩ hr, ⟨?_, ?_, ?_, ?_, ?_⟩, .inl rfl, hhead _⟩
        · rw [h6, fl_ins, hvl]
          congr 1
          have e1 : (Y.take ((i + 1) * 3) ++ (fl l).drop (i * 3) ++ Y.drop ((i + 1) * 3 + ((fl l).drop (i * 3)).length)).take (i * 3) = (fl l).take (i * 3) := by
            rw [List.append_assoc, List.take_append_of_le_length (by rw [List.length_take]; omega), List.take_take, ← hX, List.take_take, Nat.min_eq_left (by omega), Nat.min_eq_left (by omega)]
          have e2 : (Y.take ((i + 1) * 3) ++ (fl l).drop (i * 3) ++ Y.drop ((i + 1) * 3 + ((fl l).drop (i * 3)).length)).drop (i * 3 + 3) = (fl l).drop (i * 3) ++ Y.drop ((i + 1) * 3 + ((fl l).drop (i * 3)).length) := by
            rw [List.append_assoc]
            exact List.drop_left' (by rw [List.length_take]; omega)
          rw [e1, e2]
          simp only [List.append_assoc]
        all_goals
          have z := grown_drew (grown_set (w := w.drew) (g := g) (o := off * 3 + (i + 1) * 3) (vs := (fl l).drop (i * 3)))
          have z2 := World.grownBy.trans z (grown_set (w := w.drew.setCells g (off * 3 + (i + 1) * 3) ((fl l).drop (i * 3))) (g := g) (o := off * 3 + i * 3) (vs := cellsA a))
          first | exact z2.os | exact z2.tape | exact z2.output | exact z2.size | exact z2.block
    · by_cases hin : i = l.length
      · subst hin
        refine (ins_endgrow (some ⟨g, off * 3, none⟩) l.length c vb (fl l) (cellsA a) w hcap (by omega) hlen hfl hvl (fun h => by cases h) (fun x hx j v hj => by injection hx with hx; subst hx; rw [Addr.add_lit]; exact hcell j v hj) hvs h1v).mono ?_
        rintro e w' ⟨G, more, h1, h2, h3, rfl, rfl⟩
        refine ⟨_, rfl, hnew _ G _ h1 h2 ?_ (heap_alloc_new w.drew _) ⟨more.toList, ?_⟩, ⟨rfl, rfl, rfl, by simp, fun k hk _ => heap_alloc_old w.drew _ hk⟩, .inr ⟨w.heap.size, rfl, Nat.le_refl _⟩, fun _ => hnh _ _⟩
        · simp [h3, hfl, hvl]; omega
        · rw [Array.toList_append, List.toList_toArray, fl_ins, List.take_of_length_le (by omega), List.drop_of_length_le (by omega), List.append_nil]
      · have hilt : i < l.length := by omega
        refine (ins_grow g (off * 3) l.length c i vb (fl l) (cellsA a) w hilt hcap (by omega) hlen hfl hvl hcell hvs (fl_one l) h1v).mono ?_
        rintro e w' ⟨G, mid, more, h1, h2, h3, h4, rfl, rfl⟩
        have hdl : ((fl l).drop (i * 3)).length = (l.length - i) * 3 := by rw [List.length_drop, hfl]; omega
        have htl : ((fl l).take (i * 3)).length = i * 3 := by rw [List.length_take, hfl]; omega
        have hml : mid.toList.length = (l.length + 1 - i) * 3 := by rw [Array.length_toList, h3]
        have hal : more.toList.length = (G - (l.length + 1)) * 3 := by rw [Array.length_toList, h4]
        obtain ⟨ROW, hROW⟩ : ∃ ROW : Array Value, ROW = ((fl l).take (i * 3)).toArray ++ mid ++ more := ⟨_, rfl⟩
        have hRL : ROW.toList = (fl l).take (i * 3) ++ (mid.toList ++ more.toList) := by rw [hROW, Array.toList_append, Array.toList_append, List.toList_toArray, List.append_assoc]
        have hRs : ROW.size = G * 3 := by rw [← Array.length_toList, hRL, List.length_append, List.length_append, htl, hml, hal]; omega
        rw [← hROW]
        have hr0 : (w.alloc (.cells ROW 35)).drew.heap[w.heap.size]? = some (.cells ROW 35 (0, 0)) := heap_alloc_new w _
        obtain ⟨cur1, g1, g2, g3⟩ := row_put (P := []) (Y := (fl l).take (i * 3) ++ (mid.toList ++ more.toList)) (k := i * 3) (vs := cellsA a) hr0 (by rw [hRL, List.nil_append]) (o := i * 3) (by simp) (by rw [hvl, List.length_append, List.length_append, htl, hml, hal]; omega)
        have g1' : ((w.alloc (.cells ROW 35)).drew.setCells w.heap.size (i * 3) (cellsA a)).drew.heap[w.heap.size]? = some (.cells cur1 35 (0, 0)) := g1
        obtain ⟨cur2, g4, g5, g6⟩ := row_put (k := (i + 1) * 3) (vs := (fl l).drop (i * 3)) g1' g3 (o := (i + 1) * 3) (by simp) (by rw [hdl]; simp only [List.length_append, List.length_take, List.length_drop, htl, hml, hal, hvl]; omega)
        refine ⟨_, rfl, hnew _ G cur2 h1 h2 (by rw [g5, g2, hRs]) g4 ⟨more.toList, ?_⟩, ⟨?_, ?_, ?_, ?_, ?_⟩, .inr ⟨w.heap.size, rfl, Nat.le_refl _⟩, fun _ => hnh _ _⟩
        · rw [g6, fl_ins, List.nil_append]
          have e0 : ((fl l).take (i * 3) ++ (mid.toList ++ more.toList)).take (i * 3) = (fl l).take (i * 3) := List.take_left' htl
          rw [e0]
          have e1 : ((fl l).take (i * 3) ++ cellsA a ++ ((fl l).take (i * 3) ++ (mid.toList ++ more.toList)).drop (i * 3 + (cellsA a).length)).take ((i + 1) * 3) = (fl l).take (i * 3) ++ cellsA a := List.take_left' (by rw [List.length_append, htl, hvl]; omega)
          rw [e1]
          congr 1
          rw [List.append_assoc, hdl, hvl]
          have e2 : (((fl l).take (i * 3) ++ cellsA a) ++ ((fl l).take (i * 3) ++ (mid.toList ++ more.toList)).drop (i * 3 + 3)).drop ((i + 1) * 3 + (l.length - i) * 3) = more.toList := by
            rw [show (i + 1) * 3 + (l.length - i) * 3 = ((fl l).take (i * 3) ++ cellsA a).length + (l.length - i) * 3 by rw [List.length_append, htl, hvl]; omega, ← List.drop_drop, List.drop_left, List.drop_drop]
            rw [show i * 3 + 3 + (l.length - i) * 3 = ((fl l).take (i * 3)).length + (mid.toList.length + 0) by rw [htl, hml]; omega, ← List.drop_drop, List.drop_left, Nat.add_zero, List.drop_left]
          rw [← List.append_assoc ((fl l).take (i * 3)) (cellsA a), e2]
        all_goals
          have z1 : w.grownBy (w.alloc (.cells ROW 35)) (some w.heap.size) := World.grownBy_alloc w _ _
          have z2 := World.grownBy.trans z1 (grown_drew (grown_set (w := (w.alloc (.cells ROW 35)).drew) (g := w.heap.size) (o := i * 3) (vs := cellsA a)))
          have z3 := World.grownBy.trans z2 (grown_drew (grown_set (w := ((w.alloc (.cells ROW 35)).drew.setCells w.heap.size (i * 3) (cellsA a)).drew) (g := w.heap.size) (o := (i + 1) * 3) (vs := (fl l).drop (i * 3))))
          first | exact z3.os | exact z3.tape | exact z3.output | exact z3.size | exact fun k hk _ => z3.block k hk (by intro e; injection e with e; omega)
end Go.Proofs.Ytpacdakadkblgaa.PFnClockDrop
