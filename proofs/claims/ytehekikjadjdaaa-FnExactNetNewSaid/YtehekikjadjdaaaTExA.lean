/- Proved here, without a condition beyond those that each theorem states: laws.markSockS writes its marks into a row of sockets of zeros. -/
import Derived.Test.YtehekikjadjdaaaPFnExactNetNewx2
import Derived.Deep.RegionHeld3
namespace Go.Proofs.Ytehekikjadjdaaa.PFnExactNetNew
open Go.RowKit Go.Proofs.YtehekikjadjdaaaW.PrintWords Go.Proofs.YtehekikjadjdaaaW.PrintLast Go.Proofs.YtehekikjadjdaaaW.PrintMore
set_option linter.unusedVariables false
/-- The cells of a socket of zeros. -/
def Z6 : List Value := [.int .i64 0, .string ⟨#[]⟩, .int .i64 0, .string ⟨#[]⟩, .bool false, .slice none 0 0]
/-- Eight elements of six cells at block gb. -/
def Row (W : World) (gb : Nat) (M : Nat → List Value) : Prop := (∃ cur, W.heap[gb]? = some (.cells cur 117 (0, 0))) ∧ ∀ j, j < 8 → (M j).length = 6 ∧ ∀ i u, (M j)[i]? = some u → W.cell? ⟨gb, j * 6 + i, none⟩ = some u
theorem Row.below {W W' : World} {gb : Nat} {M : Nat → List Value} (h : Row W gb M) (hb : Below W.heap.size W W') : Row W' gb M := by
  obtain ⟨⟨cur, hc⟩, h⟩ := h
  exact ⟨⟨cur, blk_below hc hb⟩, fun j hj => ⟨(h j hj).1, fun i u hu => pw_cell_below hb ((h j hj).2 i u hu)⟩⟩
theorem Row.frozen {W : World} {gb : Nat} {M : Nat → List Value} (h : Row W gb M) (o : Nat) : W.frozen? ⟨gb, o, none⟩ = false := by
  obtain ⟨⟨cur, hc⟩, h⟩ := h
  exact blk_frozen hc o
theorem Row.set {W : World} {gb : Nat} {M : Nat → List Value} (h : Row W gb M) (x i : Nat) (hx : x < 8) (hi : i < 6) (u : Value) : Row (W.setCell ⟨gb, x * 6 + i, none⟩ u) gb (fun j => if j = x then (M x).set i u else M j) := by
  obtain ⟨⟨cur, hc⟩, h⟩ := h
  refine ⟨⟨_, blk_set hc _ u⟩, fun j hj => ?_⟩
  obtain ⟨hl, hm⟩ := h j hj
  by_cases hjx : j = x
  · subst hjx
    dsimp only
    rw [if_pos rfl]
    refine ⟨by simpa using hl, fun p v hv => ?_⟩
    have hp : p < 6 := by
      have := (List.getElem?_eq_some_iff.1 hv).1
      simp at this
      omega
    by_cases hpi : p = i
    · subst hpi
      rw [List.getElem?_set_self (by omega)] at hv
      injection hv with hv
      subst hv
      exact World.cell?_setCell_same _ _ _ (hm p _ (List.getElem?_eq_getElem (by omega)))
    · rw [List.getElem?_set_ne (by omega)] at hv
      rw [World.cell?_setCell_other _ _ _ _ (by intro e; injection e with _ e _; omega)]
      exact hm p v hv
  · dsimp only
    rw [if_neg hjx]
    refine ⟨hl, fun p v hv => ?_⟩
    have hp : p < 6 := by
      have := (List.getElem?_eq_some_iff.1 hv).1
      omega
    rw [World.cell?_setCell_other _ _ _ _ (by intro e; injection e with _ e _; omega)]
    exact hm p v hv
theorem Row.ext {W : World} {gb : Nat} {M M' : Nat → List Value} (h : Row W gb M) (e : ∀ j, j < 8 → M j = M' j) : Row W gb M' :=
  ⟨h.1, fun j hj => by rw [← e j hj]; exact h.2 j hj⟩
theorem grown_set {w W : World} {g : Nat} {o : Nat} {u : Value} (h : w.grownBy W (some g)) : w.grownBy (W.setCell ⟨g, o, none⟩ u) (some g) :=
  ⟨h.os, h.tape, h.output, by simpa [World.setCell] using h.size, fun k hk hne => (Below.heap_setCell W ⟨g, o, none⟩ u k (fun e => hne (by rw [e]))).trans (h.block k hk hne)⟩
theorem grown_below {w W W' : World} {g : Option Nat} (h : w.grownBy W g) (hb : Below W.heap.size W W') : w.grownBy W' g :=
  ⟨hb.os.trans h.os, hb.tape.trans h.tape, hb.output.trans h.output, Nat.le_trans h.size hb.size, fun k hk hne => (hb.block k (Nat.lt_of_lt_of_le hk h.size)).trans (h.block k hk hne)⟩
/-- A mark's text. -/
def mt (k : Int) : ByteArray := (laws_markText.f 20 k).getD ⟨#[]⟩
theorem mt_ok : ∀ x : Nat, x < 8 → laws_markText.f 20 (1 + 5 * (x : Int) + 1) = some (mt (1 + 5 * (x : Int) + 1)) ∧ laws_markText.f 20 (1 + 5 * (x : Int) + 1 + 1 + 1) = some (mt (1 + 5 * (x : Int) + 1 + 1 + 1)) := by decide +kernel
/-- A socket that was marked from k on. -/
def mk (x : Int) : List Value := [.int .i64 (1 + 5 * x), .string (mt (1 + 5 * x + 1)), .int .i64 (1 + 5 * x + 1 + 1), .string (mt (1 + 5 * x + 1 + 1 + 1)), .bool ((1 + 5 * x + 1 + 1 + 1 + 1) % 3 == 0), .slice none 0 0]
def MK (x : Int) (j : Nat) : List Value := if (j : Int) < x then mk j else Z6
set_option maxHeartbeats 2000000 in
set_option maxRecDepth 100000 in
theorem ex_markIntS (k : Int) (w : World) : Calls Try.prog 62 #[.slice none 0 0, .int .i64 k] w fun e w' => e = .returned (.int .i64 k) ∧ w' = w := by
  have hu23 := Try.underlying23
  go_enter Try.func62, Try.ntmps62
  go_wp2
  refine wp_loop_rounds 1 ?_
  rw [rounds_succ]
  go_wp2
  go_ret
  exact ⟨rfl, rfl⟩
theorem Row.c {W : World} {gb : Nat} {M : Nat → List Value} (h : Row W gb M) (x i : Nat) (hx : x < 8) (u : Value) (hu : (M x)[i]? = some u) : W.cell? ⟨gb, x * 6 + i, none⟩ = some u := (h.2 x hx).2 i u hu
set_option maxHeartbeats 2000000 in
set_option maxRecDepth 100000 in
theorem ex_markSockS (gb c : Nat) (w : World) (hr : Row w gb (MK 0)) :
    Calls Try.prog 96 #[.slice (some ⟨gb, 0, none⟩) 8 c, .int .i64 1] w fun e w' => e = .returned (.int .i64 41) ∧ w.grownBy w' (some gb) ∧ Row w' gb (MK 8) := by
  have hu68 := Try.underlying68
  have hu117 := Try.underlying117
  have hu23 := Try.underlying23
  have HR := Am hr
  clear hr
  have HG := Am (World.grownBy.refl w (some gb))
  go_enter Try.func96, Try.ntmps96
  go_wp2
  go_loopg [1, 5] 9 (fun kq v1 v5 w' => ∃ x : Nat, v5 = .int .i64 (x : Int) ∧ v1 = .int .i64 (1 + 5 * (x : Int)) ∧ Aside0 (x ≤ 8) ∧ Aside0 (8 - x ≤ kq) ∧ Aside0 (w.grownBy w' (some gb)) ∧ Aside0 (Row w' gb (MK x)))
  case atStart => exact ⟨0, rfl, rfl, ⟨by omega⟩, ⟨by omega⟩, HG, HR⟩
  case round =>
    clear HG HR
    obtain ⟨x, rfl, rfl, H1, H2, HG, HR⟩ := hrel
    by_cases hlt : x < 8
    · have c1 : decide ((x : Int) < 8) = true := decide_eq_true (by omega)
      have p1 := eq_true (show (0 : Int) ≤ (x : Int) by omega)
      have p2 := eq_true (show (x : Int) < 8 by omega)
      have p3 : (x : Int) ≤ 8 := by omega
      have H3 := Am hlt
      have hz : MK x x = Z6 := by unfold MK; rw [if_neg (by omega)]
      have hz6 := Am hz
      have hf := HR.out.frozen
      have h0 : wr.cell? ⟨gb, x * 6, none⟩ = some (.int .i64 0) := HR.out.c x 0 hlt (.int .i64 0) (by rw [hz]; rfl)
      obtain ⟨hm1, hm2⟩ := mt_ok x hlt
      have M1 := Am hm1
      have M2 := Am hm2
      have R1 := Am (HR.out.set x 0 hlt (by decide) (.int .i64 (1 + 5 * (x : Int))))
      have G1 := Am (grown_set (o := x * 6 + 0) (u := .int .i64 (1 + 5 * (x : Int))) HG.out)
      clear hz hlt hm1 hm2
      go_wp2_with fail
      refine (laws_markText.calls 20 _ _ _ M1.out).mono ?_
      rintro e w1 ⟨rfl, hb⟩
      have R2 := Am (R1.out.below hb)
      have G2 := Am (grown_below G1.out hb)
      clear hb R1 G1 hf h0
      have hf := R2.out.frozen
      have h1 := R2.out.c x 1 H3.out (.string ⟨#[]⟩) (by simp [hz6.out, Z6])
      have R3 := Am (R2.out.set x 1 H3.out (by decide) (.string (mt (1 + 5 * (x : Int) + 1))))
      have h2 := R3.out.c x 2 H3.out (.int .i64 0) (by simp [hz6.out, Z6])
      have G3 := Am (grown_set (o := x * 6 + 1) (u := .string (mt (1 + 5 * (x : Int) + 1))) G2.out)
      have R4 := Am (R3.out.set x 2 H3.out (by decide) (.int .i64 (1 + 5 * (x : Int) + 1 + 1)))
      have G4 := Am (grown_set (o := x * 6 + 2) (u := .int .i64 (1 + 5 * (x : Int) + 1 + 1)) G3.out)
      go_wp2_with fail
      refine (laws_markText.calls 20 _ _ _ M2.out).mono ?_
      rintro e w2 ⟨rfl, hb⟩
      have R5 := Am (R4.out.below hb)
      have G5 := Am (grown_below G4.out hb)
      clear hb R2 R3 R4 G2 G3 G4 hf h1 h2
      have hf := R5.out.frozen
      have h3 := R5.out.c x 3 H3.out (.string ⟨#[]⟩) (by simp [hz6.out, Z6])
      have R6 := Am (R5.out.set x 3 H3.out (by decide) (.string (mt (1 + 5 * (x : Int) + 1 + 1 + 1))))
      have h4 := R6.out.c x 4 H3.out (.bool false) (by simp [hz6.out, Z6])
      have G6 := Am (grown_set (o := x * 6 + 3) (u := .string (mt (1 + 5 * (x : Int) + 1 + 1 + 1))) G5.out)
      have R7 := Am (R6.out.set x 4 H3.out (by decide) (.bool ((1 + 5 * (x : Int) + 1 + 1 + 1 + 1) % 3 == 0)))
      have G7 := Am (grown_set (o := x * 6 + 4) (u := .bool ((1 + 5 * (x : Int) + 1 + 1 + 1 + 1) % 3 == 0)) G6.out)
      have h5 := R7.out.c x 5 H3.out (.slice none 0 0) (by simp [hz6.out, Z6])
      go_wp2_with (go_at_call 62; refine (ex_markIntS _ _).mono ?_; rintro e w' ⟨rfl, rfl⟩)
      go_roundg (8 - (x + 1))
      case measure => have := H2.out; have := H3.out; omega
      case rel =>
        have h3 := H3.out
        refine ⟨x + 1, by go_num, ?_, ⟨by omega⟩, ⟨Nat.le_refl _⟩, G7, ⟨R7.out.ext fun j hj => ?_⟩⟩
        · congr 1 <;> push_cast <;> omega
        · by_cases hjx : j = x
          · subst hjx
            simp only [if_true, hz6.out]
            rw [MK, if_pos (by push_cast; omega)]
            simp [Z6, mk]
          · simp only [if_neg hjx, MK]
            by_cases hl : (j : Int) < x
            · rw [if_pos hl, if_pos (by push_cast; omega)]
            · rw [if_neg hl, if_neg (by push_cast; omega)]
    · have hx8 : x = 8 := by have := H1.out; omega
      subst hx8
      have c1 : decide (((8 : Nat) : Int) < 8) = false := by decide
      go_wp2
      go_ret
      exact ⟨rfl, HG.out, HR.out⟩
section
variable {W0 W W' : World} {a : Addr} {v u : Value} {g : Nat}
theorem keepA (h : Below W0.heap.size W0 W ∧ W.cell? a = some v) : Below W0.heap.size W0 W := h.1
theorem keep0 (hc : W0.cell? a = some v) : Below W0.heap.size W0 W0.drew ∧ W0.drew.cell? a = some v := ⟨o1 (bJ _ _), hc⟩
theorem keepL (hb : Below W.heap.size W W') (h : Below W0.heap.size W0 W ∧ W.cell? a = some v) : Below W0.heap.size W0 W'.drew ∧ W'.drew.cell? a = some v := ⟨o1 (bP h.1 hb), pw_cell_below hb h.2⟩
theorem keepL' (hb : Below W.heap.size W W') (h : Below W0.heap.size W0 W ∧ W.cell? a = some v) : Below W0.heap.size W0 W' ∧ W'.cell? a = some v := ⟨bP h.1 hb, pw_cell_below hb h.2⟩
theorem keepD (h : Below W0.heap.size W0 W ∧ W.cell? a = some v) : Below W0.heap.size W0 W.drew ∧ W.drew.cell? a = some v := ⟨o1 h.1, h.2⟩
end
set_option maxHeartbeats 2000000 in
set_option maxRecDepth 100000 in
theorem ex_heldIntS (k : Int) (w : World) : Calls Try.prog 64 #[.slice none 0 0, .int .i64 k] w fun e w' => e = .returned (.int .i64 k) ∧ w' = w := by
  have hu23 := Try.underlying23
  go_enter Try.func64, Try.ntmps64
  go_wp2
  refine wp_loop_rounds 1 ?_
  rw [rounds_succ]
  go_wp2
  go_ret
  exact ⟨rfl, rfl⟩
set_option maxHeartbeats 2000000 in
set_option maxRecDepth 100000 in
theorem ex_heldSockS (gb c : Nat) (w : World) (hr : Row w gb (MK 8)) :
    Calls Try.prog 97 #[.slice (some ⟨gb, 0, none⟩) 8 c, .int .i64 1] w fun e w' => e = .returned (.int .i64 41) ∧ Below w.heap.size w w' := by
  have hu68 := Try.underlying68
  have hu117 := Try.underlying117
  have hu23 := Try.underlying23
  have hu9 := Try.underlying9
  have hu4 := Try.underlying4
  have HR := Am hr
  clear hr
  have HG := Am (Below.refl w.heap.size w)
  go_enter Try.func97, Try.ntmps97
  go_wp2
  go_loopg [1, 5] 9 (fun kq v1 v5 w' => ∃ x : Nat, v5 = .int .i64 (x : Int) ∧ v1 = .int .i64 (1 + 5 * (x : Int)) ∧ Aside0 (x ≤ 8) ∧ Aside0 (8 - x ≤ kq) ∧ Aside0 (Below w.heap.size w w') ∧ Aside0 (Row w' gb (MK 8)))
  case atStart => exact ⟨0, rfl, rfl, ⟨by omega⟩, ⟨by omega⟩, HG, HR⟩
  case round =>
    clear HG HR
    obtain ⟨x, rfl, rfl, H1, H2, HG, HR⟩ := hrel
    by_cases hlt : x < 8
    · have c1 : decide ((x : Int) < 8) = true := decide_eq_true (by omega)
      have p1 := eq_true (show (0 : Int) ≤ (x : Int) by omega)
      have p2 := eq_true (show (x : Int) < 8 by omega)
      have p3 : (x : Int) ≤ 8 := by omega
      have H3 := Am hlt
      have hz : MK 8 x = mk x := by unfold MK; rw [if_pos (by omega)]
      have hz6 := Am hz
      have h0 : wr.cell? ⟨gb, x * 6, none⟩ = some (.int .i64 (1 + 5 * (x : Int))) := HR.out.c x 0 hlt _ (by rw [hz]; rfl)
      have h1 := HR.out.c x 1 hlt _ (by rw [hz]; rfl)
      have K1 := Am (keep0 h1)
      obtain ⟨hm1, hm2⟩ := mt_ok x hlt
      have M1 := Am hm1
      have M2 := Am hm2
      clear hz hlt hm1 hm2
      go_wp2_with fail
      go_region_held3 (fun W => Below wr.heap.size wr W ∧ W.cell? ⟨gb, x * 6 + 1, none⟩ = some (.string (mt (1 + 5 * (x : Int) + 1))))
        (first
          | exact K1.out
          | exact keepL (by assumption) (by assumption)
          | exact keepL' (by assumption) (by assumption)
          | exact keepD (by assumption)
          | assumption)
        (first
          | (go_at_call 106; refine (laws_markText.calls 20 _ _ _ M1.out).mono ?_; rintro e w1 ⟨rfl, hb⟩))
      have B1 := Am (keepA (W0 := wr) (W := w1) (by assumption))
      have RR1 := Am (HR.out.below B1.out)
      have HG1 := Am (bP HG.out B1.out)
      have h2 := RR1.out.c x 2 H3.out _ (by rw [hz6.out]; rfl)
      have h3 := RR1.out.c x 3 H3.out _ (by rw [hz6.out]; rfl)
      have K3 := Am (keep0 h3)
      clear h0 h1 K1 HR HG B1
      go_wp2_with fail
      go_region_held3 (fun W => Below w1.heap.size w1 W ∧ W.cell? ⟨gb, x * 6 + 3, none⟩ = some (.string (mt (1 + 5 * (x : Int) + 1 + 1 + 1))))
        (first
          | exact K3.out
          | exact keepL (by assumption) (by assumption)
          | exact keepL' (by assumption) (by assumption)
          | exact keepD (by assumption)
          | assumption)
        (first
          | (go_at_call 106; refine (laws_markText.calls 20 _ _ _ M2.out).mono ?_; rintro e w2 ⟨rfl, hb⟩))
      have B2 := Am (keepA (W0 := w1) (W := w2) (by assumption))
      have RR2 := Am (RR1.out.below B2.out)
      have HG2 := Am (bP HG1.out B2.out)
      have h4 := RR2.out.c x 4 H3.out _ (by rw [hz6.out]; rfl)
      have h5 := RR2.out.c x 5 H3.out _ (by rw [hz6.out]; rfl)
      clear h2 h3 K3 RR1 HG1 B2
      have h6 : ¬ ((1 + 5 * (x : Int) + 1 + 1 + 1 + 1 + 1) < 0) := by omega
      go_wp2_with (go_at_call 64; refine (ex_heldIntS _ _).mono ?_; rintro e w' ⟨rfl, rfl⟩)
      go_roundg (8 - (x + 1))
      case measure => have := H2.out; have := H3.out; omega
      case rel =>
        have h3 := H3.out
        refine ⟨x + 1, by go_num, ?_, ⟨by omega⟩, ⟨Nat.le_refl _⟩, HG2, RR2⟩
        congr 1 <;> push_cast <;> omega
    · have hx8 : x = 8 := by have := H1.out; omega
      subst hx8
      have c1 : decide (((8 : Nat) : Int) < 8) = false := by decide
      go_wp2
      go_ret
      exact ⟨rfl, HG.out⟩
end Go.Proofs.Ytehekikjadjdaaa.PFnExactNetNew
