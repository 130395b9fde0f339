/- Proved here, without a condition beyond those that each theorem states: impl.MemOk says yes to a new memory. -/
import Derived.Test.YtffnkpbogkodbaaPFnMemNewx6
import Derived.Test.YtffnkpbogkodbaaPFnMemNewx9
import Derived.Carry
import Derived.Maps.RangeRun
import Derived.WideKeyRuns
namespace Go.Proofs.Ytffnkpbogkodbaa.PFnMemNew
open Go.RowKit Go.Proofs.YtffnkpbogkodbaaW.PrintWords Go.Proofs.YtffnkpbogkodbaaW.PrintLast Go.Proofs.YtffnkpbogkodbaaW.PrintMore
open Go.ChangeMaps (setBlock)
set_option linter.unusedVariables false
abbrev T12 : List ByteArray := List.replicate 12 ⟨#[]⟩
abbrev R12 : List Int := List.replicate 12 0
abbrev S5 : List S73 := List.replicate 5 z73
theorem rd_S5 (i : Int) : rd_T73 S5 i = z73 := by
  unfold rd_T73
  rw [List.getD_eq_getElem?_getD]
  by_cases h : i.toNat < 5
  · rw [List.getElem?_eq_getElem (by simpa using h)]; simp
  · rw [List.getElem?_eq_none (by simp; omega)]; rfl
theorem rd_R12 (i : Int) : rd R12 i = 0 := by
  unfold rd
  rw [List.getD_eq_getElem?_getD]
  by_cases h : i.toNat < 12
  · rw [List.getElem?_eq_getElem (by simpa using h)]; simp
  · rw [List.getElem?_eq_none (by simp; omega)]; rfl
theorem pagesOk12 : impl_PagesOk.f 20 T12 R12 = some true := by decide +kernel
theorem mem_pagesOk (A A1 : Option Addr) (c c1 : Nat) (w : World) (h : Kd.C Kd.string w A 12 T12) (hc : 12 ≤ c) (h1 : Kd.C (Kd.int .i64) w A1 12 R12) (hc1 : 12 ≤ c1) :
    Calls Try.prog 35 #[.agg #[.slice A 12 c, .slice A1 12 c1]] w fun e w' => e = .returned (.bool true) ∧ Below w.heap.size w w' := by
  obtain ⟨l, hl⟩ : ∃ l, l = T12 := ⟨_, rfl⟩
  obtain ⟨m, hm⟩ : ∃ m, m = R12 := ⟨_, rfl⟩
  have h8 : l.length = 12 := by rw [hl]; rfl
  have h9 : m.length = 12 := by rw [hm]; rfl
  have hq : impl_PagesOk.f 20 l m = some true := by rw [hl, hm]; exact pagesOk12
  rw [← hl] at h
  rw [← hm] at h1
  clear hl hm
  have H := impl_PagesOk.calls 20 A c l A1 c1 m true w
  rw [h8, h9] at H
  exact H h hc h1 hc1 hq
theorem mem_in (w : World) : Calls Try.prog 28 #[.int .i64 0, .int .i64 0, .int .i64 11] w fun e w' => e = .returned (.bool true) ∧ Drawn0 w w' :=
  impl_in.calls 0 0 11 true w (by decide)
theorem chk3 (x : Int) (e : Bool) (W : World) : (Instr.checkKey e 10000 3 (.int .i64 x)).run Try.prog W = .ok () W := MapKept.run_checkKey Try.underlying3 (by simp [MapKept.IsKey]) e 9999
theorem setAlloc (W : World) (o o' : Obj) : ({ W.alloc o with heap := (W.alloc o).heap.setIfInBounds W.heap.size o' } : World) = W.alloc o' := by
  show ({ W with heap := (W.heap.push o).setIfInBounds W.heap.size o' } : World) = { W with heap := W.heap.push o' }
  have h : (W.heap.push o).setIfInBounds W.heap.size o' = W.heap.push o' := by
    apply Array.ext_getElem?
    intro i
    rw [Array.getElem?_setIfInBounds, Array.getElem?_push, Array.getElem?_push]
    by_cases hi : W.heap.size = i
    · subst hi; simp
    · rw [if_neg hi, if_neg (Ne.symm hi), if_neg (Ne.symm hi)]
  rw [h]
theorem ins1 (W : World) (v : Value) : (Instr.mapUpdate 85 (.map (some W.heap.size)) (.int .i64 1) v).run Try.prog (W.alloc (.map #[] 0)) = .ok () (W.alloc (.map #[⟨.int .i64 1, v, 0⟩] 1)) := by
  have hu := Try.underlying85
  have h3 := Try.underlying3
  have hf := MapKept.run_findKey (w := W.alloc (.map #[] 0)) (k := .int .i64 1) (l := []) (a := none) h3 rfl
  have hs := MapKept.run_setObj_map (P := Try.prog) (w := W.alloc (.map #[] 0)) (.map #[⟨.int .i64 1, v, 0⟩] 1) (heap_alloc_new W _)
  rw [setAlloc] at hs
  unfold Instr.mapUpdate
  simp only [Sem.run_bind, run_underlying hu, Result.andThen, MapKept.run_getObj_map (heap_alloc_new W _), chk3, hf]
  exact hs
theorem ins2 (W : World) (v v1 : Value) : (Instr.mapUpdate 85 (.map (some W.heap.size)) (.int .i64 2) v).run Try.prog (W.alloc (.map #[⟨.int .i64 1, v1, 0⟩] 1)) = .ok () (W.alloc (.map #[⟨.int .i64 1, v1, 0⟩, ⟨.int .i64 2, v, 1⟩] 2)) := by
  have hu := Try.underlying85
  have h3 := Try.underlying3
  have hf := MapKept.run_findKey (w := W.alloc (.map #[⟨.int .i64 1, v1, 0⟩] 1)) (k := .int .i64 2) (l := [⟨.int .i64 1, v1, 0⟩]) (a := none) h3 rfl
  have hs := MapKept.run_setObj_map (P := Try.prog) (w := W.alloc (.map #[⟨.int .i64 1, v1, 0⟩] 1)) (.map #[⟨.int .i64 1, v1, 0⟩, ⟨.int .i64 2, v, 1⟩] 2) (heap_alloc_new W _)
  rw [setAlloc] at hs
  unfold Instr.mapUpdate
  simp only [Sem.run_bind, run_underlying hu, Result.andThen, MapKept.run_getObj_map (heap_alloc_new W _), chk3, hf]
  exact hs
theorem rng2 (W : World) (v v1 : Value) : (Instr.range 85 (.map (some W.heap.size))).run Try.prog (W.alloc (.map #[⟨.int .i64 1, v1, 0⟩, ⟨.int .i64 2, v, 1⟩] 2)) = .ok (.pointer (some ⟨W.heap.size + 1, 0, none⟩)) ((W.alloc (.map #[⟨.int .i64 1, v1, 0⟩, ⟨.int .i64 2, v, 1⟩] 2)).alloc (.mapIter (some W.heap.size) 2 #[] 2)) := by
  have h := run_range_map (P := Try.prog) (W.alloc (.map #[⟨.int .i64 1, v1, 0⟩, ⟨.int .i64 2, v, 1⟩] 2)) 85 3 35 W.heap.size _ _ Try.underlying85 (heap_alloc_new W _)
  simpa using h
theorem look0 (W : World) (gm : Nat) (h : W.heap[gm]? = some (.map #[] 0)) (a b : Int) : (Instr.lookup 75 (.map (some gm)) (.agg #[.int .i64 a, .int .i64 b]) false).run Try.prog W = .ok (.slice none 0 0) W := by
  have hu := Try.underlying75
  have hz : (zeroValue 82).run Try.prog W = .ok (.slice none 0 0) W := by kernel_rfl
  have hc : (Instr.checkKey true 10000 81 (.agg #[.int .i64 a, .int .i64 b])).run Try.prog W = .ok () W := by
    unfold Instr.checkKey
    have p0 : (part 3 #[Value.int .i64 a, Value.int .i64 b] 0).run Try.prog W = .ok (.int .i64 a) W := by kernel_rfl
    have p1 : (part 3 #[Value.int .i64 a, Value.int .i64 b] 1).run Try.prog W = .ok (.int .i64 b) W := by kernel_rfl
    have hs : (sizeOf 3).run Try.prog W = .ok 1 W := by kernel_rfl
    have hk : ∀ x, (Instr.checkKey true 9999 3 (.int .i64 x)).run Try.prog W = .ok () W := fun x => MapKept.run_checkKey Try.underlying3 (by simp [MapKept.IsKey]) true 9998
    simp only [Sem.run_bind, run_underlying Try.underlying81, Result.andThen]
    simp [show List.range' 0 2 = [0, 1] from rfl, p0, p1, hs, hk, Result.andThen]
    done
  have hf : (Instr.findKey 81 (.agg #[.int .i64 a, .int .i64 b]) []).run Try.prog W = .ok none W := by
    simp [Instr.findKey, run_underlying Try.underlying81, Instr.findNow]
  unfold Instr.lookup
  simp only [Sem.run_bind, run_underlying hu, Result.andThen, MapKept.run_getObj_map h]
  simp [hc, hf, hz]
  done
section
variable {P : Program} {ops : Array Oper} {rest : List Oper} {o : Oper} {a : Act} {Q : Exit → Act → World → Prop}
theorem map_event {W : World} (hgd : o.guard = none) {N : Tmp} (_hd : o.dst = some N)
    (hrun : (execOp a.eval o).run P W = .ok (.value (.map (some W.heap.size))) (W.alloc (.map #[] 0)))
    (h : ∀ g, g = W.heap.size → ∀ w1, w1.heap[g]? = some (.map #[] 0) → Below W.heap.size W w1 → wpList P ops Q rest (a.put o.dst (.map (some g))) w1) : wpList P ops Q (o :: rest) a W :=
  Kd.event_run hgd hrun (h _ rfl _ (blk_new W _) (below_alloc (Below.refl _ _) _))
end
theorem at_int {W : World} {A : Option Addr} {n : Nat} {l : List Int} (h : Kd.C (Kd.int .i64) W A n l) (i : Int) (h0 : 0 ≤ i) (h1 : i < n) : ∃ ad, A = some ad ∧ W.cell? (ad.add i.toNat) = some (.int .i64 (rd l i)) := by
  obtain ⟨ad, c, e, _, hK, hc0⟩ := ReadsRow.get_ h (0 : Int) i h0 h1
  have hc : ∀ j u, c[j]? = some u → W.cell? (ad.add (i.toNat * 1 + j)) = some u := hc0
  have hq := hc 0 _ (by rw [show c = [.int .i64 (l.getD i.toNat 0)] from hK]; rfl)
  exact ⟨ad, e, by rwa [Nat.mul_one, Nat.add_zero] at hq⟩
def cnt (seen : Array Nat) : Nat := (!seen.contains 0).toNat + (!seen.contains 1).toNat
theorem cnt_push {v v1 : Value} {seen : Array Nat} {e : MapEntry} (h : e ∈ (leftOf #[⟨.int .i64 1, v1, 0⟩, ⟨.int .i64 2, v, 1⟩] seen).toList) :
    (e = ⟨.int .i64 1, v1, 0⟩ ∨ e = ⟨.int .i64 2, v, 1⟩) ∧ cnt (seen.push e.born) < cnt seen := by
  unfold leftOf at h
  simp only [Array.toList_filter, List.mem_filter, Bool.not_eq_true', List.mem_cons, List.not_mem_nil, or_false] at h
  obtain ⟨h1, h2⟩ := h
  refine ⟨h1, ?_⟩
  unfold cnt
  rcases h1 with rfl | rfl
  · have e0 : (seen.push 0).contains 0 = true := by rw [Array.contains_push]; simp
    have e1 : (seen.push 0).contains 1 = seen.contains 1 := by rw [Array.contains_push]; simp
    show (!(seen.push 0).contains 0).toNat + (!(seen.push 0).contains 1).toNat < _
    rw [e0, e1, show seen.contains 0 = false from h2]
    simp
  · have e0 : (seen.push 1).contains 1 = true := by rw [Array.contains_push]; simp
    have e1 : (seen.push 1).contains 0 = seen.contains 0 := by rw [Array.contains_push]; simp
    show (!(seen.push 1).contains 0).toNat + (!(seen.push 1).contains 1).toNat < _
    rw [e0, e1, show seen.contains 1 = false from h2]
    simp
set_option maxHeartbeats 4000000 in
set_option maxRecDepth 100000 in
theorem mem_Ok (A0 A1 A2 A3 A4 : Option Addr) (c0 c1 c2 c3 c4 : Nat) (w : World) (h0 : Kd.C Kd.string w A0 12 T12) (k0 : 12 ≤ c0) (h1 : Kd.C (Kd.int .i64) w A1 12 R12) (k1 : 12 ≤ c1)
    (h2 : Kd.C Kd.string w A2 12 T12) (k2 : 12 ≤ c2) (h3 : Kd.C (Kd.int .i64) w A3 12 R12) (k3 : 12 ≤ c3) (h4 : Kd.C k73 w A4 5 S5) :
    Calls Try.prog 15 #[.agg #[.slice A0 12 c0, .slice A1 12 c1, .slice A2 12 c2, .slice A3 12 c3, .slice A4 5 c4, .int .i64 0]] w fun e w' => e = .returned (.bool true) ∧ Below w.heap.size w w' := by
  have hu38 := Try.underlying38
  have hu35 := Try.underlying35
  have hu36 := Try.underlying36
  have hu73 := Try.underlying73
  have hu33 := Try.underlying33
  have hu3 := Try.underlying3
  have HP0 := Am (fun W (hb : Below w.heap.size w W) => mem_pagesOk A0 A1 c0 c1 W (cB h0 hb) k0 (cB h1 hb) k1)
  have HP1 := Am (fun W (hb : Below w.heap.size w W) => mem_pagesOk A2 A3 c2 c3 W (cB h2 hb) k2 (cB h3 hb) k3)
  have HI := Am mem_in
  have H1 := Am h1
  have H3 := Am h3
  have H4 := Am h4
  clear h0 h1 h2 h3 h4 k0 k1 k2 k3
  have HB := Am (Below.refl w.heap.size w)
  have km := fun W => run_makeMap (P := Try.prog) 75 W
  have km2 := fun W => run_makeMap (P := Try.prog) 85 W
  go_enter Try.func15, Try.ntmps15
  go_wp2_with (first
    | ((with_reducible refine gate_dst (N := 1) rfl ?_); refine box_event ?hg (N := 1) ?hd (cs := #[.slice A0 12 c0, .slice A1 12 c1, .slice A2 12 c2, .slice A3 12 c3, .slice A4 5 c4, .int .i64 0]) (t := 38) ?hr ?_; (case hd => rfl); (case hg => rfl); (case hr => first | (go_simp; done) | (go_simp; rfl)); intro g1 hg w1 hbox hb; have HB1 := Am (bP HB.out hb); have BK := Am hbox; have q0 : w1.cell? ⟨g1, 0, none⟩ = some (.slice A0 12 c0) := (bC hbox 0).trans rfl; have q1 : w1.cell? ⟨g1, 1, none⟩ = some (.slice A1 12 c1) := (bC hbox 1).trans rfl; have q2 : w1.cell? ⟨g1, 2, none⟩ = some (.slice A2 12 c2) := (bC hbox 2).trans rfl; have q3 : w1.cell? ⟨g1, 3, none⟩ = some (.slice A3 12 c3) := (bC hbox 3).trans rfl; have q4 : w1.cell? ⟨g1, 4, none⟩ = some (.slice A4 5 c4) := (bC hbox 4).trans rfl; have q5 : w1.cell? ⟨g1, 5, none⟩ = some (.int .i64 0) := (bC hbox 5).trans rfl; clear hbox hb hg HB)
    | fail)
  refine (HP0.out _ HB1.out).mono ?_
  rintro e w2 ⟨rfl, hb⟩
  have HB2 := Am (bP HB1.out hb)
  have BK2 := Am (bB BK.out hb)
  clear hb HB1 BK q0 q1 q2 q3 q4 q5
  have q0 : w2.cell? ⟨g1, 0, none⟩ = some (.slice A0 12 c0) := (bC BK2.out 0).trans rfl; have q1 : w2.cell? ⟨g1, 1, none⟩ = some (.slice A1 12 c1) := (bC BK2.out 1).trans rfl; have q2 : w2.cell? ⟨g1, 2, none⟩ = some (.slice A2 12 c2) := (bC BK2.out 2).trans rfl; have q3 : w2.cell? ⟨g1, 3, none⟩ = some (.slice A3 12 c3) := (bC BK2.out 3).trans rfl; have q4 : w2.cell? ⟨g1, 4, none⟩ = some (.slice A4 5 c4) := (bC BK2.out 4).trans rfl; have q5 : w2.cell? ⟨g1, 5, none⟩ = some (.int .i64 0) := (bC BK2.out 5).trans rfl
  go_wp2_with fail
  refine (HP1.out _ HB2.out).mono ?_
  rintro e w3 ⟨rfl, hb⟩
  have HB3 := Am (bP HB2.out hb)
  have BK3 := Am (bB BK2.out hb)
  clear hb HB2 BK2 q0 q1 q2 q3 q4 q5
  have q0 : w3.cell? ⟨g1, 0, none⟩ = some (.slice A0 12 c0) := (bC BK3.out 0).trans rfl; have q1 : w3.cell? ⟨g1, 1, none⟩ = some (.slice A1 12 c1) := (bC BK3.out 1).trans rfl; have q2 : w3.cell? ⟨g1, 2, none⟩ = some (.slice A2 12 c2) := (bC BK3.out 2).trans rfl; have q3 : w3.cell? ⟨g1, 3, none⟩ = some (.slice A3 12 c3) := (bC BK3.out 3).trans rfl; have q4 : w3.cell? ⟨g1, 4, none⟩ = some (.slice A4 5 c4) := (bC BK3.out 4).trans rfl; have q5 : w3.cell? ⟨g1, 5, none⟩ = some (.int .i64 0) := (bC BK3.out 5).trans rfl
  go_wp2_with fail
  refine (HI.out _).mono ?_
  rintro e w4 ⟨rfl, hd⟩
  have HB4 := Am (bP HB3.out hd.below)
  have BK4 := Am (bB BK3.out hd.below)
  clear hd HB3 BK3 q0 q1 q2 q3 q4 q5
  go_wp2_with (first
    | ((with_reducible refine gate_dst (N := 54) rfl ?_); refine map_event ?hg (N := 54) ?hd ?hr ?_; (case hd => rfl); (case hg => rfl); (case hr => first | (go_simp; done) | (go_simp; rfl)); intro gm hg w5 hbox hb; have HB5 := Am (bP HB4.out hb); have BK5 := Am (bB BK4.out hb); have BM5 := Am hbox; have q4 : w5.cell? ⟨g1, 4, none⟩ = some (.slice A4 5 c4) := (bC BK5.out 4).trans rfl; clear hbox hb hg HB4 BK4)
    | fail)
  go_loopg [58] 6 (fun kq v58 w' => ∃ x : Int, v58 = .int .i64 x ∧ Aside0 (0 ≤ x) ∧ Aside0 (x ≤ 5) ∧ Aside0 (5 - x.toNat ≤ kq) ∧ Aside0 (Below w.heap.size w w') ∧ Aside0 (w'.heap[g1]? = some (.cells #[.slice A0 12 c0, .slice A1 12 c1, .slice A2 12 c2, .slice A3 12 c3, .slice A4 5 c4, .int .i64 0] 38 (0, 0))) ∧ Aside0 (w'.heap[gm]? = some (.map #[] 0)))
  case atStart => exact ⟨0, rfl, ⟨by omega⟩, ⟨by omega⟩, ⟨by omega⟩, HB5, BK5, BM5⟩
  case round =>
    clear HB5 BK5 BM5 q4
    obtain ⟨x, rfl, K0, K1, K2, HB, BK, BM⟩ := hrel
    by_cases hlt : x < 5
    · obtain ⟨ad, B1, d1, B2, d2, e, hx0, hx1, hx2, _⟩ := at_T73 (cB H4.out HB.out) x K0.out hlt
      cases e
      rw [rd_S5] at hx0 hx1 hx2
      have f1 : decide (x < 5) = true := decide_eq_true hlt
      have p1 := eq_true K0.out
      have p2 := eq_true hlt
      have p3 := eq_true (show x ≤ 5 by omega)
      have K3 := Am hlt
      clear hlt
      go_wp2
      go_roundg (5 - (x.toNat + 1))
      case measure => have := K2.out; have := K3.out; have := K0.out; omega
      case rel =>
        have h0 := K0.out
        have h3 := K3.out
        have hw : wrap64 (x + 1) = x + 1 := by unfold wrap64; omega
        exact ⟨wrap64 (x + 1), rfl, ⟨by omega⟩, ⟨by omega⟩, ⟨by omega⟩, ⟨by repeat (first | exact HB.out | apply oA)⟩, ⟨bA BK.out _⟩, ⟨bA BM.out _⟩⟩
    · have f1 : decide (x < 5) = false := decide_eq_false hlt
      clear hlt K0 K1 K2
      have q0 : ∀ o, (wr.alloc o).cell? ⟨g1, 0, none⟩ = some (.slice A0 12 c0) := fun o => (bC (bA BK.out o) 0).trans rfl
      have q1 : ∀ o, (wr.alloc o).cell? ⟨g1, 1, none⟩ = some (.slice A1 12 c1) := fun o => (bC (bA BK.out o) 1).trans rfl
      have q2 : ∀ o, (wr.alloc o).cell? ⟨g1, 2, none⟩ = some (.slice A2 12 c2) := fun o => (bC (bA BK.out o) 2).trans rfl
      have q3 : ∀ o, (wr.alloc o).cell? ⟨g1, 3, none⟩ = some (.slice A3 12 c3) := fun o => (bC (bA BK.out o) 3).trans rfl
      have i1 := ins1 wr (.agg #[.slice A0 12 c0, .slice A1 12 c1])
      have i2 := ins2 wr (.agg #[.slice A2 12 c2, .slice A3 12 c3]) (.agg #[.slice A0 12 c0, .slice A1 12 c1])
      have i3 := rng2 wr (.agg #[.slice A2 12 c2, .slice A3 12 c3]) (.agg #[.slice A0 12 c0, .slice A1 12 c1])
      go_wp2
      obtain ⟨W3, hW3⟩ : ∃ W3, (wr.alloc (.map #[⟨.int .i64 1, .agg #[.slice A0 12 c0, .slice A1 12 c1], 0⟩, ⟨.int .i64 2, .agg #[.slice A2 12 c2, .slice A3 12 c3], 1⟩] 2)).alloc (.mapIter (some wr.heap.size) 2 #[] 2) = W3 := ⟨_, rfl⟩
      rw [hW3]
      have hb3 : Below wr.heap.size wr W3 := by rw [← hW3]; exact oA (oA (bJ _ _) _) _
      have BI := Am (show W3.heap[wr.heap.size + 1]? = some (.mapIter (some wr.heap.size) 2 #[] 2) by rw [← hW3]; have := blk_new (wr.alloc (.map #[⟨.int .i64 1, .agg #[.slice A0 12 c0, .slice A1 12 c1], 0⟩, ⟨.int .i64 2, .agg #[.slice A2 12 c2, .slice A3 12 c3], 1⟩] 2)) (.mapIter (some wr.heap.size) 2 #[] 2); simpa using this)
      have BX := Am (show W3.heap[wr.heap.size]? = some (.map #[⟨.int .i64 1, .agg #[.slice A0 12 c0, .slice A1 12 c1], 0⟩, ⟨.int .i64 2, .agg #[.slice A2 12 c2, .slice A3 12 c3], 1⟩] 2) by rw [← hW3]; exact bA (blk_new wr _) _)
      have HB3 := Am (bP HB.out hb3)
      have BM3 := Am (bB BM.out hb3)
      have GI := Am (bZ HB.out)
      have GM := Am (blk_lt BM.out)
      clear hW3 hb3 HB BK BM q0 q1 q2 q3 i1 i2 i3 f1
      generalize wr.heap.size = gx at BI BX GI GM ⊢
      go_loopg [] 3 (fun kq w' => ∃ seen : Array Nat, Aside0 (w'.heap[gx + 1]? = some (.mapIter (some gx) 2 seen 2)) ∧ Aside0 (w'.heap[gx]? = some (.map #[⟨.int .i64 1, .agg #[.slice A0 12 c0, .slice A1 12 c1], 0⟩, ⟨.int .i64 2, .agg #[.slice A2 12 c2, .slice A3 12 c3], 1⟩] 2)) ∧ Aside0 (w'.heap[gm]? = some (.map #[] 0)) ∧ Aside0 (Below w.heap.size w w') ∧ Aside0 (cnt seen ≤ kq))
      case atStart => exact ⟨#[], BI, BX, BM3, HB3, ⟨by simp [cnt]⟩⟩
      case round =>
        clear BI BX BM3 HB3 W3
        obtain ⟨seen, BI, BX, BM, HB, HC⟩ := hrel
        have HG := Am (Nat.lt_succ_of_le GI.out)
        rcases run_next_at (P := Try.prog) wr 0 (gx + 1) gx 2 2 seen _ 2 BI.out BX.out (by simp) (Nat.le_refl _) with ⟨_, hnx⟩ | ⟨en, hen, w1, hw1, hnx⟩
        · go_wp2
          go_ret
          exact ⟨rfl, HB.out⟩
        · obtain ⟨hor, hcnt⟩ := cnt_push hen
          have hBI : w1.heap[gx + 1]? = some (.mapIter (some gx) 2 seen 2) := by rcases hw1 with rfl | rfl <;> exact BI.out
          obtain ⟨W2, hW2⟩ : ∃ W2, setBlock w1 (gx + 1) (.mapIter (some gx) 2 (seen.push en.born) 2) = W2 := ⟨_, rfl⟩
          rw [hW2] at hnx
          have hoth : ∀ i, i ≠ gx + 1 → W2.heap[i]? = wr.heap[i]? := by
            intro i hi
            rw [← hW2]
            have : (setBlock w1 (gx + 1) (.mapIter (some gx) 2 (seen.push en.born) 2)).heap[i]? = w1.heap[i]? := by
              show (w1.heap.setIfInBounds _ _)[i]? = _
              rw [Array.getElem?_setIfInBounds, if_neg (fun e => hi e.symm)]
            rw [this]
            rcases hw1 with rfl | rfl <;> rfl
          have hself : W2.heap[gx + 1]? = some (.mapIter (some gx) 2 (seen.push en.born) 2) := by
            rw [← hW2]
            show (w1.heap.setIfInBounds _ _)[gx + 1]? = _
            rw [Array.getElem?_setIfInBounds, if_pos rfl, if_pos (blk_lt hBI)]
          have hbel : Below w.heap.size w W2 := by
            refine ⟨?_, ?_, ?_, ?_, fun k hk => ?_⟩
            · rw [← hW2]; rcases hw1 with rfl | rfl <;> exact HB.out.os
            · rw [← hW2]; rcases hw1 with rfl | rfl <;> exact HB.out.tape
            · rw [← hW2]; rcases hw1 with rfl | rfl <;> exact HB.out.output
            · rw [← hW2]; show w.heap.size ≤ (w1.heap.setIfInBounds _ _).size; rw [Array.size_setIfInBounds]; rcases hw1 with rfl | rfl <;> exact HB.out.size
            · rw [hoth k (by have := HG.out; omega)]; exact HB.out.block k hk
          have BI2 := Am hself
          have BX2 := Am ((hoth gx (by omega)).trans BX.out)
          have BM2 := Am ((hoth gm (by have := GM.out; omega)).trans BM.out)
          have HB2 := Am hbel
          have HC2 := Am (Nat.le_trans hcnt HC.out)
          have hent := run_entry_at (P := Try.prog) W2 (gx + 1) gx 2 seen _ 2 en BI2.out BX2.out (by rcases hor with rfl | rfl <;> simp) (by simp)
          have hval : ∃ (At Ar : Option Addr) (ct cr : Nat) (kk : Int), en.key = .int .i64 kk ∧ en.val = .agg #[.slice At 12 ct, .slice Ar 12 cr] ∧ Kd.C (Kd.int .i64) w Ar 12 R12 := by
            rcases hor with rfl | rfl
            · exact ⟨_, _, _, _, _, rfl, rfl, H1.out⟩
            · exact ⟨_, _, _, _, _, rfl, rfl, H3.out⟩
          obtain ⟨At, Ar, ct, cr, kk, hk, hv, hR⟩ := hval
          rw [hk, hv] at hnx hent
          have HR := Am hR
          generalize en.born = bn at BI2 HC2
          clear hR hk hv hor hen hcnt hBI hW2 hoth hself hbel hw1 BI BX BM HB HC HG en w1
          go_wp2
          obtain ⟨Wb, hWb⟩ : ∃ Wb, W2.alloc (.cells #[.slice At 12 ct, .slice Ar 12 cr] 35 (0, 0)) = Wb := ⟨_, rfl⟩
          rw [hWb]
          have hbb : Below W2.heap.size W2 Wb := by rw [← hWb]; exact oA (bJ _ _) _
          have BIb := Am (bB BI2.out hbb)
          have BXb := Am (bB BX2.out hbb)
          have BMb := Am (bB BM2.out hbb)
          have HBb := Am (bP HB2.out hbb)
          clear hbb hWb BI2 BX2 BM2 HB2 hent
          go_loopg [178] 13 (fun kq v178 w' => ∃ x : Int, v178 = .int .i64 x ∧ Aside0 (0 ≤ x) ∧ Aside0 (x ≤ 12) ∧ Aside0 (12 - x.toNat ≤ kq) ∧ Aside0 (w' = Wb))
          case atStart => exact ⟨0, rfl, ⟨by omega⟩, ⟨by omega⟩, ⟨by omega⟩, ⟨rfl⟩⟩
          case round =>
            obtain ⟨x, rfl, K0, K1, K2, KW⟩ := hrel
            obtain rfl := KW.out
            have hlook := fun a b => look0 wr gm BMb.out a b
            by_cases hlt : x < 12
            · obtain ⟨ad, e, hx0⟩ := at_int (cB HR.out HBb.out) x K0.out hlt
              cases e
              rw [rd_R12] at hx0
              have f1 : decide (x < 12) = true := decide_eq_true hlt
              have p1 := eq_true K0.out
              have p2 := eq_true hlt
              have p3 := eq_true (show x ≤ 12 by omega)
              have K3 := Am hlt
              clear hlt
              go_wp2
              refine wp_loop_rounds 1 ?_
              rw [rounds_succ]
              go_wp2
              go_roundg (12 - (x.toNat + 1))
              case measure => have := K2.out; have := K3.out; have := K0.out; omega
              case rel =>
                have h0 := K0.out
                have h3 := K3.out
                have hw : wrap64 (x + 1) = x + 1 := by unfold wrap64; omega
                exact ⟨wrap64 (x + 1), rfl, ⟨by omega⟩, ⟨by omega⟩, ⟨by omega⟩, ⟨rfl⟩⟩
            · have f1 : decide (x < 12) = false := decide_eq_false hlt
              clear hlt K0 K1 K2
              go_wp2
              go_roundg (cnt (seen.push bn))
              case measure => exact HC2.out
              case rel => exact ⟨_, BIb, BXb, BMb, HBb, ⟨Nat.le_refl _⟩⟩
end Go.Proofs.Ytffnkpbogkodbaa.PFnMemNew
