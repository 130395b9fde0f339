/- Proved here, without a condition beyond those that each theorem states: impl.MemMake at a new memory makes space 0. -/
import Derived.Test.YtffnkpbogkodbaaTMemB
import Derived.Deep.RegionHeld3
namespace Go.Proofs.Ytffnkpbogkodbaa.PFnMemNew
open Go.RowKit Go.Proofs.YtffnkpbogkodbaaW.PrintWords Go.Proofs.YtffnkpbogkodbaaW.PrintLast Go.Proofs.YtffnkpbogkodbaaW.PrintMore
set_option linter.unusedVariables false
attribute [local go_sem ↓] isSome_setCell_
theorem clone12 : impl_Mem_clone.f 20 T12 R12 T12 R12 S5 0 = some (T12, R12, T12, R12, S5, 0) := by kernel_rfl
theorem mem_clone (A0 A1 A2 A3 A4 : Option Addr) (c0 c1 c2 c3 c4 : Nat) (w : World) (h0 : Kd.C Kd.string w A0 12 T12) (k0 : 12 ≤ c0) (h1 : Kd.C (Kd.int .i64) w A1 12 R12) (k1 : 12 ≤ c1)
    (h2 : Kd.C Kd.string w A2 12 T12) (k2 : 12 ≤ c2) (h3 : Kd.C (Kd.int .i64) w A3 12 R12) (k3 : 12 ≤ c3) (h4 : Kd.C k73 w A4 5 S5) (k4 : 5 ≤ c4) :
    Calls Try.prog 34 #[.agg #[.slice A0 12 c0, .slice A1 12 c1, .slice A2 12 c2, .slice A3 12 c3, .slice A4 5 c4, .int .i64 0]] w fun e w' => ∃ (B0 B1 B2 B3 : Option Addr) (d0 d1 d2 d3 gb d4 : Nat), e = .returned (.agg #[.slice B0 12 d0, .slice B1 12 d1, .slice B2 12 d2, .slice B3 12 d3, .slice (some ⟨gb, 0, none⟩) 5 d4, .int .i64 0]) ∧ Kd.R k73 73 w' w.heap.size (fun _ => True) (.slice (some ⟨gb, 0, none⟩) 5 d4) S5 ∧ Below w.heap.size w w' := by
  have H : ∀ (l0 : List ByteArray) (l1 : List Int) (l4 : List S73), l0 = T12 → l1 = R12 → l4 = S5 → Calls Try.prog 34 #[.agg #[.slice A0 l0.length c0, .slice A1 l1.length c1, .slice A2 l0.length c2, .slice A3 l1.length c3, .slice A4 l4.length c4, .int .i64 0]] w fun e w' => ∃ v0_ v1_ v2_ v3_ v4_ : Value, e = .returned (.agg #[v0_, v1_, v2_, v3_, v4_, .int .i64 0]) ∧ Kd.R Kd.string 9 w' w.heap.size (fun k_ => some k_ ≠ (v2_ : Value).ownBlock) v0_ l0 ∧ Kd.R (Kd.int .i64) 3 w' w.heap.size (fun k_ => some k_ ≠ (v3_ : Value).ownBlock) v1_ l1 ∧ Kd.R Kd.string 9 w' w.heap.size (fun k_ => some k_ ≠ (v0_ : Value).ownBlock) v2_ l0 ∧ Kd.R (Kd.int .i64) 3 w' w.heap.size (fun k_ => some k_ ≠ (v1_ : Value).ownBlock) v3_ l1 ∧ Kd.S k73 73 w' w.heap.size (fun _ => True) v4_ l4 ∧ Below w.heap.size w w' := by
    intro l0 l1 l4 e0 e1 e4
    have n0 : l0.length = 12 := by rw [e0]; rfl
    have n1 : l1.length = 12 := by rw [e1]; rfl
    have n4 : l4.length = 5 := by rw [e4]; rfl
    have hq : impl_Mem_clone.f 20 l0 l1 l0 l1 l4 0 = some (l0, l1, l0, l1, l4, 0) := by rw [e0, e1, e4]; exact clone12
    rw [← e0] at h0 h2
    rw [← e1] at h1 h3
    rw [← e4] at h4
    clear e0 e1 e4
    exact impl_Mem_clone.calls 20 A0 c0 l0 A1 c1 l1 A2 c2 l0 A3 c3 l1 A4 c4 l4 0 l0 l1 l0 l1 l4 0 w (by rw [n0]; exact h0) (by omega) (by rw [n1]; exact h1) (by omega) (by rw [n0]; exact h2) (by omega) (by rw [n1]; exact h3) (by omega) (by rw [n4]; exact h4) (by omega) hq
  have H2 := H T12 R12 S5 rfl rfl rfl
  simp only [List.length_replicate] at H2
  refine H2.mono ?_
  rintro e w' ⟨v0, v1, v2, v3, v4, rfl, r0, r1, r2, r3, r4, hb⟩
  obtain ⟨B0, d0, rfl, _⟩ := Kd.R_reads r0
  obtain ⟨B1, d1, rfl, _⟩ := Kd.R_reads r1
  obtain ⟨B2, d2, rfl, _⟩ := Kd.R_reads r2
  obtain ⟨B3, d3, rfl, _⟩ := Kd.R_reads r3
  have r5 := Kd.S_R r4
  obtain ⟨A, c, e, _⟩ := Kd.R_reads r5
  obtain ⟨inner, hown⟩ := Kd.R_own r5
  rcases hown.2 with ⟨hv, _⟩ | ⟨g, cap, cur, hv, _⟩
  · rw [e] at hv; cases hv
  · simp only [List.length_replicate] at hv
    subst hv
    simp only [List.length_replicate]
    exact ⟨B0, B1, B2, B3, d0, d1, d2, d3, g, cap, rfl, r5, hb⟩
theorem mk16 : ∃ M, ∀ W : World, (Instr.makeSlice 71 (.int .i64 16) (.int .i64 16)).run Try.prog W = .ok (.slice (some ⟨W.heap.size, 0, none⟩) 16 16) (W.alloc (.cells M 78)) := by
  have h3 : (Try.prog.info? 78).map (fun i => (i.zero, i.size, i.bytes)) = some (some (.agg #[.int .i64 0, .int .i64 0, .bool false, .bool false]), 4, 24) := by kernel_rfl
  cases hi : Try.prog.info? 78 with
  | none => rw [hi] at h3; cases h3
  | some i =>
    rw [hi] at h3
    injection h3 with h3
    injection h3 with hz h3
    injection h3 with hs hb
    refine ⟨madeCells (Value.agg #[.int .i64 0, .int .i64 0, .bool false, .bool false]).cells ((16 : Int).toNat * i.size), fun W => ?_⟩
    exact run_makeSlice W 71 78 i _ Try.underlying71 hi hz .i64 .i64 16 16 (by decide) (by decide) (by rw [hs]; decide) (by rw [hb]; decide) (by decide)
abbrev SS (w : World) (g5 g1 : Nat) (v0 v1 v2 v3 v4 v5 u0 u1 u2 u3 u4 u5 : Value) (Q : World → Prop) (W : World) : Prop :=
  Below w.heap.size w W ∧ W.cell? ⟨g5, 0, none⟩ = some v0 ∧ W.cell? ⟨g5, 1, none⟩ = some v1 ∧ W.cell? ⟨g5, 2, none⟩ = some v2 ∧ W.cell? ⟨g5, 3, none⟩ = some v3 ∧ W.cell? ⟨g5, 4, none⟩ = some v4 ∧ W.cell? ⟨g5, 5, none⟩ = some v5 ∧ W.cell? ⟨g1, 0, none⟩ = some u0 ∧ W.cell? ⟨g1, 1, none⟩ = some u1 ∧ W.cell? ⟨g1, 2, none⟩ = some u2 ∧ W.cell? ⟨g1, 3, none⟩ = some u3 ∧ W.cell? ⟨g1, 4, none⟩ = some u4 ∧ W.cell? ⟨g1, 5, none⟩ = some u5 ∧ Q W
section
variable {w W W' : World} {gb g5 g1 : Nat} {v0 v1 v2 v3 v4 v5 u0 u1 u2 u3 u4 u5 : Value} {Q : World → Prop}
theorem frz_below (hb : Below W.heap.size W W') {a : Addr} {x : Value} (h : W.cell? a = some x) (hf : W.frozen? a = false) : W'.frozen? a = false := by
  rw [hb.frozen (World.block_lt_of_cell? W a h)]; exact hf
theorem SS.step (hQ : ∀ {W W'}, Below W.heap.size W W' → Q W → Q W') (hb : Below W.heap.size W W') (h : SS w g5 g1 v0 v1 v2 v3 v4 v5 u0 u1 u2 u3 u4 u5 Q W) : SS w g5 g1 v0 v1 v2 v3 v4 v5 u0 u1 u2 u3 u4 u5 Q W' := by
  obtain ⟨h0, a0, a1, a2, a3, a4, a5, a6, a7, a8, a9, a10, a11, hq⟩ := h
  exact ⟨bP h0 hb, pw_cell_below hb a0, pw_cell_below hb a1, pw_cell_below hb a2, pw_cell_below hb a3, pw_cell_below hb a4, pw_cell_below hb a5, pw_cell_below hb a6, pw_cell_below hb a7, pw_cell_below hb a8, pw_cell_below hb a9, pw_cell_below hb a10, pw_cell_below hb a11, hQ hb hq⟩
theorem SS.set (hQ : ∀ {W : World} {j : Nat} {u : Value}, Q W → Q (W.setCell ⟨gb, j, none⟩ u)) (hg : w.heap.size ≤ gb) (n5 : g5 ≠ gb) (n1 : g1 ≠ gb) (j : Nat) (u : Value) (h : SS w g5 g1 v0 v1 v2 v3 v4 v5 u0 u1 u2 u3 u4 u5 Q W) : SS w g5 g1 v0 v1 v2 v3 v4 v5 u0 u1 u2 u3 u4 u5 Q (W.setCell ⟨gb, j, none⟩ u) := by
  obtain ⟨h0, a0, a1, a2, a3, a4, a5, a6, a7, a8, a9, a10, a11, hq⟩ := h
  exact ⟨bS h0 hg, (cell_far n5 u).trans a0, (cell_far n5 u).trans a1, (cell_far n5 u).trans a2, (cell_far n5 u).trans a3, (cell_far n5 u).trans a4, (cell_far n5 u).trans a5, (cell_far n1 u).trans a6, (cell_far n1 u).trans a7, (cell_far n1 u).trans a8, (cell_far n1 u).trans a9, (cell_far n1 u).trans a10, (cell_far n1 u).trans a11, hQ hq⟩
end
theorem SS.far {w W W1 : World} {g g5 g1 : Nat} {v0 v1 v2 v3 v4 v5 u0 u1 u2 u3 u4 u5 : Value} (hb : Below w.heap.size w W1) (hf : ∀ k, k ≠ g → W1.heap[k]? = W.heap[k]?) (n5 : g5 ≠ g) (n1 : g1 ≠ g)
    (h : SS w g5 g1 v0 v1 v2 v3 v4 v5 u0 u1 u2 u3 u4 u5 (fun _ => True) W) : SS w g5 g1 v0 v1 v2 v3 v4 v5 u0 u1 u2 u3 u4 u5 (fun _ => True) W1 := by
  obtain ⟨h0, a0, a1, a2, a3, a4, a5, a6, a7, a8, a9, a10, a11, hq⟩ := h
  have e5 : ∀ j, W1.cell? ⟨g5, j, none⟩ = W.cell? ⟨g5, j, none⟩ := fun j => by simp [World.cell?, hf g5 n5]
  have e1 : ∀ j, W1.cell? ⟨g1, j, none⟩ = W.cell? ⟨g1, j, none⟩ := fun j => by simp [World.cell?, hf g1 n1]
  exact ⟨hb, (e5 0).trans a0, (e5 1).trans a1, (e5 2).trans a2, (e5 3).trans a3, (e5 4).trans a4, (e5 5).trans a5, (e1 0).trans a6, (e1 1).trans a7, (e1 2).trans a8, (e1 3).trans a9, (e1 4).trans a10, (e1 5).trans a11, trivial⟩
section
variable {P : Program} {ops : Array Oper} {o : Oper} {a : Act} {Q : Exit → Act → World → Prop} {Kc : Act → World → Prop}
/-- A struct is stored whole into a box: one step of a region. -/
theorem boxput_step {W : World} (hw : Region.wanted o (yielded ops a.tmps) = true) (hN : o.dst = none) (t : TypeId) (p x : Operand) (ho : o.op = .store t p x) {g : Nat} {e : TypeId} {cur : Array Value} {seg : List Value} {u : Value}
    (haddr : a.eval p = .pointer (some ⟨g, 0, none⟩)) (hx : a.eval x = u) (hu : u.cells.toList = seg) (ht : (P.info? t).map (·.size) = some seg.length) (h1 : ∀ q ∈ seg, q.oneCell' = true) (hh : W.heap[g]? = some (.cells cur e (0, 0))) (hfit : seg.length = cur.size)
    (h : ∀ W1, W1.heap[g]? = some (.cells seg.toArray e (0, 0)) → (∀ k, k ≠ g → W1.heap[k]? = W.heap[k]?) → (∀ w : World, Below w.heap.size w W → w.heap.size ≤ g → Below w.heap.size w W1) → Kc a W1) :
    if Region.wanted o (yielded ops a.tmps) = true then Oper.wp P o a W Kc Q else Kc (a.put o.dst undef) W := by
  rw [if_pos hw]
  have hrun : (Instr.storeAt t (.pointer (some ⟨g, 0, none⟩)) u).run P W = .ok () (W.setCells g 0 seg) := run_store_run t u seg hh hu ht (by omega) h1
  unfold Oper.wp execOp
  simp only [ho, haddr, hx, Sem.run_bind, Sem.run_pure, Result.andThen_ok, hrun]
  show Kc (a.put o.dst undef) _
  rw [hN]
  obtain ⟨cur', h3, h4, h5⟩ := setCells_row seg 0 W cur hh (by omega)
  obtain ⟨s1, s2, s3, s4⟩ := setCells_same g seg 0 W
  have hfar : ∀ k', k' ≠ g → (W.setCells g 0 seg).heap[k']? = W.heap[k']? := fun k' hk' => setCells_far seg _ k' hk'
  have e1 : cur' = seg.toArray := by
    apply Array.toList_inj.1
    rw [h5]
    simp
    omega
  subst e1
  exact h _ h3 hfar (fun w hb hg => ⟨s1.trans hb.os, s2.trans hb.tape, s3.trans hb.output, by rw [s4]; exact hb.size, fun k hk => (hfar k (by omega)).trans (hb.block k hk)⟩)
end
set_option maxHeartbeats 4000000 in
set_option maxRecDepth 100000 in
theorem mem_Make (A0 A1 A2 A3 A4 : Option Addr) (c0 c1 c2 c3 c4 : Nat) (w : World) (h0 : Kd.C Kd.string w A0 12 T12) (k0 : 12 ≤ c0) (h1 : Kd.C (Kd.int .i64) w A1 12 R12) (k1 : 12 ≤ c1)
    (h2 : Kd.C Kd.string w A2 12 T12) (k2 : 12 ≤ c2) (h3 : Kd.C (Kd.int .i64) w A3 12 R12) (k3 : 12 ≤ c3) (h4 : Kd.C k73 w A4 5 S5) (k4 : 5 ≤ c4) :
    Calls Try.prog 14 #[.agg #[.slice A0 12 c0, .slice A1 12 c1, .slice A2 12 c2, .slice A3 12 c3, .slice A4 5 c4, .int .i64 0]] w fun e w' => ∃ (B0 B1 B2 B3 : Option Addr) (d0 d1 d2 d3 gb d4 : Nat), e = .returned (.tuple #[.agg #[.slice B0 12 d0, .slice B1 12 d1, .slice B2 12 d2, .slice B3 12 d3, .slice (some ⟨gb, 0, none⟩) 5 d4, .int .i64 0], .int .i64 0, .bool true]) ∧ Below w.heap.size w w' := by
  have hu38 := Try.underlying38
  have hu36 := Try.underlying36
  have hu73 := Try.underlying73
  have hu71 := Try.underlying71
  have HO := Am (fun W (hb : Below w.heap.size w W) => mem_Ok A0 A1 A2 A3 A4 c0 c1 c2 c3 c4 W (cB h0 hb) k0 (cB h1 hb) k1 (cB h2 hb) k2 (cB h3 hb) k3 (cB h4 hb))
  have HS := Am (fun W (hb : Below w.heap.size w W) => mem_spare A0 A1 A2 A3 A4 c0 c1 c2 c3 c4 W (cB h4 hb))
  have HC := Am (fun W (hb : Below w.heap.size w W) => mem_clone A0 A1 A2 A3 A4 c0 c1 c2 c3 c4 W (cB h0 hb) k0 (cB h1 hb) k1 (cB h2 hb) k2 (cB h3 hb) k3 (cB h4 hb) k4)
  clear h0 h1 h2 h3 h4 k0 k1 k2 k3 k4
  obtain ⟨M16, ks⟩ := mk16
  have HB := Am (Below.refl w.heap.size w)
  go_enter Try.func14, Try.ntmps14
  go_wp2_with (first
    | ((with_reducible refine gate_dst (N := 1) rfl ?_); refine box_event ?hg (N := 1) ?hd (cs := #[.slice A0 12 c0, .slice A1 12 c1, .slice A2 12 c2, .slice A3 12 c3, .slice A4 5 c4, .int .i64 0]) (t := 38) ?hr ?_; (case hd => rfl); (case hg => rfl); (case hr => first | (go_simp; done) | (go_simp; rfl)); intro g1 hg w1 hbox hb; have HB1 := Am (bP HB.out hb); have BK1 := Am hbox; clear hbox hb hg HB)
    | ((with_reducible refine gate_dst (N := 2) rfl ?_); refine box_event ?hg (N := 2) ?hd (cs := #[.slice none 0 0, .slice none 0 0, .slice none 0 0, .slice none 0 0, .slice none 0 0, .int .i64 0]) (t := 38) ?hr ?_; (case hd => rfl); (case hg => rfl); (case hr => first | (go_simp; done) | (go_simp; rfl)); intro g2 hg w2 hbox hb; have G2 := Am (show w.heap.size ≤ g2 by rw [hg]; exact bZ HB1.out); have HB2 := Am (bP HB1.out hb); have BK2 := Am (bB BK1.out hb); have BR2 := Am hbox; have N12 := Am (show g1 ≠ g2 by rw [hg]; exact Nat.ne_of_lt (blk_lt BK1.out)); clear hbox hb hg HB1 BK1; have q0 : w2.cell? ⟨g1, 0, none⟩ = some (.slice A0 12 c0) := (bC BK2.out 0).trans rfl; have q1 : w2.cell? ⟨g1, 1, none⟩ = some (.slice A1 12 c1) := (bC BK2.out 1).trans rfl; have q2 : w2.cell? ⟨g1, 2, none⟩ = some (.slice A2 12 c2) := (bC BK2.out 2).trans rfl; have q3 : w2.cell? ⟨g1, 3, none⟩ = some (.slice A3 12 c3) := (bC BK2.out 3).trans rfl; have q4 : w2.cell? ⟨g1, 4, none⟩ = some (.slice A4 5 c4) := (bC BK2.out 4).trans rfl; have q5 : w2.cell? ⟨g1, 5, none⟩ = some (.int .i64 0) := (bC BK2.out 5).trans rfl)
    | fail)
  refine (HO.out _ HB2.out).mono ?_
  rintro e w3 ⟨rfl, hb⟩
  have HB3 := Am (bP HB2.out hb)
  have BK3 := Am (bB BK2.out hb)
  have BR3 := Am (bB BR2.out hb)
  clear hb HB2 BK2 BR2 q0 q1 q2 q3 q4 q5
  have q0 : w3.cell? ⟨g1, 0, none⟩ = some (.slice A0 12 c0) := (bC BK3.out 0).trans rfl; have q1 : w3.cell? ⟨g1, 1, none⟩ = some (.slice A1 12 c1) := (bC BK3.out 1).trans rfl; have q2 : w3.cell? ⟨g1, 2, none⟩ = some (.slice A2 12 c2) := (bC BK3.out 2).trans rfl; have q3 : w3.cell? ⟨g1, 3, none⟩ = some (.slice A3 12 c3) := (bC BK3.out 3).trans rfl; have q4 : w3.cell? ⟨g1, 4, none⟩ = some (.slice A4 5 c4) := (bC BK3.out 4).trans rfl; have q5 : w3.cell? ⟨g1, 5, none⟩ = some (.int .i64 0) := (bC BK3.out 5).trans rfl
  go_wp2_with fail
  refine (HS.out _ HB3.out).mono ?_
  rintro e w4 ⟨rfl, hb⟩
  have HB4 := Am (bP HB3.out hb)
  have BK4 := Am (bB BK3.out hb)
  have BR4 := Am (bB BR3.out hb)
  clear hb HB3 BK3 BR3 q0 q1 q2 q3 q4 q5
  have q0 : w4.cell? ⟨g1, 0, none⟩ = some (.slice A0 12 c0) := (bC BK4.out 0).trans rfl; have q1 : w4.cell? ⟨g1, 1, none⟩ = some (.slice A1 12 c1) := (bC BK4.out 1).trans rfl; have q2 : w4.cell? ⟨g1, 2, none⟩ = some (.slice A2 12 c2) := (bC BK4.out 2).trans rfl; have q3 : w4.cell? ⟨g1, 3, none⟩ = some (.slice A3 12 c3) := (bC BK4.out 3).trans rfl; have q4 : w4.cell? ⟨g1, 4, none⟩ = some (.slice A4 5 c4) := (bC BK4.out 4).trans rfl; have q5 : w4.cell? ⟨g1, 5, none⟩ = some (.int .i64 0) := (bC BK4.out 5).trans rfl
  go_wp2_with fail
  refine (HC.out _ HB4.out).mono ?_
  rintro e w5 ⟨B0, B1, B2, B3, d0, d1, d2, d3, gb, d4, rfl, hR, hb⟩
  have HB5 := Am (bP HB4.out hb)
  have BK5 := Am (bB BK4.out hb)
  have BR5 := Am (bB BR4.out hb)
  have GB := Am (Nat.le_trans (bZ HB4.out) (own_base hR.2.choose_spec.1 gb (by simp [Value.ownBlock])))
  have N1 := Am (show g1 ≠ gb from Nat.ne_of_lt (Nat.lt_of_lt_of_le (blk_lt BK4.out) (own_base hR.2.choose_spec.1 gb (by simp [Value.ownBlock]))))
  have N2 := Am (show g2 ≠ gb from Nat.ne_of_lt (Nat.lt_of_lt_of_le (blk_lt BR4.out) (own_base hR.2.choose_spec.1 gb (by simp [Value.ownBlock]))))
  have HR5 := Am hR
  clear hb hR HB4 BK4 BR4 q0 q1 q2 q3 q4 q5
  go_wp2_with (first
    | ((with_reducible refine gate_dst (N := 5) rfl ?_); refine box_event ?hg (N := 5) ?hd (cs := #[.slice none 0 0, .slice none 0 0, .slice none 0 0, .slice none 0 0, .slice none 0 0, .int .i64 0]) (t := 38) ?hr ?_; (case hd => rfl); (case hg => rfl); (case hr => first | (go_simp; done) | (go_simp; rfl)); intro g5 hg w6 hbox hb; have HG5 := Am hg; have HX := Am hbox; have HY := Am hb; have z0 := (bC hbox 0).trans rfl; have z1 := (bC hbox 1).trans rfl; have z2 := (bC hbox 2).trans rfl; have z3 := (bC hbox 3).trans rfl; have z4 := (bC hbox 4).trans rfl; have z5 := (bC hbox 5).trans rfl; have zf0 := bF hbox 0; have zf1 := bF hbox 1; have zf2 := bF hbox 2; have zf3 := bF hbox 3; have zf4 := bF hbox 4; have zf5 := bF hbox 5; clear hbox hb hg)
    | fail)
  have hge : w5.heap.size ≤ g5 := by rw [HG5.out]; exact Nat.le_refl _
  have hb6 := (bS (bS (bS (bS (bS (bS HY.out hge (j := 0) (v := .slice B0 12 d0)) hge (j := 1) (v := .slice B1 12 d1)) hge (j := 2) (v := .slice B2 12 d2)) hge (j := 3) (v := .slice B3 12 d3)) hge (j := 4) (v := .slice (some ⟨gb, 0, none⟩) 5 d4)) hge (j := 5) (v := .int .i64 0))
  have hx6 := (blk_put (blk_put (blk_put (blk_put (blk_put (blk_put HX.out 0 (.slice B0 12 d0) (cs' := #[.slice B0 12 d0, .slice none 0 0, .slice none 0 0, .slice none 0 0, .slice none 0 0, .int .i64 0]) rfl) 1 (.slice B1 12 d1) (cs' := #[.slice B0 12 d0, .slice B1 12 d1, .slice none 0 0, .slice none 0 0, .slice none 0 0, .int .i64 0]) rfl) 2 (.slice B2 12 d2) (cs' := #[.slice B0 12 d0, .slice B1 12 d1, .slice B2 12 d2, .slice none 0 0, .slice none 0 0, .int .i64 0]) rfl) 3 (.slice B3 12 d3) (cs' := #[.slice B0 12 d0, .slice B1 12 d1, .slice B2 12 d2, .slice B3 12 d3, .slice none 0 0, .int .i64 0]) rfl) 4 (.slice (some ⟨gb, 0, none⟩) 5 d4) (cs' := #[.slice B0 12 d0, .slice B1 12 d1, .slice B2 12 d2, .slice B3 12 d3, .slice (some ⟨gb, 0, none⟩) 5 d4, .int .i64 0]) rfl) 5 (.int .i64 0) (cs' := #[.slice B0 12 d0, .slice B1 12 d1, .slice B2 12 d2, .slice B3 12 d3, .slice (some ⟨gb, 0, none⟩) 5 d4, .int .i64 0]) rfl)
  obtain ⟨W6, hW6⟩ : ∃ W6, ((((((w6.setCell ⟨g5, 0, none⟩ (.slice B0 12 d0)).setCell ⟨g5, 1, none⟩ (.slice B1 12 d1)).setCell ⟨g5, 2, none⟩ (.slice B2 12 d2)).setCell ⟨g5, 3, none⟩ (.slice B3 12 d3)).setCell ⟨g5, 4, none⟩ (.slice (some ⟨gb, 0, none⟩) 5 d4)).setCell ⟨g5, 5, none⟩ (.int .i64 0)) = W6 := ⟨_, rfl⟩
  rw [hW6] at hb6 hx6 ⊢
  have N5 := Am (show g5 ≠ gb from fun e => by have := own_lt HR5.out.2.choose_spec.1 gb (by simp [Value.ownBlock]); omega)
  obtain ⟨cs, hlen, hM, hcell, hfz⟩ := Kd.R_elem (rB HR5.out hb6) z73 0 (by decide) (by decide)
  have hlen3 : cs.length = 3 := hlen
  obtain ⟨x0, x1, x2, hcs⟩ : ∃ x0 x1 x2, cs = [x0, x1, x2] := by
    match cs, hlen3 with
    | [a, b, c], _ => exact ⟨a, b, c, rfl⟩
  subst hcs
  have N52 := Am (show g5 ≠ g2 from by rw [HG5.out]; exact Nat.ne_of_gt (blk_lt BR5.out))
  have HB6 := Am (bP HB5.out hb6)
  have BK6 := Am (bB BK5.out hb6)
  have BR6 := Am (bB BR5.out hb6)
  have BX6 := Am hx6
  have HSS : Aside0 (SS w g5 g1 (.slice B0 12 d0) (.slice B1 12 d1) (.slice B2 12 d2) (.slice B3 12 d3) (.slice (some ⟨gb, 0, none⟩) 5 d4) (.int .i64 0) (.slice A0 12 c0) (.slice A1 12 c1) (.slice A2 12 c2) (.slice A3 12 c3) (.slice A4 5 c4) (.int .i64 0) (fun W => W.heap[g2]? = some (.cells #[.slice none 0 0, .slice none 0 0, .slice none 0 0, .slice none 0 0, .slice none 0 0, .int .i64 0] 38 (0, 0))) W6) :=
    ⟨HB6.out, (bC hx6 0).trans rfl, (bC hx6 1).trans rfl, (bC hx6 2).trans rfl, (bC hx6 3).trans rfl, (bC hx6 4).trans rfl, (bC hx6 5).trans rfl, (bC BK6.out 0).trans rfl, (bC BK6.out 1).trans rfl, (bC BK6.out 2).trans rfl, (bC BK6.out 3).trans rfl, (bC BK6.out 4).trans rfl, (bC BK6.out 5).trans rfl, BR6.out⟩
  have hQ : ∀ {W W' : World}, Below W.heap.size W W' → (fun W => W.heap[g2]? = some (.cells #[.slice none 0 0, .slice none 0 0, .slice none 0 0, .slice none 0 0, .slice none 0 0, .int .i64 0] 38 (0, 0))) W → (fun W => W.heap[g2]? = some (.cells #[.slice none 0 0, .slice none 0 0, .slice none 0 0, .slice none 0 0, .slice none 0 0, .int .i64 0] 38 (0, 0))) W' := fun hb h => bB h hb
  have hQ2 : ∀ {W : World} {j : Nat} {u : Value}, (fun W => W.heap[g2]? = some (.cells #[.slice none 0 0, .slice none 0 0, .slice none 0 0, .slice none 0 0, .slice none 0 0, .int .i64 0] 38 (0, 0))) W → (fun W => W.heap[g2]? = some (.cells #[.slice none 0 0, .slice none 0 0, .slice none 0 0, .slice none 0 0, .slice none 0 0, .int .i64 0] 38 (0, 0))) (W.setCell ⟨gb, j, none⟩ u) := fun h => blk_far h (p := ⟨gb, _, none⟩) N2.out _
  have HQ := Am (@hQ)
  have HQ2 := Am (@hQ2)
  clear hQ hQ2
  have hg0 : W6.cell? ⟨gb, 0, none⟩ = some x0 := hcell 0 x0 rfl
  have hg1 : W6.cell? ⟨gb, 1, none⟩ = some x1 := hcell 1 x1 rfl
  have hg2 : W6.cell? ⟨gb, 2, none⟩ = some x2 := hcell 2 x2 rfl
  have hf0 : W6.frozen? ⟨gb, 0, none⟩ = false := hfz 0
  have hf1 : W6.frozen? ⟨gb, 1, none⟩ = false := hfz 1
  have hf2 : W6.frozen? ⟨gb, 2, none⟩ = false := hfz 2
  clear hge hb6 hx6 hW6 hlen hlen3 hM hcell hfz HB5 BK5 BR5 HG5 HX HY z0 z1 z2 z3 z4 z5 zf0 zf1 zf2 zf3 zf4 zf5 HR5
  go_region_held3 (fun W => Below w.heap.size w W ∧ W.cell? ⟨g5, 0, none⟩ = some (.slice B0 12 d0) ∧ W.cell? ⟨g5, 1, none⟩ = some (.slice B1 12 d1) ∧ W.cell? ⟨g5, 2, none⟩ = some (.slice B2 12 d2) ∧ W.cell? ⟨g5, 3, none⟩ = some (.slice B3 12 d3) ∧ W.cell? ⟨g5, 4, none⟩ = some (.slice (some ⟨gb, 0, none⟩) 5 d4) ∧ W.cell? ⟨g5, 5, none⟩ = some (.int .i64 0) ∧ W.cell? ⟨g1, 0, none⟩ = some (.slice A0 12 c0) ∧ W.cell? ⟨g1, 1, none⟩ = some (.slice A1 12 c1) ∧ W.cell? ⟨g1, 2, none⟩ = some (.slice A2 12 c2) ∧ W.cell? ⟨g1, 3, none⟩ = some (.slice A3 12 c3) ∧ W.cell? ⟨g1, 4, none⟩ = some (.slice A4 5 c4) ∧ W.cell? ⟨g1, 5, none⟩ = some (.int .i64 0) ∧ W.heap[g2]? = some (.cells #[.slice none 0 0, .slice none 0 0, .slice none 0 0, .slice none 0 0, .slice none 0 0, .int .i64 0] 38 (0, 0)))
    (first
      | with_reducible exact SS.step HQ.out (o1 (bJ _ _)) HSS.out
      | with_reducible assumption
      | with_reducible exact SS.step HQ.out (o1 (bJ _ _)) (by assumption)
      | with_reducible exact SS.step HQ.out (by assumption) (by assumption)
      | with_reducible exact SS.step HQ.out (o1 (bJ _ _)) (SS.step HQ.out (by assumption) (by assumption))
      | with_reducible exact SS.step HQ.out (by assumption) HSS.out
      | with_reducible exact SS.step HQ.out (oA (bJ _ _) _) (by assumption)
      | with_reducible exact SS.step HQ.out (o1 (oA (bJ _ _) _)) HSS.out
      | (refine SS.set (Q := (fun W => W.heap[g2]? = some (.cells #[.slice none 0 0, .slice none 0 0, .slice none 0 0, .slice none 0 0, .slice none 0 0, .int .i64 0] 38 (0, 0)))) HQ2.out GB.out N5.out N1.out _ _ ?_; refine SS.set (Q := (fun W => W.heap[g2]? = some (.cells #[.slice none 0 0, .slice none 0 0, .slice none 0 0, .slice none 0 0, .slice none 0 0, .int .i64 0] 38 (0, 0)))) HQ2.out GB.out N5.out N1.out _ _ ?_; refine SS.set (Q := (fun W => W.heap[g2]? = some (.cells #[.slice none 0 0, .slice none 0 0, .slice none 0 0, .slice none 0 0, .slice none 0 0, .int .i64 0] 38 (0, 0)))) HQ2.out GB.out N5.out N1.out _ _ ?_; first | with_reducible assumption | exact SS.step HQ.out (oA (bJ _ _) _) (by with_reducible assumption)))
    (first
      | (go_at_call 33; refine (HS.out _ (And.left (by assumption : Below w.heap.size w _ ∧ _))).mono ?_; rintro e w' ⟨rfl, hb⟩; (first | (have e0 := pw_cell_below hb hg0; have e1 := pw_cell_below hb hg1; have e2 := pw_cell_below hb hg2; have f0 := frz_below hb hg0 hf0; have f1 := frz_below hb hg1 hf1; have f2 := frz_below hb hg2 hf2; have s0 := fun o => pw_cell_below (oA (bJ _ _) o) e0; have t0 := fun o => frz_below (oA (bJ _ _) o) e0 f0; have s1 := fun o => pw_cell_below (oA (bJ _ _) o) e1; have t1 := fun o => frz_below (oA (bJ _ _) o) e1 f1; have s2 := fun o => pw_cell_below (oA (bJ _ _) o) e2; have t2 := fun o => frz_below (oA (bJ _ _) o) e2 f2) | (have hb2 := bP (w := W6) (W := (W6.alloc (.cells M16 78 (0, 0))).drew) (o1 (oA (bJ _ _) _)) hb; have e0 := pw_cell_below hb2 hg0; have e1 := pw_cell_below hb2 hg1; have e2 := pw_cell_below hb2 hg2; have f0 := frz_below hb2 hg0 hf0; have f1 := frz_below hb2 hg1 hf1; have f2 := frz_below hb2 hg2 hf2; have s0 := fun o => pw_cell_below (oA (bJ _ _) o) e0; have t0 := fun o => frz_below (oA (bJ _ _) o) e0 f0; have s1 := fun o => pw_cell_below (oA (bJ _ _) o) e1; have t1 := fun o => frz_below (oA (bJ _ _) o) e1 f1; have s2 := fun o => pw_cell_below (oA (bJ _ _) o) e2; have t2 := fun o => frz_below (oA (bJ _ _) o) e2 f2))))
  all_goals
    generalize hGW : World.setCell _ _ _ = WF
    have HF : SS w g5 g1 (.slice B0 12 d0) (.slice B1 12 d1) (.slice B2 12 d2) (.slice B3 12 d3) (.slice (some ⟨gb, 0, none⟩) 5 d4) (.int .i64 0) (.slice A0 12 c0) (.slice A1 12 c1) (.slice A2 12 c2) (.slice A3 12 c3) (.slice A4 5 c4) (.int .i64 0) (fun W => W.heap[g2]? = some (.cells #[.slice none 0 0, .slice none 0 0, .slice none 0 0, .slice none 0 0, .slice none 0 0, .int .i64 0] 38 (0, 0))) WF := by rw [← hGW]; with_reducible assumption
    obtain ⟨f0, a0, a1, a2, a3, a4, a5, b0, b1, b2, b3, b4, b5, fq⟩ := HF
    have HST : Aside0 (SS w g5 g1 (.slice B0 12 d0) (.slice B1 12 d1) (.slice B2 12 d2) (.slice B3 12 d3) (.slice (some ⟨gb, 0, none⟩) 5 d4) (.int .i64 0) (.slice A0 12 c0) (.slice A1 12 c1) (.slice A2 12 c2) (.slice A3 12 c3) (.slice A4 5 c4) (.int .i64 0) (fun _ => True) WF) := ⟨f0, a0, a1, a2, a3, a4, a5, b0, b1, b2, b3, b4, b5, trivial⟩
    have HBF := Am f0
    have HQF := Am fq
    have NE5 := Am (show g5 ≠ g2 from N52.out)
    clear f0 fq hGW
    go_wp2_with fail
    go_region_with ((go_at_call 33; refine (HS.out _ (o1 HBF.out)).mono ?_; rintro e w' ⟨rfl, hb⟩; have bq := bB (w := WF.drew) HQF.out hb; have BQ := Am bq; have HE := Am (bP HBF.out (bP (w := WF) (W := WF.drew) (o1 (bJ _ _)) hb)); have r0 : w'.cell? ⟨g2, 0, none⟩ = some (.slice none 0 0) := (bC bq 0).trans rfl; have rf0 := bF bq 0; have r1 : w'.cell? ⟨g2, 1, none⟩ = some (.slice none 0 0) := (bC bq 1).trans rfl; have rf1 := bF bq 1; have r2 : w'.cell? ⟨g2, 2, none⟩ = some (.slice none 0 0) := (bC bq 2).trans rfl; have rf2 := bF bq 2; have r3 : w'.cell? ⟨g2, 3, none⟩ = some (.slice none 0 0) := (bC bq 3).trans rfl; have rf3 := bF bq 3; have r4 : w'.cell? ⟨g2, 4, none⟩ = some (.slice none 0 0) := (bC bq 4).trans rfl; have rf4 := bF bq 4; have r5 : w'.cell? ⟨g2, 5, none⟩ = some (.int .i64 0) := (bC bq 5).trans rfl; have rf5 := bF bq 5; have s0 := pw_cell_below hb (show WF.drew.cell? ⟨g5, 0, none⟩ = _ from a0); have s1 := pw_cell_below hb (show WF.drew.cell? ⟨g5, 1, none⟩ = _ from a1); have s2 := pw_cell_below hb (show WF.drew.cell? ⟨g5, 2, none⟩ = _ from a2); have s3 := pw_cell_below hb (show WF.drew.cell? ⟨g5, 3, none⟩ = _ from a3); have s4 := pw_cell_below hb (show WF.drew.cell? ⟨g5, 4, none⟩ = _ from a4); have s5 := pw_cell_below hb (show WF.drew.cell? ⟨g5, 5, none⟩ = _ from a5); clear bq hb))
    all_goals go_outline
    all_goals
      go_wp2
      refine bodyPost_ret (results_ctt rfl _ _ g2 38 #[.slice B0 12 d0, .slice B1 12 d1, .slice B2 12 d2, .slice B3 12 d3, .slice (some ⟨gb, 0, none⟩) 5 d4, .int .i64 0] (0, 0) _ rfl (blk_put (blk_put (blk_put (blk_put (blk_put (blk_put BQ.out 0 (.slice B0 12 d0) (cs' := #[.slice B0 12 d0, .slice none 0 0, .slice none 0 0, .slice none 0 0, .slice none 0 0, .int .i64 0]) rfl) 1 (.slice B1 12 d1) (cs' := #[.slice B0 12 d0, .slice B1 12 d1, .slice none 0 0, .slice none 0 0, .slice none 0 0, .int .i64 0]) rfl) 2 (.slice B2 12 d2) (cs' := #[.slice B0 12 d0, .slice B1 12 d1, .slice B2 12 d2, .slice none 0 0, .slice none 0 0, .int .i64 0]) rfl) 3 (.slice B3 12 d3) (cs' := #[.slice B0 12 d0, .slice B1 12 d1, .slice B2 12 d2, .slice B3 12 d3, .slice none 0 0, .int .i64 0]) rfl) 4 (.slice (some ⟨gb, 0, none⟩) 5 d4) (cs' := #[.slice B0 12 d0, .slice B1 12 d1, .slice B2 12 d2, .slice B3 12 d3, .slice (some ⟨gb, 0, none⟩) 5 d4, .int .i64 0]) rfl) 5 (.int .i64 0) (cs' := #[.slice B0 12 d0, .slice B1 12 d1, .slice B2 12 d2, .slice B3 12 d3, .slice (some ⟨gb, 0, none⟩) 5 d4, .int .i64 0]) rfl) Try.underlying38 rfl (by kernel_rfl)) rfl ?_
      exact ⟨_, _, _, _, _, _, _, _, _, _, rfl, (bS (bS (bS (bS (bS (bS HE.out G2.out (j := 0) (v := .slice B0 12 d0)) G2.out (j := 1) (v := .slice B1 12 d1)) G2.out (j := 2) (v := .slice B2 12 d2)) G2.out (j := 3) (v := .slice B3 12 d3)) G2.out (j := 4) (v := .slice (some ⟨gb, 0, none⟩) 5 d4)) G2.out (j := 5) (v := .int .i64 0))⟩
end Go.Proofs.Ytffnkpbogkodbaa.PFnMemNew
