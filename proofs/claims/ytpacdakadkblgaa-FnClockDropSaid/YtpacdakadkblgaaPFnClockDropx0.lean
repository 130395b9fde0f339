/- Proved here, without a condition beyond those that each theorem states: what the Go functions named below do is what the plain functions of the same names say. Written by xprint.py, a program of this session. -/
import Derived.Test.YtpacdakadkblgaaProg
import Derived.Below
import Derived.Deep.Draws
import Derived.Deep.AppendLies
import Derived.Maps.AppendAt
import Derived.OwnWalk
import Derived.Laws.BytesArg
import Derived.Laws.MakeOwn
import Derived.Laws.OwnMore
import Derived.Deep.OwnRows
import Derived.Tactics
import Derived.Lib.ConvBytes
import Derived.Laws.Slices
import Derived.WalkKit
import Derived.KernelRfl
import Derived.RowKit3
import Derived.Deep.LoopGhost
import Derived.Deep.QuietTactic
import Derived.BigQuiet
import Derived.WideLaws
import Derived.Deep.DeepCutAuto
import Derived.Deep.CutBlock
import Derived.Deep.RegionHeld3
import Derived.Laws.Rows
import Derived.Lib.AppendStr
import Derived.ArgAppend
import Derived.Laws.IdiomCopy
import Derived.OrdersHeld
import Derived.Laws.BitsLemmas
import Derived.RowKit
import Derived.WalkSpells
import Derived.Lib.SliceRun
import Derived.Test.YtpacdakadkblgaaTFnClockDropa
namespace Go.Proofs.Ytpacdakadkblgaa.PFnClockDrop
open Go.RowKit Go.Proofs.YtpacdakadkblgaaW.PrintWords Go.Proofs.YtpacdakadkblgaaW.PrintLast Go.Proofs.YtpacdakadkblgaaW.PrintMore
attribute [local go_sem] max2_int min2_int max_two min_two max_three min_three max_four min_four   -- for this text's walks alone
set_option linter.unusedVariables false
set_option linter.unusedSimpArgs false



def errW : Option Int → Value
  | none => .nilIface
  | some c => .iface 0 (.int .i64 c)
theorem errW_none : errW none = .nilIface := rfl
theorem errW_some (c : Int) : errW (some c) = .iface 0 (.int .i64 c) := rfl

theorem isSome_setCell_ (w : World) (p a : Addr) (v : Value) : ((w.setCell p v).cell? a).isSome = (w.cell? a).isSome := by
  unfold World.cell? World.setCell
  simp only [Array.getElem?_modify]
  by_cases h : p.block = a.block
  · rw [if_pos h]
    cases w.heap[a.block]? with
    | none => rfl
    | some o =>
      cases o with
      | cells c e f =>
        simp only [Option.map_some]
        cases a.spot with
        | some s => rfl
        | none =>
          simp only [Option.isSome_none, Bool.false_eq_true, if_false]
          cases p.spot with
          | some s => rfl
          | none =>
            simp only [Option.isSome_none, Bool.false_eq_true, if_false]
            rw [Array.getElem?_setIfInBounds]
            split
            · rename_i h1
              rw [h1]
              split
              · rename_i h2
                simp [Array.getElem?_eq_getElem h2]
              · rename_i h2
                simp [Array.getElem?_eq_none (Nat.le_of_not_lt h2)]
            · rfl
      | _ => rfl
  · rw [if_neg h]

-- short names, for long texts
abbrev bN := @blk_drewN
abbrev bA := @blk_alloc
abbrev bD := @blk_drew
abbrev Am := @Aside0.mk
abbrev pN := @pw_below_drewN
abbrev bS := @below_set
abbrev oA := @below_alloc
abbrev o1 := @below_drew1
abbrev bC := @blk_cell
abbrev bF := @blk_frozen
abbrev bB := @blk_below
abbrev bZ := @below_size
abbrev bP := @below_step
abbrev lA := @List.setIfInBounds_toArray
abbrev lZ := @List.set_cons_zero
abbrev lS := @List.set_cons_succ
abbrev lM := @List.map_toArray
abbrev lC := @List.map_cons
abbrev lN := @List.map_nil
abbrev lD := @List.length_drop
abbrev lT := @List.length_take
abbrev rN := @Kd.R_drewN
abbrev rA := @Kd.R_alloc
abbrev rD := @Kd.R_drew
abbrev rF := @Kd.R_far
abbrev rM := @Kd.R_mono
abbrev rB := @Kd.R_below
abbrev rT := @Kd.R_types
abbrev rG := @Kd.R_grown
abbrev cB := @Kd.C_below
abbrev cA := @Kd.C_alloc
abbrev cN := @Kd.C_drewN
abbrev cD := @Kd.C_drew
abbrev oB := @Option.bind_eq_some_iff
abbrev oE := @of_decide_eq_true
abbrev dT := @decide_eq_true
abbrev dF := @decide_eq_false
abbrev rR := @Kd.R_reads'
abbrev qR := @Kd.Q_reads'
abbrev cF := @cell_far
abbrev rW := @Kd.R_lower
abbrev rO := @Kd.R_over'
abbrev rY := @Kd.R_typed
abbrev rE := @Kd.R_ne
abbrev rX := @Kd.R_elder'
abbrev rZ := @Kd.R_base
abbrev rS := @Kd.R_elem
abbrev rC := @Kd.R_slice
abbrev oK := @Kd.own_blk
abbrev bG := @blk_grown
abbrev bT := @blk_put
abbrev bE := @blk_far
abbrev bH := @blk_lt
abbrev nI := @Nat.ne_of_lt
abbrev nJ := @Nat.ne_of_gt
abbrev gC := @gate_callee
abbrev gS := @gate_store
abbrev gD := @gate_dst
abbrev sE := @store_event
abbrev bI := @box_event
abbrev bJ := @Below.refl
abbrev aB := @add_block
abbrev aP := @add_plain
abbrev nR := @Nat.le_refl
abbrev oJ := @Option.some.inj
abbrev rJ := @Kd.R_told
abbrev rK := @Kd.R_old
abbrev rQ := @Kd.R_new'
abbrev rI := @Kd.R_lt
abbrev qJ := @Kd.Q_told
abbrev qK := @Kd.Q_old
abbrev qM := @Kd.Q_mono
abbrev qI := @Kd.Q_lt

class Lw (w W : World) : Prop where
  out : Below w.heap.size w W
instance Lw.r (w : World) : Lw w w := ⟨Below.refl _ _⟩
instance Lw.a (w W : World) [h : Lw w W] (o : Obj) : Lw w (W.alloc o) := ⟨below_alloc h.out o⟩
instance Lw.d (w W : World) [h : Lw w W] : Lw w W.drew := ⟨below_drew h.out⟩
instance Lw.n (w W : World) [h : Lw w W] (n : Nat) : Lw w (W.drewN n) := ⟨pw_below_drewN h.out n⟩
theorem rL {α : Type} {d : Kd α} {e base : Nat} {ok : Nat → Prop} {w W : World} {v : Value} {xs : List α} [k : Lw w W] (h : d.R e w base ok v xs) : d.R e W base ok v xs := Kd.R_below h k.out
theorem bL {g : Nat} {o : Obj} {w W : World} [k : Lw w W] (h : w.heap[g]? = some o) : W.heap[g]? = some o := blk_below h k.out
theorem oC {α β : Type} {o : Option α} {f : α → Option β} {b : β} (h : o.bind f = some b) : ∃ a, o = some a ∧ f a = some b := Option.bind_eq_some_iff.mp h
theorem bW {w W : World} {a : Addr} {v : Value} (HB : Aside0 (Below w.heap.size w W)) (h : w.cell? a = some v) : W.cell? a = some v := (HB.out.cell (World.block_lt_of_cell? w _ h)).trans h
/-- n truth values: the bits of m. -/
def bQ (n m : Nat) : Array Bool := ((List.range n).map m.testBit).toArray
structure Stp (Q : Exit → Act → World → Prop) (ops : Array Oper) (T : Bool × List (List Nat × List Nat)) (B : List Nat) : Prop where
  out : rtab .any ops = T
  b : waitsOk T.2 B = true
  q : ∀ c a n v w, Q (.panic c) (a.put (some n) v) w → Q (.panic c) a w
theorem Stp.p {Q : Exit → Act → World → Prop} {ops : Array Oper} {T : Bool × List (List Nat × List Nat)} {B : List Nat} (s : Stp Q ops T B) (d : Option Tmp) (v : Value) : ∀ c a w, Q (.panic c) (a.put d v) w → Q (.panic c) a w := by
  cases d with
  | none => exact fun _ _ _ h => h
  | some n => exact fun c a w h => s.q c a n v w h
section
variable {P : Program} {ops : Array Oper} {Q : Exit → Act → World → Prop} {S : World → Prop} {ds : List Nat} {T : Bool × List (List Nat × List Nat)} {B : List Nat} {fuel : Nat} {l : Array Bool} {a : Act} {w : World} {oi : Oper}
theorem with_st {n : Nat} (hT : rtab .any ops = T) (hB : waitsOk T.2 B = true) (hQ : ∀ c a n v w, Q (.panic c) (a.put (some n) v) w → Q (.panic c) a w) (h : Stp Q ops T B → wpAnyLast P .any ops Q S ds n l a w) : wpAnyLast P .any ops Q S ds n l a w := h ⟨hT, hB, hQ⟩
theorem pU {v : Value} {a' : Act} (i : Nat) (N : Option Tmp) (l' : Array Bool) (hT : Stp Q ops T B) (hi : ops[i]? = some oi) (hN : oi.dst = N) (hc : anyT T l.toList l'.toList i = true)
    (hw : Region.wanted oi (yielded ops a.tmps) = true) (hy : ∀ w, (execOp a.eval oi).run P w = .ok (.value v) w) (ha : a.put N v = a')
    (h : wpAnyLast P .any ops Q S ds fuel l' a' w) : wpAnyLast P .any ops Q S ds (fuel + 1) l a w := pure_ l' hi hN (any_of hT.out hc) (hT.p _ _) (Or.inl ⟨hw, hy⟩) ha h
theorem pV {a' : Act} (i : Nat) (N : Option Tmp) (l' : Array Bool) (hT : Stp Q ops T B) (hi : ops[i]? = some oi) (hN : oi.dst = N) (hc : anyT T l.toList l'.toList i = true)
    (hw : Region.wanted oi (yielded ops a.tmps) = false) (ha : a.put N undef = a')
    (h : wpAnyLast P .any ops Q S ds fuel l' a' w) : wpAnyLast P .any ops Q S ds (fuel + 1) l a w := pure_ l' hi hN (any_of hT.out hc) (hT.p _ _) (Or.inr ⟨hw, rfl⟩) ha h
theorem tU {v : Value} {a' : Act} (i : Nat) (N : Option Tmp) (l' : Array Bool) (hT : Stp Q ops T B) (hS : S w) (hi : ops[i]? = some oi) (hN : oi.dst = N) (hc : takeW T B ds l.toList l'.toList i = true)
    (hw : Region.wanted oi (yielded ops a.tmps) = true) (hy : ∀ w, S w → (execOp a.eval oi).run P w = .ok (.value v) w) (ha : a.put N v = a')
    (h : wpAnyLast P .any ops Q S ds fuel l' a' w) : wpAnyLast P .any ops Q S ds (fuel + 1) l a w := take_ l' hi hN (take_ofW hT.out hT.b hc) (hT.p _ _) (Or.inl ⟨hw, hy⟩) hS ha h
theorem oU (i : Nat) (N : Option Tmp) (l' : Array Bool) (hT : Stp Q ops T B) (hi : ops[i]? = some oi) (hN : oi.dst = N) (hc : (readyT T.2 l.toList == [i] && l.toList.set i true == l'.toList) = true) (hd : i ∉ ds)
    (h : ∀ K : Act → World → Prop, Shut (∀ a' w', S w' → (S w' → wpAnyLast P .any ops Q S ds fuel l' a' w') → K a' w') → if Region.wanted oi (yielded ops a.tmps) = true then Oper.wp P oi a w K Q else K (a.put N undef) w) :
    wpAnyLast P .any ops Q S ds (fuel + 1) l a w := one_ l' hi hN (one_of hT.out hc) hd h
theorem pS {v : Value} {a' : Act} (i : Nat) (n : Nat) (l' : Array Bool) (hT : Stp Q ops T B) (hi : ops[i]? = some oi) (hN : oi.dst = some n) (hc : anyT T l.toList l'.toList i = true)
    (hw : Region.wanted oi (yielded ops a.tmps) = true) (hy : ∀ w, (execOp a.eval oi).run P w = .ok (.value v) w) (ha : a.put (some n) v = a')
    (h : wpAnyLast P .any ops Q S ds fuel l' a' w) : wpAnyLast P .any ops Q S ds (fuel + 1) l a w := pU i (some n) l' hT hi hN hc hw hy ha h
theorem vS {a' : Act} (i : Nat) (n : Nat) (l' : Array Bool) (hT : Stp Q ops T B) (hi : ops[i]? = some oi) (hN : oi.dst = some n) (hc : anyT T l.toList l'.toList i = true)
    (hw : Region.wanted oi (yielded ops a.tmps) = false) (ha : a.put (some n) undef = a')
    (h : wpAnyLast P .any ops Q S ds fuel l' a' w) : wpAnyLast P .any ops Q S ds (fuel + 1) l a w := pV i (some n) l' hT hi hN hc hw ha h
theorem tS {v : Value} {a' : Act} (i : Nat) (n : Nat) (l' : Array Bool) (hT : Stp Q ops T B) (hS : S w) (hi : ops[i]? = some oi) (hN : oi.dst = some n) (hc : takeW T B ds l.toList l'.toList i = true)
    (hw : Region.wanted oi (yielded ops a.tmps) = true) (hy : ∀ w, S w → (execOp a.eval oi).run P w = .ok (.value v) w) (ha : a.put (some n) v = a')
    (h : wpAnyLast P .any ops Q S ds fuel l' a' w) : wpAnyLast P .any ops Q S ds (fuel + 1) l a w := tU i (some n) l' hT hS hi hN hc hw hy ha h
theorem oS (i : Nat) (n : Nat) (l' : Array Bool) (hT : Stp Q ops T B) (hi : ops[i]? = some oi) (hN : oi.dst = some n) (hc : (readyT T.2 l.toList == [i] && l.toList.set i true == l'.toList) = true) (hd : i ∉ ds)
    (h : ∀ K : Act → World → Prop, Shut (∀ a' w', S w' → (S w' → wpAnyLast P .any ops Q S ds fuel l' a' w') → K a' w') → if Region.wanted oi (yielded ops a.tmps) = true then Oper.wp P oi a w K Q else K (a.put (some n) undef) w) :
    wpAnyLast P .any ops Q S ds (fuel + 1) l a w := oU i (some n) l' hT hi hN hc hd h
end
abbrev iw := @i64_w
abbrev jw := @i32_w
theorem qL {α : Type} {d : Kd α} {e base : Nat} {ok : Nat → Prop} {w W : World} {v : Value} {xs : List α} [k : Lw w W] (h : d.Q e w base ok v xs) : d.Q e W base ok v xs := Kd.Q_below h k.out
theorem cL {α : Type} {d : Kd α} {w W : World} {A : Option Addr} {n : Nat} {xs : List α} [k : Lw w W] (h : d.C w A n xs) : d.C W A n xs := Kd.C_below h k.out
theorem bX {g : Nat} {o : Obj} {w W W' : World} [k : Lw w W] (h : w.heap[g]? = some o) (hb : Below W.heap.size W W') : W'.heap[g]? = some o := blk_below (blk_below h k.out) hb
theorem nL {g b : Nat} {o : Obj} {w W : World} [k : Lw w W] (h : w.heap[g]? = some o) (hg : b = W.heap.size) : g ≠ b := by rw [hg]; exact Nat.ne_of_lt (blk_lt (blk_below h k.out))
theorem nG {g b : Nat} {o : Obj} {w W : World} [k : Lw w W] (h : w.heap[g]? = some o) (hg : b = W.heap.size) : b ≠ g := (nL h hg).symm
theorem aN {a : Addr} {i g : Nat} (h : a.block ≠ g) : (a.add i).block ≠ g := by rw [add_block]; exact h
section
variable {w : World} {g : Nat} {t : TypeId} {a b c d e f : Value} {l : List Value}
theorem cz0 (h : w.heap[g]? = some (.cells (List.toArray (a :: l)) t (0, 0))) : w.cell? ⟨g, 0, none⟩ = some a := (blk_cell h 0).trans rfl
theorem cz1 (h : w.heap[g]? = some (.cells (List.toArray (a :: b :: l)) t (0, 0))) : w.cell? ⟨g, 1, none⟩ = some b := (blk_cell h 1).trans rfl
theorem cz2 (h : w.heap[g]? = some (.cells (List.toArray (a :: b :: c :: l)) t (0, 0))) : w.cell? ⟨g, 2, none⟩ = some c := (blk_cell h 2).trans rfl
theorem cz3 (h : w.heap[g]? = some (.cells (List.toArray (a :: b :: c :: d :: l)) t (0, 0))) : w.cell? ⟨g, 3, none⟩ = some d := (blk_cell h 3).trans rfl
theorem cz4 (h : w.heap[g]? = some (.cells (List.toArray (a :: b :: c :: d :: e :: l)) t (0, 0))) : w.cell? ⟨g, 4, none⟩ = some e := (blk_cell h 4).trans rfl
theorem cz5 (h : w.heap[g]? = some (.cells (List.toArray (a :: b :: c :: d :: e :: f :: l)) t (0, 0))) : w.cell? ⟨g, 5, none⟩ = some f := (blk_cell h 5).trans rfl
end

theorem R_beyond {α : Type} {d : Kd α} {e base g n c off : Nat} {ok : Nat → Prop} {W : World} {xs : List α} (HO : d.R e W base ok (.slice (some ⟨g, 0, none⟩) n c) xs) (news : List Value) (hoff : n * d.sz ≤ off) (hfit : off + news.length ≤ c * d.sz) :
    d.R e (W.setCells g off news) base ok (.slice (some ⟨g, 0, none⟩) n c) xs ∧ W.grownBy (W.setCells g off news) (some g) := by
  obtain ⟨hok, inner, hown, hr⟩ := HO
  have hn0 := hown.1
  rcases hown.2 with ⟨hv, _⟩ | ⟨g', cap', cur, hv, hb, hh, hnc, hcm, hcs, htake⟩
  · cases hv
  injection hv with ha hn hc
  injection ha with ha
  injection ha with hg
  subst hg; subst hc; subst hn
  obtain ⟨cur', h3, h4, h5⟩ := setCells_row news off W cur hh (by omega)
  obtain ⟨s1, s2, s3, s4⟩ := setCells_same g news off W
  have hfar : ∀ k', k' ≠ g → (W.setCells g off news).heap[k']? = W.heap[k']? := fun k' hk' => setCells_far news _ k' hk'
  refine ⟨⟨hok, inner, ⟨hn0, .inr ⟨g, c, cur', rfl, hb, h3, hnc, hcm, by rw [h4, hcs], ?_⟩⟩, ?_⟩, ⟨s1, s2, s3, by rw [s4]; exact Nat.le_refl _, fun k _ hne => hfar k (fun he => hne (by rw [he]))⟩⟩
  · rw [h5, List.append_assoc, List.take_append_of_le_length (by rw [List.length_take]; have := hcs; simp; omega), List.take_take, Nat.min_eq_left (by omega)]
    exact htake
  · exact hr.imp_ (fun p q hp => d.M_move (fun k' hk' => hfar k' (fun he => hk'.2 (by rw [he]; simp [Value.ownBlock]))) hp)
theorem R_cells_room {α : Type} {d : Kd α} {e base g n c : Nat} {ok : Nat → Prop} {W : World} {xs : List α} (HO : d.R e W base ok (.slice (some ⟨g, 0, none⟩) n c) xs) (q : Nat) (hq : q < c * d.sz) :
    (W.cell? ⟨g, q, none⟩).isSome = true ∧ W.frozen? ⟨g, q, none⟩ = false := by
  obtain ⟨hok, inner, hown, hr⟩ := HO
  rcases hown.2 with ⟨hv, _⟩ | ⟨g', cap', cur, hv, hb, hh, hnc, hcm, hcs, htake⟩
  · cases hv
  injection hv with ha hn hc
  injection ha with ha
  injection ha with hg
  subst hg; subst hc
  refine ⟨?_, blk_frozen hh _⟩
  rw [blk_cell hh]
  simp
  omega
theorem run_clear_one {P : Program} (w : World) (t e ty : TypeId) (z : Value) (zs : List Value) (ht : P.underlying t = some (.slice e)) (hv : ∀ w, (zeroValue e).run P w = .ok z w) (hz : (Builtin.zeroCells z.cells 1).toList = zs) (h1 : ∀ v ∈ zs, v.oneCell' = true) (b o c : Nat)
    (hc : ∀ j, j < zs.length → (w.cell? ⟨b, o + j, none⟩).isSome = true) (hf : ∀ j, j < zs.length → w.frozen? ⟨b, o + j, none⟩ = false) :
    (Builtin.clear_ #[t] ty #[.slice (some ⟨b, o, none⟩) 1 c]).run P w = .ok (.tuple #[]) (w.setCells b o zs) := by
  have hst := run_storeCells_cells (P := P) b o zs 0 w (by simpa using hc) (by simpa using hf) h1
  simp only [Nat.add_zero] at hst
  simp [Builtin.clear_, run_underlying ht, hv, hz, hst]

theorem info3 : (Try.prog.info? 3).map (fun i => (i.zero, i.size, i.bytes)) = some (some (.int .i64 0), 1, 8) := by kernel_rfl
theorem info5 : (Try.prog.info? 5).map (fun i => (i.zero, i.size, i.bytes)) = some (some (.int .u8 0), 1, 1) := by kernel_rfl
theorem info35 : (Try.prog.info? 35).map (fun i => (i.zero, i.size, i.bytes)) = some (some (.agg #[(.int .i64 0), (.int .i64 0), (.int .i64 0)]), 3, 24) := by kernel_rfl
-- the values' own types
/-! #### struct type 35 -/
structure S35 where
  f0 : Int
  f1 : Int
  f2 : Int
def z35 : S35 := ⟨(0 : Int), (0 : Int), (0 : Int)⟩
def k35 : Kd S35 := Kd.iso (Kd.pair (Kd.int .i64) (Kd.pair (Kd.int .i64) (Kd.int .i64))) (fun x : S35 => (x.f0, x.f1, x.f2))
theorem k35_open {w : World} {x : S35} {cs : List Value} (h : k35.K w x cs) : cs = [.int .i64 x.f0, .int .i64 x.f1, .int .i64 x.f2] := by
  obtain ⟨_, _, rfl, rfl, ⟨_, _, rfl, rfl, rfl⟩⟩ := h
  exact rfl
theorem k35_openM {w : World} {base : Nat} {ok : Nat → Prop} {x : S35} {cs : List Value} (h : k35.M w base ok x cs) : cs = [.int .i64 x.f0, .int .i64 x.f1, .int .i64 x.f2] := by
  obtain ⟨_, _, rfl, rfl, ⟨_, _, rfl, rfl, rfl⟩⟩ := h
  exact rfl
theorem k35_mk (w : World) (x : S35)  : k35.K w x [.int .i64 x.f0, .int .i64 x.f1, .int .i64 x.f2] := ⟨[.int .i64 x.f0], [.int .i64 x.f1, .int .i64 x.f2], rfl, rfl, ⟨[.int .i64 x.f1], [.int .i64 x.f2], rfl, rfl, rfl⟩⟩
theorem k35_mkM (w : World) (base : Nat) (ok : Nat → Prop) (x : S35)  : k35.M w base ok x [.int .i64 x.f0, .int .i64 x.f1, .int .i64 x.f2] := ⟨[.int .i64 x.f0], [.int .i64 x.f1, .int .i64 x.f2], rfl, rfl, ⟨[.int .i64 x.f1], [.int .i64 x.f2], rfl, rfl, rfl⟩⟩
def rd_T35 (xs : List S35) (i : Int) : S35 := xs.getD i.toNat z35
theorem at_T35 {w : World} {A : Option Addr} {n : Nat} {xs : List S35} (h : Kd.C k35 w A n xs) (i : Int) (h0 : 0 ≤ i) (h1 : i < n) : ∃ ad , A = some ad ∧ w.cell? (ad.add (i.toNat * 3)) = some (.int .i64 (rd_T35 xs i).f0) ∧ w.cell? ⟨(ad.add (i.toNat * 3)).block, (ad.add (i.toNat * 3)).off + 1, none⟩ = some (.int .i64 (rd_T35 xs i).f1) ∧ w.cell? ⟨(ad.add (i.toNat * 3)).block, (ad.add (i.toNat * 3)).off + 2, none⟩ = some (.int .i64 (rd_T35 xs i).f2) := by
  obtain ⟨ad, c, e, _, hK, hc0⟩ := Kd.C_get h z35 i h0 h1
  have hc : ∀ j u, c[j]? = some u → w.cell? (ad.add (i.toNat * 3 + j)) = some u := hc0
  obtain rfl := k35_open hK
  exact ⟨ad, e, hc 0 _ rfl, by rw [← add_field _ _ 1 (by omega)]; exact hc 1 _ rfl, by rw [← add_field _ _ 2 (by omega)]; exact hc 2 _ rfl⟩

def rd_L3 (xs : List (List S35)) (i : Int) : (List S35) := xs.getD i.toNat ([] : List S35)
theorem at_L3 {w : World} {A : Option Addr} {n : Nat} {xs : List (List S35)} (h : Kd.C (Kd.slice 35 k35) w A n xs) (i : Int) (h0 : 0 ≤ i) (h1 : i < n) : ∃ ad A0 c0, A = some ad ∧ w.cell? (ad.add i.toNat) = some (.slice A0 (rd_L3 xs i).length c0) ∧ (rd_L3 xs i).length ≤ c0 ∧ k35.C w A0 (rd_L3 xs i).length (rd_L3 xs i) := by
  obtain ⟨ad, c, e, _, hK, hc0⟩ := Kd.C_get h ([] : List S35) i h0 h1
  have hc : ∀ j u, c[j]? = some u → w.cell? (ad.add (i.toNat * 1 + j)) = some u := hc0
  obtain ⟨A0, c0, rfl, l0, g0⟩ := hK
  exact ⟨ad, A0, c0, e, by have hq := hc 0 _ rfl; rwa [Nat.mul_one, Nat.add_zero] at hq, l0, g0⟩

def rd_L4 (xs : List (List Int)) (i : Int) : (List Int) := xs.getD i.toNat ([] : List Int)
theorem at_L4 {w : World} {A : Option Addr} {n : Nat} {xs : List (List Int)} (h : Kd.C (Kd.slice 3 (Kd.int .i64)) w A n xs) (i : Int) (h0 : 0 ≤ i) (h1 : i < n) : ∃ ad A0 c0, A = some ad ∧ w.cell? (ad.add i.toNat) = some (.slice A0 (rd_L4 xs i).length c0) ∧ (rd_L4 xs i).length ≤ c0 ∧ (Kd.int .i64).C w A0 (rd_L4 xs i).length (rd_L4 xs i) := by
  obtain ⟨ad, c, e, _, hK, hc0⟩ := Kd.C_get h ([] : List Int) i h0 h1
  have hc : ∀ j u, c[j]? = some u → w.cell? (ad.add (i.toNat * 1 + j)) = some u := hc0
  obtain ⟨A0, c0, rfl, l0, g0⟩ := hK
  exact ⟨ad, A0, c0, e, by have hq := hc 0 _ rfl; rwa [Nat.mul_one, Nat.add_zero] at hq, l0, g0⟩

end Go.Proofs.Ytpacdakadkblgaa.PFnClockDrop
