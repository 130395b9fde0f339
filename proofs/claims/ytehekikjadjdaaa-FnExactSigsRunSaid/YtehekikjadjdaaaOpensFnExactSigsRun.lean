/- Plain lemmas: what a value that can be read as a datum is told by. No conditions. -/
import Derived.Test.YtehekikjadjdaaaTFnExactSigsRuna
import Derived.ChangeArms
import Derived.DataReads
import Derived.DataElems
import Derived.WideShapes
namespace Go.Proofs.Ytehekikjadjdaaa.Aux
open Go.RowKit Go.Proofs.YtehekikjadjdaaaW.PrintWords
section
variable {H : Type} {enc : TypeId × Value → H} {P : Program} {W : World} {base : Nat} {spare : Nat → Bool} {held : Bool}
/-- What is read at type t is told by the kind d, and of each value 'ok' is known. -/
def Opens (enc : TypeId × Value → H) (P : Program) (W : World) (base : Nat) (spare : Nat → Bool) (held : Bool) (t : TypeId) {α : Type} (d : Kd α) (ok : α → Prop) : Prop :=
  ∀ fuel cs x, DataW.trod enc P W base spare held fuel t cs = some x → ∃ y, d.K W y cs ∧ ok y
/-- The same for fields in line, from one offset on. -/
def OpensL (enc : TypeId × Value → H) (P : Program) (W : World) (base : Nat) (spare : Nat → Bool) (held : Bool) (fs : List Field) (off : Nat) {α : Type} (d : Kd α) (ok : α → Prop) : Prop :=
  ∀ n (cs : List Value), cs.length = off + d.sz → (∀ f ∈ fs, ∃ x, DataW.trod enc P W base spare held n f.type ((cs.drop f.offset).take (P.cellsOf f.type)) = some x) → ∃ y, d.K W y (cs.drop off) ∧ ok y
theorem opens_int {t : TypeId} {k : IntKind} (ht : P.underlying t = some (.int k)) : Opens enc P W base spare held t (Kd.int k) (fun y => (Lit.int k y).wf = true) := by
  intro fuel cs x h
  obtain ⟨n, rfl, _, hw⟩ := DataW.trod_int ht h
  exact ⟨n, rfl, hw⟩
theorem opens_bool {t : TypeId} (ht : P.underlying t = some .bool) : Opens enc P W base spare held t Kd.bool (fun _ => True) := by
  intro fuel cs x h
  obtain ⟨n, rfl, _⟩ := DataW.trod_bool ht h
  exact ⟨n, rfl, trivial⟩
theorem opens_string {t : TypeId} (ht : P.underlying t = some .string) : Opens enc P W base spare held t Kd.string (fun s => s.size ≤ maxLen) := by
  intro fuel cs x h
  obtain ⟨n, rfl, _, hw⟩ := DataW.trod_string ht h
  exact ⟨n, rfl, hw⟩
theorem list_choose {α β : Type} (Q : Nat → α → Prop) : ∀ n, (∀ i, i < n → ∃ y, Q i y) → ∃ ys : List α, ys.length = n ∧ ∀ i y, ys[i]? = some y → Q i y
  | 0, _ => ⟨[], rfl, fun i y h => by simp at h⟩
  | n + 1, h => by
    obtain ⟨ys, hl, hy⟩ := list_choose (β := β) Q n (fun i hi => h i (by omega))
    obtain ⟨y, hq⟩ := h n (by omega)
    refine ⟨ys ++ [y], by simp [hl], fun i z hz => ?_⟩
    rw [List.getElem?_append] at hz
    split at hz
    · exact hy i z hz
    · rename_i hi
      have : i = n := by
        have := (List.getElem?_eq_some_iff.1 hz).1
        simp at this
        omega
      subst this
      rw [hl] at hz
      simp at hz
      subst hz
      exact hq
theorem opens_slice {t e : TypeId} {α : Type} {d : Kd α} {ok : α → Prop} (ht : P.underlying t = some (.slice e)) (hc : P.cellsOf e = d.sz) (h : Opens enc P W base spare held e d ok) :
    Opens enc P W base spare held t (Kd.slice e d) (fun ys => ∀ y ∈ ys, ok y) := by
  intro fuel cs x hx
  rcases DataW.trod_slice ht hx with ⟨rfl, _⟩ | ⟨a, len, cap, elems, rest, n, _, rfl, _, hb, hl, hm, hlen, hel, _, _⟩
  · exact ⟨[], ⟨none, 0, rfl, Nat.le_refl _, Kd.C_nil _ _⟩, by simp⟩
  · have each : ∀ i, i < len → ∃ y, (∃ c, c.length = d.sz ∧ d.K W y c ∧ ∀ j u, c[j]? = some u → W.cell? (a.add (i * d.sz + j)) = some u) ∧ ok y := by
      intro i hi
      have h1 := hel i hi
      obtain ⟨z, hz⟩ : ∃ z, elems[i]? = some z := ⟨_, List.getElem?_eq_getElem (by omega)⟩
      rw [hz, Option.bind_eq_some_iff] at h1
      obtain ⟨c, hcs, htr⟩ := h1
      obtain ⟨y, hk, hok⟩ := h _ _ _ htr
      obtain ⟨_, hlc, hcell⟩ := World.cells?_some hcs
      rw [hc] at hcell hcs hlc
      refine ⟨y, ⟨c, d.K_len hk, hk, fun j u hj => ?_⟩, hok⟩
      have h5 := hcell j (by have := (List.getElem?_eq_some_iff.1 hj).1; omega)
      rw [show a.add (i * d.sz + j) = (a.add (i * d.sz)).add j from (Addr.add_add _ _ _).symm]
      exact h5.trans hj
    obtain ⟨ys, hyl, hys⟩ := list_choose (β := Unit) _ len each
    subst hyl
    refine ⟨ys, ⟨some a, cap, rfl, hl, rfl, by simp only [maxLen] at hm; omega, fun _ => ⟨a, rfl, fun j p hj => ?_⟩⟩, fun y hy => ?_⟩
    · obtain ⟨⟨c, h1, h2, h3⟩, _⟩ := hys j p hj
      exact ⟨c, h1, h2, h3⟩
    · obtain ⟨i, hi⟩ := List.getElem?_of_mem hy
      exact (hys i y hi).2
theorem opensL_one {f : Field} {off : Nat} {α : Type} {d : Kd α} {ok : α → Prop} (ho : f.offset = off) (hc : P.cellsOf f.type = d.sz) (h : Opens enc P W base spare held f.type d ok) :
    OpensL enc P W base spare held [f] off d ok := by
  intro n cs hl hall
  obtain ⟨x, hx⟩ := hall f (List.mem_singleton.2 rfl)
  obtain ⟨y, hk, hok⟩ := h _ _ _ hx
  rw [ho, hc, List.take_of_length_le (by simp; omega)] at hk
  exact ⟨y, hk, hok⟩
theorem opensL_cons {f : Field} {fs : List Field} {off : Nat} {α β : Type} {d : Kd α} {ok : α → Prop} {d' : Kd β} {ok' : β → Prop} (ho : f.offset = off) (hc : P.cellsOf f.type = d.sz)
    (h : Opens enc P W base spare held f.type d ok) (hs : OpensL enc P W base spare held fs (off + d.sz) d' ok') :
    OpensL enc P W base spare held (f :: fs) off (Kd.pair d d') (fun y => ok y.1 ∧ ok' y.2) := by
  intro n cs hl hall
  obtain ⟨x, hx⟩ := hall f List.mem_cons_self
  obtain ⟨y, hk, hok⟩ := h _ _ _ hx
  rw [ho, hc] at hk
  obtain ⟨z, hz, hokz⟩ := hs n cs (by rw [hl]; simp [Kd.pair, Nat.add_assoc]) (fun g hg => hall g (List.mem_cons_of_mem _ hg))
  refine ⟨(y, z), ⟨_, _, ?_, hk, hz⟩, hok, hokz⟩
  rw [← List.drop_drop, List.take_append_drop]
theorem opens_struct {t : TypeId} {fs : Array Field} {α : Type} {d : Kd α} {ok : α → Prop} (ht : P.underlying t = some (.struct fs)) (hc : P.cellsOf t = d.sz) (h : OpensL enc P W base spare held fs.toList 0 d ok) :
    Opens enc P W base spare held t d ok := by
  intro fuel cs x hx
  obtain ⟨xs, n, _, _, hl, hlen, hall⟩ := DataW.trod_struct ht hx
  obtain ⟨y, hk, hok⟩ := h n cs (by rw [hl, hc]; omega) (fun f hf => by
    obtain ⟨i, hi⟩ := List.getElem?_of_mem hf
    have hi' : fs[i]? = some f := by rw [← Array.getElem?_toList]; exact hi
    have hlt := (Array.getElem?_eq_some_iff.1 hi').1
    exact ⟨_, (hall i f hi').trans (List.getElem?_eq_getElem (by omega))⟩)
  exact ⟨y, by simpa using hk, hok⟩
theorem opens_iso {t : TypeId} {α β : Type} {d : Kd α} {f : β → α} {ok : α → Prop} (g : α → β) (hg : ∀ z, f (g z) = z) (h : Opens enc P W base spare held t d ok) : Opens enc P W base spare held t (Kd.iso d f) (fun y => ok (f y)) := by
  intro fuel cs x hx
  obtain ⟨y, hk, hok⟩ := h _ _ _ hx
  exact ⟨g y, by show d.K W (f (g y)) cs; rw [hg]; exact hk, by show ok (f (g y)); rw [hg]; exact hok⟩
end
end Go.Proofs.Ytehekikjadjdaaa.Aux
