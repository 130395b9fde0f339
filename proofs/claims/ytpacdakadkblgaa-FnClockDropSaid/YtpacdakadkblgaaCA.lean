/- Proved here, without a condition beyond those that each theorem states: small facts for walks; drawn regions in an order that is told; maps of the call's own as functions of the key's value. Printed by ck.py, a program of this session. -/
import Derived.Test.YtpacdakadkblgaaPFnClockDropx0
import Derived.Maps.Keyed
import Derived.WideKeyEntry
namespace Go.Proofs.Ytpacdakadkblgaa.PFnClockDrop
open Go.RowKit Go.Proofs.YtpacdakadkblgaaW.PrintWords Go.Proofs.YtpacdakadkblgaaW.PrintLast Go.Proofs.YtpacdakadkblgaaW.PrintMore
set_option linter.unusedVariables false
set_option linter.unusedSimpArgs false
attribute [local go_sem ↓] isSome_setCell_
theorem bc (b : Bool) : b = false ∨ b = true := by cases b <;> simp
section
variable {P : Program} {ops : Array Oper} {Q : Exit → Act → World → Prop} {S : World → Prop}
/-- What is left to take, in this order (the slots that are written stand beside). -/
structure Via (is : List (Nat × Nat)) (p : Prop) : Prop where
  out : p
theorem via_start {id : Nat} {a : Act} {w : World} (is : List (Nat × Nat)) (hm : P.follows .mixedOrders = true) (hS : S w.drew)
    (h : S w.drew → Via is (wpAnyH P .any ops Q S ops.size (Array.replicate ops.size false) a w.drew)) : (Code.region id ops true).wp P Q a w :=
  wp_region_held_drew hm hS (fun h1 => (h h1).out)
theorem via_go {id : Nat} {a : Act} {w b : World} (_HM : Aside0 (∀ W, Below b.heap.size b W → S W)) (is : List (Nat × Nat)) (hm : P.follows .mixedOrders = true) (hS : S w.drew)
    (h : S w.drew → Via is (wpAnyH P .any ops Q S ops.size (Array.replicate ops.size false) a w.drew)) : (Code.region id ops true).wp P Q a w := via_start is hm hS h
theorem via_some {o : Option Oper} {d : Nat} (hd : o.map (·.dst) = some (some d)) : ∃ oi, o = some oi ∧ oi.dst = some d := by
  cases o with
  | none => cases hd
  | some oi => exact ⟨oi, rfl, by injection hd⟩
theorem via_take {i d : Nat} {is : List (Nat × Nat)} {oi : Oper} {v : Value} {fuel : Nat} {listed : Array Bool} {a : Act} {w : World} (hi : ops[i]? = some oi) (hd : (ops[i]?).map (·.dst) = some (some d))
    (hs : Region.noSelect ops = true) (hf : Region.free .any ops listed i = true) (hr : (Region.ready .any ops listed).contains i = true)
    (hQ : ∀ c a w, Q (.panic c) (a.put (some d) v) w → Q (.panic c) a w) (hy : YieldsIf P ops S oi v a) (hS : S w)
    (h : Via is (wpAnyH P .any ops Q S fuel (listed.setIfInBounds i true) (a.put (some d) v) w)) : Via ((i, d) :: is) (wpAnyH P .any ops Q S (fuel + 1) listed a w) := by
  obtain ⟨o, h1, h2⟩ := via_some hd
  obtain rfl := Option.some.inj (hi.symm.trans h1)
  exact ⟨wpAnyH_take hi hs hf hr (by rw [h2]; exact hQ) hy hS (by rw [h2]; exact h.out)⟩
theorem via_call {i d : Nat} {is : List (Nat × Nat)} {o : Oper} {fuel : Nat} {listed : Array Bool} {a : Act} {w : World} (ho : ops[i]? = some o)
    (hr : Region.ready .any ops listed = [i])
    (h : ∀ K' : Act → World → Prop, Shut (∀ a w, S w → (S w → Via is (wpAnyH P .any ops Q S fuel (listed.setIfInBounds i true) a w)) → K' a w) → if Region.wanted o (yielded ops a.tmps) = true then Oper.wp P o a w K' Q else K' (a.put o.dst undef) w) :
    Via ((i, d) :: is) (wpAnyH P .any ops Q S (fuel + 1) listed a w) :=
  ⟨wpAnyH_ready hr (by simp) (AllReadyH.cons ho (fun K' hK => h K' (fun a w h1 h2 => hK.out a w h1 (fun h3 => (h2 h3).out))) AllReadyH.nil)⟩
theorem via_done {fuel : Nat} {listed : Array Bool} {a : Act} {w : World} (hr : Region.ready .any ops listed = []) (h : Q .normal a w) :
    Via [] (wpAnyH P .any ops Q S fuel listed a w) := ⟨wpAnyH_done hr h fuel⟩
end
theorem wr64 {a b : Int} (h : a = b) (h1 : -9223372036854775808 ≤ b) (h2 : b < 9223372036854775808) : IntKind.i64.wrap a = b := by
  rw [h, IntKind.wrap_i64]; omega
theorem eqF_ {a b : Int} {v : Bool} (h : decide (a = b) = v) : (a == b) = v ∧ (a = b) = (v = true) ∧ (a != b) = (!v) := by
  subst h; exact ⟨rfl, by rw [decide_eq_true_eq], rfl⟩
theorem eqN_ {a b : Nat} {v : Bool} (c : Int) (hc : (b : Int) = c) (h : decide (a = b) = v) : (a == b) = v ∧ (a = b) = (v = true) ∧ decide ((a : Int) = c) = v ∧ ((a : Int) == c) = v ∧ ((a : Int) = c) = (v = true) ∧ ((a : Int) != c) = (!v) := by
  subst h hc
  have e : decide ((a : Int) = (b : Int)) = decide (a = b) := decide_eq_decide.2 Int.ofNat_inj
  exact ⟨(by rw [Bool.eq_iff_iff]; simp), by rw [decide_eq_true_eq], e, e, by rw [decide_eq_true_eq]; exact propext Int.ofNat_inj, by rw [← e]; rfl⟩

open Go.Maps (Keyed)
/-- No two entries at one key. -/
def KeysApart (l : List MapEntry) : Prop := ∀ (i j : Nat) (a b : MapEntry), l[i]? = some a → l[j]? = some b → a.key = b.key → i = j
/-- The block is a map whose elements are told by g; what is not in it is z. -/
structure MapO (P : Program) (k : TypeId) (z : Value) (g : Value → Value) (o : Obj) : Prop where
  out : ∃ (es : Array MapEntry) (clock : Nat), o = .map es clock ∧ (∀ x ∈ es.toList, x.born < clock) ∧ (es.toList.map (·.born)).Nodup ∧ (∀ x ∈ es.toList, ∃ l, keyOf P k x.key = some l) ∧ (∀ x ∈ es.toList, x.val = g x.key) ∧ (∀ key, (∀ x ∈ es.toList, x.key ≠ key) → g key = z) ∧ KeysApart es.toList
theorem mo_made (P : Program) (k : TypeId) (z : Value) : MapO P k z (fun _ => z) (.map #[] 0) :=
  ⟨#[], 0, rfl, by simp, by simp, by simp, by simp, by simp, fun i j a b h => by simp at h⟩
section
variable {P : Program} {k t e : TypeId} {z : Value} {g : Value → Value} {o : Obj} {w : World} {b : Nat} {key : Value} {kl : Lit}
theorem mo_look (K : Keyed P k) (ht : P.underlying t = some (.map k e)) (hz : ∀ u : World, (zeroValue e).run P u = .ok z u) (hb : w.heap[b]? = some o) (h : MapO P k z g o) (hkey : keyOf P k key = some kl) :
    (Instr.lookup t (.map (some b)) key false).run P w = .ok (g key) w := by
  obtain ⟨es, clock, rfl, -, -, h3, h4, h5, -⟩ := h.out
  rcases K.find w hkey es.toList h3 with ⟨h1, h2⟩ | ⟨j, e0, h1, h2, h6⟩
  · rw [h5 key h2]
    simp [Instr.lookup, run_underlying ht, MapKept.run_getObj_map hb, K.check w _ hkey, h1, hz, Result.andThen]
  · have hv := h4 e0 (List.mem_of_getElem? h2)
    rw [h6] at hv
    rw [← hv]
    simp [Instr.lookup, run_underlying ht, MapKept.run_getObj_map hb, K.check w _ hkey, h1, Result.andThen]
/-- The map, an element of it told anew. -/
def SetAt (g : Value → Value) (key val : Value) (g' : Value → Value) : Prop := g' key = val ∧ ∀ x, x ≠ key → g' x = g x
theorem born_pushed {es : Array MapEntry} {clock : Nat} {key v : Value} (s1 : ∀ x ∈ es.toList, x.born < clock) (s2 : (es.toList.map (·.born)).Nodup) :
    (∀ x ∈ (es.push ⟨key, v, clock⟩).toList, x.born < clock + 1) ∧ ((es.push ⟨key, v, clock⟩).toList.map (·.born)).Nodup := by
  constructor
  · intro x hx
    rw [Array.toList_push, List.mem_append] at hx
    rcases hx with hx | hx
    · have := s1 x hx; omega
    · rw [List.mem_singleton] at hx; subst hx; show clock < clock + 1; omega
  · rw [Array.toList_push, List.map_append]
    refine List.nodup_append.2 ⟨s2, by simp, fun a ha c hc e1 => ?_⟩
    simp only [List.map_cons, List.map_nil, List.mem_singleton] at hc
    obtain ⟨x, hx, rfl⟩ := List.mem_map.1 ha
    have := s1 x hx
    omega
theorem mo_pushed {es : Array MapEntry} {clock : Nat} {v : Value} {g' : Value → Value} (s1 : ∀ x ∈ es.toList, x.born < clock) (s2 : (es.toList.map (·.born)).Nodup) (h3 : ∀ x ∈ es.toList, ∃ l, keyOf P k x.key = some l) (h4 : ∀ x ∈ es.toList, x.val = g x.key) (h5 : ∀ key, (∀ x ∈ es.toList, x.key ≠ key) → g key = z) (h6 : KeysApart es.toList)
    (hkey : keyOf P k key = some kl) (hne : ∀ x ∈ es.toList, x.key ≠ key) (hg : SetAt g key v g') : MapO P k z g' (.map (es.push ⟨key, v, clock⟩) (clock + 1)) := by
  obtain ⟨t1, t2⟩ := born_pushed (key := key) (v := v) s1 s2
  refine ⟨_, _, rfl, t1, t2, ?_, ?_, ?_, ?_⟩
  · intro x hx
    rw [Array.toList_push, List.mem_append] at hx
    rcases hx with hx | hx
    · exact h3 x hx
    · rw [List.mem_singleton] at hx; subst hx; exact ⟨kl, hkey⟩
  · intro x hx
    rw [Array.toList_push, List.mem_append] at hx
    rcases hx with hx | hx
    · rw [h4 x hx, hg.2 _ (hne x hx)]
    · rw [List.mem_singleton] at hx; subst hx; exact hg.1.symm
  · intro q hq
    rw [Array.toList_push] at hq
    have hqk : q ≠ key := fun h => hq ⟨key, v, clock⟩ (by simp) h.symm
    rw [hg.2 q hqk]
    exact h5 q (fun x hx => hq x (by simp [hx]))
  · intro i j a c ha hc he
    rw [Array.toList_push, List.getElem?_append] at ha hc
    by_cases hi : i < es.toList.length <;> by_cases hj : j < es.toList.length
    · rw [if_pos hi] at ha
      rw [if_pos hj] at hc
      exact h6 i j a c ha hc he
    · rw [if_pos hi] at ha
      rw [if_neg hj] at hc
      have hc2 := List.mem_singleton.1 (List.mem_of_getElem? hc)
      subst hc2
      exact absurd he (hne a (List.mem_of_getElem? ha))
    · rw [if_neg hi] at ha
      rw [if_pos hj] at hc
      have ha2 := List.mem_singleton.1 (List.mem_of_getElem? ha)
      subst ha2
      exact absurd he.symm (hne c (List.mem_of_getElem? hc))
    · rw [if_neg hi] at ha
      rw [if_neg hj] at hc
      have h1 := (List.getElem?_eq_some_iff.1 ha).1
      have h2 := (List.getElem?_eq_some_iff.1 hc).1
      simp at h1 h2
      simp at hi hj
      omega
theorem mem_modify {es : Array MapEntry} {j : Nat} {f : MapEntry → MapEntry} {e0 x : MapEntry} (h : es.toList[j]? = some e0) (hx : x ∈ (es.modify j f).toList) : x = f e0 ∨ ∃ i, i ≠ j ∧ es.toList[i]? = some x := by
  rw [Array.toList_modify] at hx
  obtain ⟨i, hi⟩ := List.getElem?_of_mem hx
  rw [List.getElem?_modify] at hi
  by_cases hij : j = i
  · subst hij
    rw [h] at hi
    simp at hi
    exact Or.inl hi.symm
  · simp [hij] at hi
    exact Or.inr ⟨i, fun h => hij h.symm, by simpa using hi⟩
theorem mo_modified {es : Array MapEntry} {clock j : Nat} {v : Value} {g' : Value → Value} {e0 : MapEntry} (s1 : ∀ x ∈ es.toList, x.born < clock) (s2 : (es.toList.map (·.born)).Nodup) (h3 : ∀ x ∈ es.toList, ∃ l, keyOf P k x.key = some l) (h4 : ∀ x ∈ es.toList, x.val = g x.key) (h5 : ∀ key, (∀ x ∈ es.toList, x.key ≠ key) → g key = z) (h6 : KeysApart es.toList)
    (hj : es.toList[j]? = some e0) (he : e0.key = key) (hg : SetAt g key v g') : MapO P k z g' (.map (es.modify j fun x => { x with key := key, val := v }) clock) := by
  have hm : ∀ x ∈ (es.modify j fun x => { x with key := key, val := v }).toList, (x.key = key ∧ x.val = v ∧ x.born = e0.born) ∨ (x.key ≠ key ∧ x ∈ es.toList) := by
    intro x hx
    rcases mem_modify hj hx with rfl | ⟨i, hij, hi⟩
    · exact Or.inl ⟨rfl, rfl, rfl⟩
    · exact Or.inr ⟨fun h => hij (h6 i j x e0 hi hj (h.trans he.symm)), List.mem_of_getElem? hi⟩
  have hk : (es.modify j fun x => { x with key := key, val := v }).toList.map (·.born) = es.toList.map (·.born) := by
    rw [Array.toList_modify]
    apply List.ext_getElem?
    intro i
    rw [List.getElem?_map, List.getElem?_map, List.getElem?_modify]
    by_cases hi : j = i
    · subst hi; rw [hj]; simp
    · simp [hi]
  have hk2 : (es.modify j fun x => { x with key := key, val := v }).toList.map (·.key) = es.toList.map (·.key) := by
    rw [Array.toList_modify]
    apply List.ext_getElem?
    intro i
    rw [List.getElem?_map, List.getElem?_map, List.getElem?_modify]
    by_cases hi : j = i
    · subst hi; rw [hj]; simp [he]
    · simp [hi]
  refine ⟨_, _, rfl, ?_, by rw [hk]; exact s2, ?_, ?_, ?_, ?_⟩
  · intro x hx
    rcases hm x hx with ⟨-, -, hb⟩ | ⟨-, hx⟩
    · rw [hb]; exact s1 e0 (List.mem_of_getElem? hj)
    · exact s1 x hx
  · intro x hx
    rcases hm x hx with ⟨hb, -⟩ | ⟨-, hx⟩
    · rw [hb, ← he]; exact h3 e0 (List.mem_of_getElem? hj)
    · exact h3 x hx
  · intro x hx
    rcases hm x hx with ⟨ha, hb, -⟩ | ⟨hn, hx⟩
    · rw [ha, hb]; exact hg.1.symm
    · rw [hg.2 _ hn]; exact h4 x hx
  · intro q hq
    have hq2 : ∀ x ∈ es.toList, x.key ≠ q := by
      intro x hx hxq
      have h1 : q ∈ (es.modify j fun x => { x with key := key, val := v }).toList.map (·.key) := by rw [hk2]; exact List.mem_map.2 ⟨x, hx, hxq⟩
      obtain ⟨y, hy, hyq⟩ := List.mem_map.1 h1
      exact hq y hy hyq
    have hqk : q ≠ key := fun h => hq2 e0 (List.mem_of_getElem? hj) (he.trans h.symm)
    rw [hg.2 q hqk]
    exact h5 q hq2
  · intro i i' a c ha hc hac
    have e1 : ∀ (n : Nat) (a : MapEntry), (es.modify j fun x => { x with key := key, val := v }).toList[n]? = some a → ∃ a' : MapEntry, es.toList[n]? = some a' ∧ a'.key = a.key := by
      intro n a h
      have h1 := List.getElem?_map (f := (·.key)) (l := (es.modify j fun x => { x with key := key, val := v }).toList) (i := n)
      rw [hk2, h, List.getElem?_map] at h1
      cases h2 : es.toList[n]? with
      | none => rw [h2] at h1; simp at h1
      | some a' => rw [h2] at h1; simp at h1; exact ⟨a', rfl, h1⟩
    obtain ⟨a', ha', ka⟩ := e1 i a ha
    obtain ⟨c', hc', kc⟩ := e1 i' c hc
    exact h6 i i' a' c' ha' hc' (by rw [ka, kc, hac])
theorem mo_update (K : Keyed P k) (ht : P.underlying t = some (.map k e)) (hb : w.heap[b]? = some o) (h : MapO P k z g o) (hkey : keyOf P k key = some kl) {v : Value} {g' : Value → Value} (hg : SetAt g key v g') :
    ∃ o', (Instr.mapUpdate t (.map (some b)) key v).run P w = .ok () (Go.ChangeMaps.setBlock w b o') ∧ MapO P k z g' o' := by
  obtain ⟨es, clock, rfl, s1, s2, h3, h4, h5, h6⟩ := h.out
  rcases K.find w hkey es.toList h3 with ⟨h1, h2⟩ | ⟨j, e0, h1, h2, h7⟩
  · refine ⟨_, ?_, mo_pushed s1 s2 h3 h4 h5 h6 hkey h2 hg⟩
    simp [Instr.mapUpdate, run_underlying ht, MapKept.run_getObj_map hb, K.check w false hkey, h1, MapKept.run_setObj_map _ hb, Result.andThen, Go.ChangeMaps.setBlock]
  · refine ⟨_, ?_, mo_modified s1 s2 h3 h4 h5 h6 h2 h7 hg⟩
    have hj : es[j]? = some e0 := by simpa using h2
    simp [Instr.mapUpdate, run_underlying ht, MapKept.run_getObj_map hb, K.check w false hkey, h1, hj, h7, K.stays w hkey, MapKept.run_setObj_map _ hb, Result.andThen, Go.ChangeMaps.setBlock]
/-- 'm[k] += ..': first the entry, then its value. -/
theorem mo_entry (K : Keyed P k) (ht : P.underlying t = some (.map k e)) (hz : ∀ u : World, (zeroValue e).run P u = .ok z u) (hb : w.heap[b]? = some o) (h : MapO P k z g o) (hkey : keyOf P k key = some kl) :
    ∃ (st : Nat) (o1 : Obj), (Instr.mapEntry t (.map (some b)) key).run P w = .ok (.tuple #[g key, goInt st]) (Go.ChangeMaps.setBlock w b o1) ∧ MapO P k z g o1 ∧
      ∀ (w2 : World) (v : Value) (g' : Value → Value), w2.heap[b]? = some o1 → SetAt g key v g' → ∃ o2, (Instr.entryStore t (.map (some b)) (goInt st) v).run P w2 = .ok () (Go.ChangeMaps.setBlock w2 b o2) ∧ MapO P k z g' o2 := by
  obtain ⟨es, clock, rfl, s1, s2, h3, h4, h5, h6⟩ := h.out
  rcases K.find w hkey es.toList h3 with ⟨h1, h2⟩ | ⟨j, e0, h1, h2, h7⟩
  · have hgz := h5 key h2
    refine ⟨clock, .map (es.push ⟨key, z, clock⟩) (clock + 1), ?_, mo_pushed s1 s2 h3 h4 h5 h6 hkey h2 ⟨hgz, fun _ _ => rfl⟩, fun w2 v g' hw2 hg => ⟨.map (es.push ⟨key, v, clock⟩) (clock + 1), ?_, mo_pushed s1 s2 h3 h4 h5 h6 hkey h2 hg⟩⟩
    · rw [hgz]
      simp [Instr.mapEntry, run_underlying ht, MapKept.run_getObj_map hb, K.check w false hkey, h1, hz, MapKept.run_setObj_map _ hb, Result.andThen, Go.ChangeMaps.setBlock]
    · have hidx : (es.push ⟨key, z, clock⟩).findIdx? (fun e => ((e.born : Nat) : Int) == ((clock : Nat) : Int)) = some es.size := by
        rw [Go.WideElems.findIdx_arr]
        have := Go.WideElems.findIdx_born (l := (es.push ⟨key, z, clock⟩).toList) (j := es.size) (e0 := ⟨key, z, clock⟩) (born_pushed (key := key) (v := z) s1 s2).2 (by simp)
        exact this
      have hmod : (es.push ⟨key, z, clock⟩).modify es.size (fun e => { e with val := v }) = es.push ⟨key, v, clock⟩ := by
        apply Array.ext'
        rw [Array.toList_modify, Array.toList_push, Array.toList_push, ← Array.length_toList, Go.WideElems.modify_last]
      simp [Instr.entryStore, MapKept.run_getObj_map hw2, asInt, asIntOf, goInt, hidx, hmod, MapKept.run_setObj_map _ hw2, Result.andThen, Go.ChangeMaps.setBlock]
  · have hv := h4 e0 (List.mem_of_getElem? h2)
    rw [h7] at hv
    have hj : es[j]? = some e0 := by simpa using h2
    have hsame : es.modify j (fun e => { e with key := key }) = es := by
      apply Array.ext'
      rw [Array.toList_modify, Go.ChangeMaps.modify_eq_set _ _ _ _ h2]
      have : ({ e0 with key := key } : MapEntry) = e0 := by rw [← h7]
      rw [this]
      exact Go.WideElems.set_self _ _ _ h2
    refine ⟨e0.born, .map es clock, ?_, h, fun w2 v g' hw2 hg => ⟨_, ?_, mo_modified s1 s2 h3 h4 h5 h6 h2 h7 hg⟩⟩
    · rw [← hv]
      simp [Instr.mapEntry, run_underlying ht, MapKept.run_getObj_map hb, K.check w false hkey, h1, hj, h7, K.stays w hkey, hsame, MapKept.run_setObj_map _ hb, Result.andThen, Go.ChangeMaps.setBlock]
    · have hidx : es.findIdx? (fun e => ((e.born : Nat) : Int) == ((e0.born : Nat) : Int)) = some j := by
        rw [Go.WideElems.findIdx_arr]
        exact Go.WideElems.findIdx_born s2 h2
      have hmod : es.modify j (fun e => { e with val := v }) = es.modify j (fun e' => { e' with key := key, val := v }) := by
        apply Array.ext'
        rw [Array.toList_modify, Array.toList_modify, Go.ChangeMaps.modify_eq_set _ _ _ _ h2, Go.ChangeMaps.modify_eq_set _ _ _ _ h2, ← h7]
      simp [Instr.entryStore, MapKept.run_getObj_map hw2, asInt, asIntOf, goInt, hidx, hmod, MapKept.run_setObj_map _ hw2, Result.andThen, Go.ChangeMaps.setBlock]
end

theorem keyed3 : Go.Maps.Keyed Try.prog 3 := Go.Maps.int_keyed (q := .i64) Try.underlying3
def I64 (a : Int) : Prop := (Lit.int .i64 a).wf = true
theorem i64_ {a : Int} (h1 : -9223372036854775808 ≤ a) (h2 : a < 9223372036854775808) : I64 a := by
  unfold I64
  have e1 : IntKind.i64.min = -9223372036854775808 := by decide
  have e2 : IntKind.i64.max = 9223372036854775807 := by decide
  simp [Lit.wf, e1, e2]
  omega
theorem key3 {a : Int} (h : I64 a) : keyOf Try.prog 3 (.int .i64 a) = some (.int .i64 a) := Go.Maps.keyOf_int_mk Try.underlying3 h
open Go.ChangeMaps (setBlock)
theorem setb_same {w : World} {b : Nat} {o0 : Obj} (hb : w.heap[b]? = some o0) (o : Obj) : (setBlock w b o).heap[b]? = some o := by
  have hlt : b < w.heap.size := (Array.getElem?_eq_some_iff.1 hb).1
  simp [setBlock, hlt]
theorem setb_far {w : World} {b c : Nat} {o1 : Obj} (h : w.heap[c]? = some o1) (hne : c ≠ b) (o : Obj) : (setBlock w b o).heap[c]? = some o1 := by
  have : b ≠ c := fun e => hne e.symm
  simp [setBlock, Array.getElem?_setIfInBounds, this, h]
theorem below_setb {w W : World} {b : Nat} (h : Below w.heap.size w W) (hb : w.heap.size ≤ b) (o : Obj) : Below w.heap.size w (setBlock W b o) :=
  ⟨h.os, h.tape, h.output, by simp [setBlock]; exact h.size, fun k hk => by
    have : b ≠ k := by omega
    simp [setBlock, Array.getElem?_setIfInBounds, this]
    exact h.block k hk⟩
section
variable {P : Program} {ops : Array Oper} {rest : List Oper} {o : Oper} {a : Act} {Q : Exit → Act → World → Prop}
theorem map_event {W : World} (hgd : o.guard = none) {N : Tmp} (_hd : o.dst = some N) (t : TypeId) (ho : o.op = .makeMap t none)
    (h : ∀ g, g = W.heap.size → ∀ w1, w1.heap[g]? = some (.map #[] 0) → Below W.heap.size W w1 → wpList P ops Q rest (a.put o.dst (.map (some g))) w1) : wpList P ops Q (o :: rest) a W := by
  refine Kd.event_run hgd (v := .map (some W.heap.size)) (w1 := W.alloc (.map #[] 0)) ?_ (h _ rfl _ (blk_new W _) (below_alloc (Below.refl _ _) _))
  simp [execOp, ho, run_makeMap]
theorem mapup_event {W : World} {b : Nat} {k t e : TypeId} {z : Value} {g g' : Value → Value} {ob : Obj} {key val : Value} {kl : Lit} (hgd : o.guard = none) (x y v : Operand) (ho : o.op = .mapUpdate t x y v)
    (hx : a.eval x = .map (some b)) (hy : a.eval y = key) (hv : a.eval v = val) (K : Go.Maps.Keyed P k) (ht : P.underlying t = some (.map k e)) (hb : W.heap[b]? = some ob) (hm : MapO P k z g ob) (hkey : keyOf P k key = some kl) (hg : SetAt g key val g')
    (h : ∀ o1, MapO P k z g' o1 → wpList P ops Q rest (a.put o.dst undef) (setBlock W b o1)) : wpList P ops Q (o :: rest) a W := by
  refine wpList_plain hgd fun K' hK' => ?_
  obtain ⟨o1, hrun, r1⟩ := mo_update K ht hb hm hkey hg
  unfold Oper.wp
  simp [execOp, ho, hx, hy, hv, hrun, Result.andThen]
  exact hK' _ _ (h o1 r1)
end
/-- One element told anew, the others as they were. -/
theorem set_any (g : Value → Value) (key val : Value) : ∃ g', SetAt g key val g' := by
  classical
  exact ⟨fun x => if x = key then val else g x, by simp, fun x hx => by simp [hx]⟩

theorem wrapE_ (z : Int) : IntKind.i64.wrap z = wrap64 z := by rw [IntKind.wrap_i64]; unfold wrap64; omega
theorem cy3 {w : World} {g : Nat} {t : TypeId} {x0 x1 x2 : Value} (h : w.heap[g]? = some (.cells #[x0, x1, x2] t (0, 0))) : w.cell? ⟨g, 0, none⟩ = some x0 ∧ w.cell? ⟨g, 1, none⟩ = some x1 ∧ w.cell? ⟨g, 2, none⟩ = some x2 := ⟨cz0 h, cz1 h, cz2 h⟩
theorem zero4 (u : World) : (zeroValue 4).run Try.prog u = .ok (.bool false) u := by
  unfold zeroValue typeInfo
  have h : (Try.prog.info? 4).map (fun i => i.zero) = some (some (.bool false)) := by kernel_rfl
  obtain ⟨i, hi, h2⟩ := Option.map_eq_some_iff.1 h
  simp [hi, h2]
def inB (a lo hi : Int) : Bool := decide (lo ≤ a) && decide (a ≤ hi)
theorem inB_iff {a lo hi : Int} : inB a lo hi = true ↔ lo ≤ a ∧ a ≤ hi := by unfold inB; rw [Bool.and_eq_true, decide_eq_true_eq, decide_eq_true_eq]
set_option maxHeartbeats 4000000 in
set_option maxRecDepth 100000 in
theorem in_ (a lo hi : Int) (w : World) : Calls Try.prog 19 #[.int .i64 a, .int .i64 lo, .int .i64 hi] w fun e w' => e = .returned (.bool (inB a lo hi)) ∧ Below w.heap.size w w' := by
  have HB := Am (bJ w.heap.size w)
  by_cases h1 : lo ≤ a
  all_goals by_cases h2 : a ≤ hi
  all_goals
    go_enter Try.func19, Try.ntmps19
    go_wp2
    go_ret
    exact ⟨by simp [inB, *], HB.out⟩
/-- What byTime answers. -/
def byT (a b : S35) : Int := if a.f1 = b.f1 then wrap64 (a.f0 - b.f0) else wrap64 (a.f1 - b.f1)
/-- Alarm i. -/
def aT (l : List S35) (i : Nat) : S35 := rd_T35 l (i : Int)
/-- The elements of a row that is read, at any later world. -/
theorem atA {w : World} {A : Option Addr} {n : Nat} {l : List S35} (h : Kd.C k35 w A n l) (hn : 0 < n) : ∃ ad, A = some ad ∧ ∀ x, x < n → ∀ W, Below w.heap.size w W →
    W.cell? (ad.add (x * 3)) = some (.int .i64 (aT l x).f0) ∧ W.cell? ⟨(ad.add (x * 3)).block, (ad.add (x * 3)).off + 1, none⟩ = some (.int .i64 (aT l x).f1) ∧ W.cell? ⟨(ad.add (x * 3)).block, (ad.add (x * 3)).off + 2, none⟩ = some (.int .i64 (aT l x).f2) := by
  obtain ⟨ad, rfl, -⟩ := at_T35 h 0 (by omega) (by omega)
  refine ⟨ad, rfl, fun x hx W hb => ?_⟩
  obtain ⟨ad', e, h0, h1, h2⟩ := at_T35 (cB h hb) (x : Int) (by omega) (by omega)
  obtain rfl := Option.some.inj e
  rw [Int.toNat_natCast] at h0 h1 h2
  exact ⟨h0, h1, h2⟩
theorem w64_ {x : Int} (h0 : -9223372036854775808 ≤ x) (h1 : x < 9223372036854775808) : wrap64 x = x := by unfold wrap64; omega
section
variable {P : Program} {ops : Array Oper} {Q : Exit → Act → World → Prop} {S : World → Prop}
/-- Two are left to take: either one first. -/
theorem via_two {i j : Nat} (is1 is2 : List (Nat × Nat)) {is : List (Nat × Nat)} {o1 o2 : Oper} {fuel : Nat} {listed : Array Bool} {a : Act} {w : World} (h1 : ops[i]? = some o1) (h2 : ops[j]? = some o2) (hr : Region.ready .any ops listed = [i, j])
    (k1 : ∀ K' : Act → World → Prop, Shut (∀ a w, S w → (S w → Via is1 (wpAnyH P .any ops Q S fuel (listed.setIfInBounds i true) a w)) → K' a w) → if Region.wanted o1 (yielded ops a.tmps) = true then Oper.wp P o1 a w K' Q else K' (a.put o1.dst undef) w)
    (k2 : ∀ K' : Act → World → Prop, Shut (∀ a w, S w → (S w → Via is2 (wpAnyH P .any ops Q S fuel (listed.setIfInBounds j true) a w)) → K' a w) → if Region.wanted o2 (yielded ops a.tmps) = true then Oper.wp P o2 a w K' Q else K' (a.put o2.dst undef) w) :
    Via is (wpAnyH P .any ops Q S (fuel + 1) listed a w) :=
  ⟨wpAnyH_ready hr (by simp) (AllReadyH.cons h1 (fun K' hK => k1 K' (fun a w h1 h2 => hK.out a w h1 (fun h3 => (h2 h3).out))) (AllReadyH.cons h2 (fun K' hK => k2 K' (fun a w h1 h2 => hK.out a w h1 (fun h3 => (h2 h3).out))) AllReadyH.nil))⟩
end
end Go.Proofs.Ytpacdakadkblgaa.PFnClockDrop
