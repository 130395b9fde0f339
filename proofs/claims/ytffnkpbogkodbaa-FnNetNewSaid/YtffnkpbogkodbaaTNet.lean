/- Proved here, without a condition beyond those that each theorem states: a net of sockets of zeros is found valid by impl.NetOk. -/
import Derived.Test.YtffnkpbogkodbaaPFnNetNewx0
import Derived.Carry
namespace Go.Proofs.Ytffnkpbogkodbaa.PFnNetNew
open Go.RowKit Go.Proofs.YtffnkpbogkodbaaW.PrintWords Go.Proofs.YtffnkpbogkodbaaW.PrintLast Go.Proofs.YtffnkpbogkodbaaW.PrintMore
set_option linter.unusedVariables false
def zeroS (x : S62) : Bool := x.f0 == 0 && (x.f1.size == 0 && (x.f2 == 0 && (x.f3.size == 0 && (!x.f4 && x.f5.length == 0))))
def impl_NetOk.f (l : List S62) : Option Bool := if l.length = 8 ∧ l.all zeroS = true then some true else none
theorem zero_at {l : List S62} (h : l.all zeroS = true) (h8 : l.length = 8) (i : Int) (h0 : 0 ≤ i) (h1 : i < 8) : rd_T62 l i = ⟨0, ⟨#[]⟩, 0, ⟨#[]⟩, false, []⟩ := by
  have hi : i.toNat < l.length := by omega
  have hm : l[i.toNat] ∈ l := List.getElem_mem hi
  have hz := List.all_eq_true.1 h _ hm
  unfold rd_T62
  rw [List.getD_eq_getElem?_getD, List.getElem?_eq_getElem hi]
  show l[i.toNat] = _
  generalize l[i.toNat] = y at hz ⊢
  obtain ⟨a, b, c, d, e, f⟩ := y
  simp only [zeroS, Bool.and_eq_true, beq_iff_eq, Bool.not_eq_true'] at hz
  obtain ⟨h1, h2, h3, h4, h5, h6⟩ := hz
  have hb : b = ⟨#[]⟩ := by
    obtain ⟨⟨z⟩⟩ := b
    have : z.length = 0 := h2
    rw [List.length_eq_zero_iff.1 this]
  have hd : d = ⟨#[]⟩ := by
    obtain ⟨⟨z⟩⟩ := d
    have : z.length = 0 := h4
    rw [List.length_eq_zero_iff.1 this]
  have hf : f = [] := List.length_eq_zero_iff.1 h6
  subst h1 hb h3 hd h5 hf
  rfl
theorem mk8 : ∃ M, ∀ W : World, (Instr.makeSlice 33 (.int .i64 8) (.int .i64 8)).run Try.prog W = .ok (.slice (some ⟨W.heap.size, 0, none⟩) 8 8) (W.alloc (.cells M 3)) := by
  have h3 : (Try.prog.info? 3).map (fun i => (i.zero, i.size, i.bytes)) = some (some (.int .i64 0), 1, 8) := by kernel_rfl
  cases hi : Try.prog.info? 3 with
  | none => rw [hi] at h3; cases h3
  | some i =>
    rw [hi] at h3
    injection h3 with h3
    injection h3 with hz h3
    injection h3 with hs hb
    refine ⟨madeCells (Value.int .i64 0).cells ((8 : Int).toNat * i.size), fun W => ?_⟩
    exact run_makeSlice W 33 3 i (.int .i64 0) Try.underlying33 hi hz .i64 .i64 8 8 (by decide) (by decide) (by rw [hs]; decide) (by rw [hb]; decide) (by decide)
set_option maxHeartbeats 2000000 in
set_option maxRecDepth 100000 in
theorem impl_NetOk.calls (A0_0 : Option Addr) (c0_0 : Nat) (l0_0 : List S62) (r : Bool) (w : World) (hr0_0 : Kd.C k62 w A0_0 l0_0.length l0_0) (hc0_0 : l0_0.length ≤ c0_0) (h : impl_NetOk.f l0_0 = some r) :
  Calls Try.prog 10 #[.agg #[.slice A0_0 l0_0.length c0_0]] w fun e w' => e = .returned (.bool r) ∧ Below w.heap.size w w' := by
  have hu25 := Try.underlying25
  have hu23 := Try.underlying23
  have hu62 := Try.underlying62
  have hu33 := Try.underlying33
  have hu64 := Try.underlying64
  have hu3 := Try.underlying3
  unfold impl_NetOk.f at h
  have hz : l0_0.length = 8 ∧ l0_0.all zeroS = true := by
    by_cases c : l0_0.length = 8 ∧ l0_0.all zeroS = true
    · exact c
    · rw [if_neg c] at h; cases h
  rw [if_pos hz] at h
  obtain rfl := Option.some.inj h
  obtain ⟨h8, hz⟩ := hz
  have Z := fun (i : Int) (h0 : 0 ≤ i) (h1 : i < 8) => zero_at hz h8 i h0 h1
  rw [h8] at hr0_0 hc0_0 ⊢
  have HR := Am hr0_0
  have HZ := Am Z
  clear h hr0_0 hc0_0 h8 hz Z
  have HB := Am (Below.refl w.heap.size w)
  have km := fun W => run_makeMap (P := Try.prog) 64 W
  obtain ⟨M8, ks⟩ := mk8
  go_enter Try.func10, Try.ntmps10
  go_wp2_with (first | ((with_reducible refine gate_dst (N := 1) rfl ?_); refine box_event ?hg (N := 1) ?hd (cs := #[.slice A0_0 8 c0_0]) (t := 25) ?hr ?_; (case hd => rfl); (case hg => rfl); (case hr => first | (go_simp; done) | (go_simp; rfl)); intro g1 hg w2 hbox hb; have n0_ := Am (cB HR.out hb); have n1_ := Am hb; have n2_ := Am hbox; clear HR HB hb hbox hg; have hcz : w2.cell? ⟨g1, 0, none⟩ = some (.slice A0_0 8 c0_0) := (bC n2_.out 0).trans rfl; have hcz2 : ((w2.alloc (.map #[] 0)).alloc (.cells M8 3)).cell? ⟨g1, 0, none⟩ = some (.slice A0_0 8 c0_0) := (bC (bA (bA n2_.out _) _) 0).trans rfl))
  go_loopg [20] 9 (fun kq v20 w' => ∃ x : Int, v20 = .int .i64 x ∧ Aside0 (0 ≤ x) ∧ Aside0 (x ≤ 8) ∧ Aside0 (8 - x.toNat ≤ kq) ∧ Aside0 (Below w.heap.size w w') ∧ Aside0 (k62.C w' A0_0 8 l0_0) ∧ Aside0 (w'.heap[g1]? = some (.cells #[.slice A0_0 8 c0_0] 25 (0, 0))))
  case atStart => exact ⟨0, rfl, ⟨by omega⟩, ⟨by omega⟩, ⟨by omega⟩, ⟨by repeat (first | exact n1_.out | apply oA)⟩, ⟨cA (cA n0_.out _) _⟩, ⟨bA (bA n2_.out _) _⟩⟩
  case round =>
    obtain ⟨x, rfl, H0, H1, H2, BW, HC, HX⟩ := hrel
    by_cases hlt : x < 8
    · obtain ⟨ad, A5, c5, e, hx0, hx1, hx2, hx3, hx4, hx5, l5, g5⟩ := at_T62 HC.out x H0.out hlt
      cases e
      have hz := HZ.out x H0.out hlt
      rw [hz] at hx0 hx1 hx2 hx3 hx4 hx5
      have c1 : decide (x < 8) = true := decide_eq_true hlt
      have p1 := eq_true H0.out
      have p2 := eq_true hlt
      have H3 := Am hlt
      clear hlt hz l5 g5
      go_wp2
      go_roundg (8 - (x.toNat + 1))
      case measure => have := H0.out; have := H2.out; have := H3.out; omega
      case rel =>
        have h0 := H0.out
        have h3 := H3.out
        have hw : wrap64 (x + 1) = x + 1 := by unfold wrap64; omega
        exact ⟨wrap64 (x + 1), rfl, ⟨by omega⟩, ⟨by omega⟩, ⟨by omega⟩, ⟨by repeat (first | exact BW.out | apply oA)⟩, ⟨cA HC.out _⟩, ⟨bA HX.out _⟩⟩
    · have c1 : decide (x < 8) = false := decide_eq_false hlt
      clear hlt
      have hcz3 := (bC HX.out 0).trans rfl
      go_wp2
      go_loopg [57] 9 (fun kq v20 w' => ∃ x : Int, v20 = .int .i64 x ∧ Aside0 (0 ≤ x) ∧ Aside0 (x ≤ 8) ∧ Aside0 (8 - x.toNat ≤ kq) ∧ Aside0 (Below w.heap.size w w') ∧ Aside0 (k62.C w' A0_0 8 l0_0) ∧ Aside0 (w'.heap[g1]? = some (.cells #[.slice A0_0 8 c0_0] 25 (0, 0))))
      case atStart => exact ⟨0, rfl, ⟨by omega⟩, ⟨by omega⟩, ⟨by omega⟩, BW, HC, HX⟩
      case round =>
        clear H0 H1 H2 BW HC HX c1
        obtain ⟨x, rfl, H0, H1, H2, BW, HC, HX⟩ := hrel
        by_cases hlt : x < 8
        · obtain ⟨ad, A5, c5, e, hx0, hx1, hx2, hx3, hx4, hx5, l5, g5⟩ := at_T62 HC.out x H0.out hlt
          cases e
          have hz := HZ.out x H0.out hlt
          rw [hz] at hx0 hx1 hx2 hx3 hx4 hx5
          have c1 : decide (x < 8) = true := decide_eq_true hlt
          have p1 := eq_true H0.out
          have p2 := eq_true hlt
          have H3 := Am hlt
          clear hlt hz l5 g5
          go_wp2
          go_roundg (8 - (x.toNat + 1))
          case measure => have := H0.out; have := H2.out; have := H3.out; omega
          case rel =>
            have h0 := H0.out
            have h3 := H3.out
            have hw : wrap64 (x + 1) = x + 1 := by unfold wrap64; omega
            exact ⟨wrap64 (x + 1), rfl, ⟨by omega⟩, ⟨by omega⟩, ⟨by omega⟩, ⟨by repeat (first | exact BW.out | apply oA)⟩, ⟨cA HC.out _⟩, ⟨bA HX.out _⟩⟩
        · have c1 : decide (x < 8) = false := decide_eq_false hlt
          go_wp2
          go_ret
          exact ⟨rfl, BW.out⟩
end Go.Proofs.Ytffnkpbogkodbaa.PFnNetNew
