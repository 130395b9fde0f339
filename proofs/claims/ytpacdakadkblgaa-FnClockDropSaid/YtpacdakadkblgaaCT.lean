/- Proved here, without a condition beyond those that each theorem states: (impl.Clock).at. Printed by ck.py, a program of this session. -/
import Derived.Test.YtpacdakadkblgaaCA
namespace Go.Proofs.Ytpacdakadkblgaa.PFnClockDrop
open Go.RowKit Go.Proofs.YtpacdakadkblgaaW.PrintWords Go.Proofs.YtpacdakadkblgaaW.PrintLast Go.Proofs.YtpacdakadkblgaaW.PrintMore
set_option linter.unusedVariables false
set_option linter.unusedSimpArgs false
attribute [local go_sem ↓] isSome_setCell_
set_option maxHeartbeats 4000000 in
set_option maxRecDepth 100000 in
theorem atPred_ (x : S35) (id : Int) (pg : Nat) (w : World) (hc : w.heap[pg]? = some (.cells #[.int .i64 id] 3 (0, 0))) :
  Calls Try.prog 26 #[.agg #[.int .i64 x.f0, .int .i64 x.f1, .int .i64 x.f2], .pointer (some ⟨pg, 0, none⟩)] w fun e w' => e = .returned (.bool (x.f0 == id)) ∧ Below w.heap.size w w' := by
  have hu35 := Try.underlying35
  have HP := Am hc
  clear hc
  have HB := Am (bJ w.heap.size w)
  go_enter Try.func26, Try.ntmps26
  go_wp2_with (first
      | ((with_reducible refine gate_dst (N := 2) rfl ?_); refine box_event ?hg (N := 2) ?hd (cs := #[.int .i64 x.f0, .int .i64 x.f1, .int .i64 x.f2]) (t := 35) ?hr ?_; (case hd => rfl); (case hg => rfl); (case hr => first | (go_simp; done) | (go_simp; rfl)); intro gCa hg w_ hbox hb; have Ca := Am hbox; have HB_ := Am (bP (by repeat (first | exact HB.out | apply oA | apply o1)) hb); have HP_ := Am (bB (by repeat (first | exact HP.out | refine bA ?_ _ | refine blk_drew ?_)) hb); clear HB hb HP; have HB := HB_; clear HB_; (try clear HPq0); have HP := HP_; clear HP_; have HPq0 := cz0 HP.out; clear hg hbox; obtain ⟨Caq0, Caq1, Caq2⟩ := cy3 Ca.out)
      | fail)
  go_ret
  exact ⟨rfl, HB.out⟩
def impl_Clock_at.idx (l : List S35) (id : Int) : Nat → Nat → Int
  | 0, _ => -1
  | d + 1, i => if (aT l i).f0 = id then (i : Int) else impl_Clock_at.idx l id d (i + 1)
set_option maxHeartbeats 4000000 in
set_option maxRecDepth 100000 in
theorem atIndex_ (A : Option Addr) (c : Nat) (l : List S35) (id : Int) (pg : Nat) (w : World) (hr : Kd.C k35 w A l.length l) (hc : w.heap[pg]? = some (.cells #[.int .i64 id] 3 (0, 0))) :
  Calls Try.prog 25 #[.slice A l.length c, .func (.func 26) #[] #[.pointer (some ⟨pg, 0, none⟩)]] w fun e w' => e = .returned (.int .i64 (impl_Clock_at.idx l id l.length 0)) ∧ Below w.heap.size w w' := by
  have hu23 := Try.underlying23
  have hu35 := Try.underlying35
  have G := Am hr
  have HP := Am hc
  have hlen := hr.2.1
  clear hc hr
  have HB := Am (bJ w.heap.size w)
  go_enter Try.func25, Try.ntmps25
  go_wp2
  go_loopg [5, 8] l.length (fun kq v5 v8 w' => ∃ x : Nat, v8 = .int .i64 (x : Int) ∧ Aside0 (x ≤ l.length) ∧ Aside0 (l.length - x ≤ kq) ∧ Aside0 (Below w.heap.size w w') ∧ Aside0 (impl_Clock_at.idx l id l.length 0 = impl_Clock_at.idx l id (l.length - x) x))
  case atStart => exact ⟨0, rfl, ⟨by omega⟩, ⟨by omega⟩, HB, ⟨rfl⟩⟩
  case round =>
    clear HB
    obtain ⟨x, rfl, H1, H2, HB, HA⟩ := hrel
    by_cases hlt : x < l.length
    · obtain ⟨ad, rfl, R⟩ := atA G.out (by omega)
      obtain ⟨s0, s1, s2⟩ := R x hlt _ HB.out
      have hd1 : decide ((x : Int) < (l.length : Int)) = true := decide_eq_true (by omega)
      have hd2 : decide (x < l.length) = true := decide_eq_true hlt
      have p1 := eq_true (show (0 : Int) ≤ (x : Int) by omega)
      have p2 := eq_true (show (x : Int) < (l.length : Int) by omega)
      have p3 : (x : Int) < (l.length : Int) := by omega
      have p4 := hlt
      have H3 := Am hlt
      have hA : l.length - x = (l.length - (x + 1)) + 1 := by omega
      have HA' := Am HA.out
      rw [hA, impl_Clock_at.idx] at HA'
      have hp : Aside0 (wr.heap[pg]? = some (.cells #[.int .i64 id] 3 (0, 0))) := ⟨bB HP.out HB.out⟩
      have hcall := Am (atPred_ (aT l x) id pg wr hp.out)
      clear hlt hA R HA
      by_cases q : (aT l x).f0 = id
      · have e2 := Am (show impl_Clock_at.idx l id l.length 0 = x by rw [HA'.out, if_pos q])
        rw [beq_iff_eq.mpr q] at hcall
        clear q HA'
        repeat go_step
        refine hcall.out.mono ?_
        rintro e w' ⟨rfl, hb'⟩
        have hb2 := Am (bP HB.out hb')
        clear hcall hb' HB
        go_wp2
        go_ret
        exact ⟨by rw [e2.out]; rfl, hb2.out⟩
      · have e2 := Am (show impl_Clock_at.idx l id l.length 0 = impl_Clock_at.idx l id (l.length - (x + 1)) (x + 1) by rw [HA'.out, if_neg q])
        rw [beq_eq_false_iff_ne.mpr q] at hcall
        clear q HA'
        repeat go_step
        refine hcall.out.mono ?_
        rintro e w' ⟨rfl, hb'⟩
        have hb2 := Am (bP HB.out hb')
        clear hcall hb' HB
        go_wp2
        go_roundg (l.length - (x + 1))
        case measure => have := H2.out; have := H3.out; omega
        case rel =>
          have h3 := H3.out
          exact ⟨x + 1, by go_num, ⟨by omega⟩, ⟨Nat.le_refl _⟩, hb2, e2⟩
    · have A3 : Aside0 (impl_Clock_at.idx l id l.length 0 = -1) := ⟨by rw [HA.out, show x = l.length by have := H1.out; omega, Nat.sub_self]; rfl⟩
      have hx : x = l.length := by have := H1.out; omega
      have hd1 : decide ((x : Int) < (l.length : Int)) = false := decide_eq_false (by omega)
      have hd2 : decide (x < l.length) = false := decide_eq_false hlt
      clear hx hlt
      clear HA
      go_wp2
      go_ret
      exact ⟨by rw [A3.out]; rfl, HB.out⟩
def impl_Clock_at.f (a0_0 : Int) (l0_1 : List (S35)) (a1 : Int) : Option Int := some (impl_Clock_at.idx l0_1 a1 l0_1.length 0)
set_option maxHeartbeats 4000000 in
set_option maxRecDepth 100000 in
theorem impl_Clock_at.calls (a0_0 : Int) (A0_1 : Option Addr) (c0_1 : Nat) (l0_1 : List (S35)) (a1 : Int) (r : Int) (w : World) (hr0_1 : Kd.C k35 w A0_1 l0_1.length l0_1) (hc0_1 : l0_1.length ≤ c0_1) (h : impl_Clock_at.f a0_0 l0_1 a1 = some r) :
  Calls Try.prog 14 #[.agg #[.int .i64 a0_0, .slice A0_1 l0_1.length c0_1], .int .i64 a1] w fun e w' => e = .returned (.int .i64 r) ∧ Below w.heap.size w w' := by
  have hu23 := Try.underlying23
  have hu25 := Try.underlying25
  have G := Am hr0_1
  obtain rfl := Option.some.inj h
  clear h hr0_1
  have HB := Am (bJ w.heap.size w)
  go_enter Try.func14, Try.ntmps14
  go_wp2_with (first
      | ((with_reducible refine gate_dst (N := 2) rfl ?_); refine box_event ?hg (N := 2) ?hd (cs := #[.int .i64 a0_0, .slice A0_1 l0_1.length c0_1]) (t := 25) ?hr ?_; (case hd => rfl); (case hg => rfl); (case hr => first | (go_simp; done) | (go_simp; rfl)); intro gBa hg w_ hbox hb; have Ba := Am hbox; have HB_ := Am (bP (by repeat (first | exact HB.out | apply oA | apply o1)) hb); clear HB hb ; have HB := HB_; clear HB_; clear hg hbox; have Baq0 := cz0 Ba.out; have Baq1 := cz1 Ba.out)
      | ((with_reducible refine gate_dst (N := 3) rfl ?_); refine box_event ?hg (N := 3) ?hd (cs := #[.int .i64 a1]) (t := 3) ?hr ?_; (case hd => rfl); (case hg => rfl); (case hr => first | (go_simp; done) | (go_simp; rfl)); intro gIa hg w_ hbox hb; have Ia := Am hbox; have HB_ := Am (bP (by repeat (first | exact HB.out | apply oA | apply o1)) hb); have Ba_ := Am (bB (by repeat (first | exact Ba.out | refine bA ?_ _ | refine blk_drew ?_)) hb); clear HB hb Ba; have HB := HB_; clear HB_; (try clear Baq0 Baq1); have Ba := Ba_; clear Ba_; have Baq0 := cz0 Ba.out; have Baq1 := cz1 Ba.out; clear hg hbox; have Iaq0 := cz0 Ia.out)
      | (go_at_call 25; refine (atIndex_ _ _ l0_1 a1 gIa _ (cB G.out HB.out) Ia.out).mono ?_; rintro e w_ ⟨rfl, hb⟩; have HB_ := Am (bP (by repeat (first | exact HB.out | apply oA | apply o1)) hb); have Ba_ := Am (bB (by repeat (first | exact Ba.out | refine bA ?_ _ | refine blk_drew ?_)) hb); have Ia_ := Am (bB (by repeat (first | exact Ia.out | refine bA ?_ _ | refine blk_drew ?_)) hb); clear HB hb Ba Ia; have HB := HB_; clear HB_; (try clear Baq0 Baq1); have Ba := Ba_; clear Ba_; have Baq0 := cz0 Ba.out; have Baq1 := cz1 Ba.out; (try clear Iaq0); have Ia := Ia_; clear Ia_; have Iaq0 := cz0 Ia.out)
      | fail)
  go_ret
  exact ⟨rfl, HB.out⟩
end Go.Proofs.Ytpacdakadkblgaa.PFnClockDrop
