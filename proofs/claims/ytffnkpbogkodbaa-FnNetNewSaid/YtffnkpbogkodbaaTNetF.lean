/- Proved here, without a condition beyond those that each theorem states: slices.Clone of a row of sockets of zeros. -/
import Derived.Test.YtffnkpbogkodbaaTNetE
import Derived.StillTailTactics
namespace Go.Proofs.Ytffnkpbogkodbaa.PFnNetNew
open Go.RowKit Go.Proofs.YtffnkpbogkodbaaW.PrintWords Go.Proofs.YtffnkpbogkodbaaW.PrintLast Go.Proofs.YtffnkpbogkodbaaW.PrintMore
set_option linter.unusedVariables false
set_option maxHeartbeats 2000000 in
set_option maxRecDepth 100000 in
theorem net_Clone (ad0_ : Addr) (c0 : Nat) (l0 : List Unit) (w : World) (hr0 : Kd.C kz w (some ad0_) 8 l0) (h8 : l0.length = 8) :
  Calls Try.prog 52 #[.slice (some ad0_) 8 c0] w fun e w' => ∃ v0_ : Value, e = .returned v0_ ∧ Kd.R kz 62 w' w.heap.size (fun _ => True) v0_ l0 ∧ Below w.heap.size w w' := by
  have HR0 := Am hr0
  have HL := Am h8
  clear hr0 h8
  have HB := Am (Below.refl w.heap.size w)
  have q_ : ∀ (w : World) (a : Option Addr) (n c n' c' : Nat), (binOp .eql 23 (.slice a n c) (.slice none n' c')).run Try.prog w = .ok (.bool a.isNone) w := fun w a n c n' c' => Lib.run_eql_slice_nil w _ _ a n c n' c' Try.underlying23
  go_enter Try.func52, Try.ntmps52
  go_wp2_with (first | ((with_reducible refine gate_dst (N := 5) rfl ?_); refine Kd.R_lit kz _ 62 ?hg (N := 5) ?hd (xs := ([] : List Unit)) (inner := []) (ok := fun _ => True) (okp := fun _ => True) ?hr ?hp (fun _ hk => hk) trivial (Below.refl _ _) (Nat.le_refl _) (by simp) ?_; (case hd => rfl); (case hg => rfl); (case hr => first | (go_simp; done) | (go_simp; rfl)); (case hp => exact (Reps.none _ _)); intro v108 w3 ho4 hb hg_ hnew_; clear hg_ hnew_; have HO109 := Am (Kd.R_lower ho4 (bZ HB.out)); have HB2 := Am (bP HB.out hb); clear HB; clear hb ho4) | ((with_reducible refine gate_builtin (b := .append) (xs := #[.tmp 5, .tmp 6]) rfl ?_); at_builtin; refine Kd.R_append_rows kz (w0 := w) w.heap.size rfl (.tmp 5) (.tmp 6) 23 62 (.agg #[(.int .i64 0), (.string ⟨#[]⟩), (.int .i64 0), (.string ⟨#[]⟩), (.bool false), (.slice none 0 0)]) 80 rfl Try.underlying23 info62 rfl (by decide) (by omega) v108 [] l0 _ _ _ (fun _ => True) (fun _ => False) rfl rfl ?aO ?aR (fun _ _ h => h) (fun _ h => h.elim) ?aF ?aB ?aS ?aL ?_; (case aR => exact cB HR0.out HB2.out); (case aB => exact HB2.out); (case aF => exact (fun _ _ => trivial)); (case aO => exact HO109.out); (case aS => exact (bZ HB2.out)); (case aL => decide); intro v111 w5 ho hb hg hat; rw [List.nil_append] at ho; have HB3 := Am hb; have HO112 := Am ho; clear HB2; clear HO109; clear ho hb hg hat))
  go_ret
  exact ⟨_, rfl, HO112.out, HB3.out⟩
set_option maxHeartbeats 2000000 in
set_option maxRecDepth 100000 in
theorem net_clonei (w : World) : Calls Try.prog 53 #[.slice none 0 0] w fun e w' => e = .returned (.slice none 0 0) ∧ w' = w := by
  have q_ : ∀ (w : World) (a : Option Addr) (n c n' c' : Nat), (binOp .eql 33 (.slice a n c) (.slice none n' c')).run Try.prog w = .ok (.bool a.isNone) w := fun w a n c n' c' => Lib.run_eql_slice_nil w _ _ a n c n' c' Try.underlying33
  go_enter Try.func53, Try.ntmps53
  go_wp2
  go_ret
  exact ⟨rfl, rfl⟩
end Go.Proofs.Ytffnkpbogkodbaa.PFnNetNew
