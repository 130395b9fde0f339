/- Proved here, without a condition beyond those that each theorem states: what the Go functions named below do is what the plain functions of the same names say. Written by xprint.py, a program of this session. -/
import Derived.Test.YtiifanjjohophaaProg
import Derived.Below
import Derived.Deep.Draws
import Derived.Deep.AppendLies
import Derived.Maps.AppendAt
import Derived.OwnWalk
import Derived.Laws.BytesArg
import Derived.Laws.MakeOwn
import Derived.Laws.OwnMore
import Derived.Deep.OwnRows
import Derived.Tactics
import Derived.Lib.ConvBytes
import Derived.Laws.Slices
import Derived.WalkKit
import Derived.KernelRfl
import Derived.RowKit3
import Derived.Deep.LoopGhost
import Derived.Deep.QuietTactic
import Derived.BigQuiet
import Derived.WideLaws
import Derived.Deep.DeepCutAuto
import Derived.Deep.CutBlock
import Derived.Deep.RegionHeld3
import Derived.Laws.Rows
import Derived.Lib.AppendStr
import Derived.ArgAppend
import Derived.Laws.IdiomCopy
import Derived.OrdersHeld
import Derived.Laws.BitsLemmas
import Derived.RowKit
import Derived.WalkSpells
import Derived.Lib.SliceRun
import Derived.Test.YtiifanjjohophaaTFnSigsBlocka
namespace Go.Proofs.Ytiifanjjohophaa.PFnSigsBlock
open Go.RowKit Go.Proofs.YtiifanjjohophaaW.PrintWords Go.Proofs.YtiifanjjohophaaW.PrintLast Go.Proofs.YtiifanjjohophaaW.PrintMore
attribute [local go_sem] max2_int min2_int max_two min_two max_three min_three max_four min_four   -- for this text's walks alone
set_option linter.unusedVariables false
set_option linter.unusedSimpArgs false



def errW : Option Int → Value
  | none => .nilIface
  | some c => .iface 0 (.int .i64 c)
theorem errW_none : errW none = .nilIface := rfl
theorem errW_some (c : Int) : errW (some c) = .iface 0 (.int .i64 c) := rfl

theorem isSome_setCell_ (w : World) (p a : Addr) (v : Value) : ((w.setCell p v).cell? a).isSome = (w.cell? a).isSome := by
  unfold World.cell? World.setCell
  simp only [Array.getElem?_modify]
  by_cases h : p.block = a.block
  · rw [if_pos h]
    cases w.heap[a.block]? with
    | none => rfl
    | some o =>
      cases o with
      | cells c e f =>
        simp only [Option.map_some]
        cases a.spot with
        | some s => rfl
        | none =>
          simp only [Option.isSome_none, Bool.false_eq_true, if_false]
          cases p.spot with
          | some s => rfl
          | none =>
            simp only [Option.isSome_none, Bool.false_eq_true, if_false]
            rw [Array.getElem?_setIfInBounds]
            split
            · rename_i h1
              rw [h1]
              split
              · rename_i h2
                simp [Array.getElem?_eq_getElem h2]
              · rename_i h2
                simp [Array.getElem?_eq_none (Nat.le_of_not_lt h2)]
            · rfl
      | _ => rfl
  · rw [if_neg h]

-- short names, for long texts
abbrev bN := @blk_drewN
abbrev bA := @blk_alloc
abbrev bD := @blk_drew
abbrev Am := @Aside0.mk
abbrev pN := @pw_below_drewN
abbrev bS := @below_set
abbrev oA := @below_alloc
abbrev o1 := @below_drew1
abbrev bC := @blk_cell
abbrev bF := @blk_frozen
abbrev bB := @blk_below
abbrev bZ := @below_size
abbrev bP := @below_step
abbrev lA := @List.setIfInBounds_toArray
abbrev lZ := @List.set_cons_zero
abbrev lS := @List.set_cons_succ
abbrev lM := @List.map_toArray
abbrev lC := @List.map_cons
abbrev lN := @List.map_nil
abbrev lD := @List.length_drop
abbrev lT := @List.length_take
abbrev rN := @Kd.R_drewN
abbrev rA := @Kd.R_alloc
abbrev rD := @Kd.R_drew
abbrev rF := @Kd.R_far
abbrev rM := @Kd.R_mono
abbrev rB := @Kd.R_below
abbrev rT := @Kd.R_types
abbrev rG := @Kd.R_grown
abbrev cB := @Kd.C_below
abbrev cA := @Kd.C_alloc
abbrev cN := @Kd.C_drewN
abbrev cD := @Kd.C_drew
abbrev oB := @Option.bind_eq_some_iff

theorem info3 : (Try.prog.info? 3).map (fun i => (i.zero, i.size, i.bytes)) = some (some (.int .i64 0), 1, 8) := by kernel_rfl
theorem info4 : (Try.prog.info? 4).map (fun i => (i.zero, i.size, i.bytes)) = some (some (.bool false), 1, 1) := by kernel_rfl
theorem info5 : (Try.prog.info? 5).map (fun i => (i.zero, i.size, i.bytes)) = some (some (.int .u8 0), 1, 1) := by kernel_rfl
-- the values' own types

end Go.Proofs.Ytiifanjjohophaa.PFnSigsBlock
