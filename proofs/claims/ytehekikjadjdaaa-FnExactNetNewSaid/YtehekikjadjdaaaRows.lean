/-
  No cell of these rows narrows 'for every input' (looked for: loops, veiled, ifaces, maps, wideKeys, modest, calm, conditions, laid).
  DERIVED. THE GIVEN ROWS OF THIS SEAT. 10 by the template 'for every input the law returns true; each argument reads behind the call as it read before'; 0 by the template 'total and deterministic' (their statements: YtehekikjadjdaaaTotals.lean).
  GIVEN WITH THE SEED: the statements are not yours to turn. If you find one false, say at which input.
  Laid BY PROGRAM, IN A SANDBOX (cutbox-rows.mjs): the forced cells as the released guide's own fill.sh prints them over the translation a9a4c9c182018683… (all of the seat's roots in one cut). By AI agents, Wed Nov 11 2026. No macro, syntax, notation, axiom, sorry.
-/
import Derived.Test.YtehekikjadjdaaaChecked
import GoSem.Claim
import GoSem.ClaimJoined
import GoSem.ClaimMapViews
import Derived.JoinedTies
import Derived.KernelRfl
namespace Go.Proofs.Ytehekikjadjdaaa
/- THE CELL 'sum', in the pinned program and in every row, IS THE sha256 OF THE DUMP (.gsa) THAT YtehekikjadjdaaaProg.lean LOADS. Nothing in Lean hashes anything: it is a label: what it is worth is what the hold of that sum in a sandbox is worth. -/
noncomputable def Try.pinned : Pinned := { name := "ytehekikjadjdaaa", sum := "a9a4c9c182018683d47d34718133ddc9c0bb55c7730de815104434b3baaf39a1", checked := Try.checked }
namespace Rows
def none {H : Type} : Left H := { results := [], args := [] }

/-- 'laws.FnExactSigsFork': WHATEVER THE INPUT: true; the input reads as it did. -/
def fnExactSigsForkSpec : ChangeSpec := { name := "fnExactSigsFork", fn := fun _ => fun
  | [d] => { results := [.lit (.bool true)], args := [d] }
  | _ => none }
def fnExactSigsForkRow : OpenClaim := { program := "ytehekikjadjdaaa", sum := "a9a4c9c182018683d47d34718133ddc9c0bb55c7730de815104434b3baaf39a1", func := "loop.example/quarterdeck/laws.FnExactSigsFork", spec := "fnExactSigsFork", apart := false }
def FnExactSigsForkSaid : Prop := fnExactSigsForkRow.holds Try.pinned (OpenSpec.ofChange fnExactSigsForkSpec)

/-- ITS FALSE NEIGHBOUR: 'it returns false'. Refute it at one input. -/
def fnExactSigsForkWrong : ChangeSpec := { name := "fnExactSigsFork", fn := fun _ => fun
  | [d] => { results := [.lit (.bool false)], args := [d] }
  | _ => none }
def FnExactSigsForkWrongFalsely : Prop := fnExactSigsForkRow.holds Try.pinned (OpenSpec.ofChange fnExactSigsForkWrong)

/-- 'laws.FnExactSigsBlock': WHATEVER THE INPUT: true; the input reads as it did. -/
def fnExactSigsBlockSpec : ChangeSpec := { name := "fnExactSigsBlock", fn := fun _ => fun
  | [d1, d2] => { results := [.lit (.bool true)], args := [d1, d2] }
  | _ => none }
def fnExactSigsBlockRow : OpenClaim := { program := "ytehekikjadjdaaa", sum := "a9a4c9c182018683d47d34718133ddc9c0bb55c7730de815104434b3baaf39a1", func := "loop.example/quarterdeck/laws.FnExactSigsBlock", spec := "fnExactSigsBlock", apart := false }
def FnExactSigsBlockSaid : Prop := fnExactSigsBlockRow.holds Try.pinned (OpenSpec.ofChange fnExactSigsBlockSpec)

/-- ITS FALSE NEIGHBOUR: 'it returns false'. Refute it at one input. -/
def fnExactSigsBlockWrong : ChangeSpec := { name := "fnExactSigsBlock", fn := fun _ => fun
  | [d1, d2] => { results := [.lit (.bool false)], args := [d1, d2] }
  | _ => none }
def FnExactSigsBlockWrongFalsely : Prop := fnExactSigsBlockRow.holds Try.pinned (OpenSpec.ofChange fnExactSigsBlockWrong)

/-- 'laws.FnExactSigsSet': WHATEVER THE INPUT: true; the input reads as it did. -/
def fnExactSigsSetSpec : ChangeSpec := { name := "fnExactSigsSet", fn := fun _ => fun
  | [d1, d2, d3] => { results := [.lit (.bool true)], args := [d1, d2, d3] }
  | _ => none }
def fnExactSigsSetRow : OpenClaim := { program := "ytehekikjadjdaaa", sum := "a9a4c9c182018683d47d34718133ddc9c0bb55c7730de815104434b3baaf39a1", func := "loop.example/quarterdeck/laws.FnExactSigsSet", spec := "fnExactSigsSet", apart := false }
def FnExactSigsSetSaid : Prop := fnExactSigsSetRow.holds Try.pinned (OpenSpec.ofChange fnExactSigsSetSpec)

/-- ITS FALSE NEIGHBOUR: 'it returns false'. Refute it at one input. -/
def fnExactSigsSetWrong : ChangeSpec := { name := "fnExactSigsSet", fn := fun _ => fun
  | [d1, d2, d3] => { results := [.lit (.bool false)], args := [d1, d2, d3] }
  | _ => none }
def FnExactSigsSetWrongFalsely : Prop := fnExactSigsSetRow.holds Try.pinned (OpenSpec.ofChange fnExactSigsSetWrong)

/-- 'laws.FnExactSigsRun': WHATEVER THE INPUT: true; the input reads as it did. -/
def fnExactSigsRunSpec : ChangeSpec := { name := "fnExactSigsRun", fn := fun _ => fun
  | [d] => { results := [.lit (.bool true)], args := [d] }
  | _ => none }
def fnExactSigsRunRow : OpenClaim := { program := "ytehekikjadjdaaa", sum := "a9a4c9c182018683d47d34718133ddc9c0bb55c7730de815104434b3baaf39a1", func := "loop.example/quarterdeck/laws.FnExactSigsRun", spec := "fnExactSigsRun", apart := false }
def FnExactSigsRunSaid : Prop := fnExactSigsRunRow.holds Try.pinned (OpenSpec.ofChange fnExactSigsRunSpec)

/-- ITS FALSE NEIGHBOUR: 'it returns false'. Refute it at one input. -/
def fnExactSigsRunWrong : ChangeSpec := { name := "fnExactSigsRun", fn := fun _ => fun
  | [d] => { results := [.lit (.bool false)], args := [d] }
  | _ => none }
def FnExactSigsRunWrongFalsely : Prop := fnExactSigsRunRow.holds Try.pinned (OpenSpec.ofChange fnExactSigsRunWrong)

/-- 'laws.FnExactQueueSleep': WHATEVER THE INPUT: true; the input reads as it did. -/
def fnExactQueueSleepSpec : ChangeSpec := { name := "fnExactQueueSleep", fn := fun _ => fun
  | [d1, d2] => { results := [.lit (.bool true)], args := [d1, d2] }
  | _ => none }
def fnExactQueueSleepRow : OpenClaim := { program := "ytehekikjadjdaaa", sum := "a9a4c9c182018683d47d34718133ddc9c0bb55c7730de815104434b3baaf39a1", func := "loop.example/quarterdeck/laws.FnExactQueueSleep", spec := "fnExactQueueSleep", unfollowed := true, recurses := true, apart := false }
def FnExactQueueSleepSaid : Prop := fnExactQueueSleepRow.holds Try.pinned (OpenSpec.ofChange fnExactQueueSleepSpec)

/-- ITS FALSE NEIGHBOUR: 'it returns false'. Refute it at one input. -/
def fnExactQueueSleepWrong : ChangeSpec := { name := "fnExactQueueSleep", fn := fun _ => fun
  | [d1, d2] => { results := [.lit (.bool false)], args := [d1, d2] }
  | _ => none }
def FnExactQueueSleepWrongFalsely : Prop := fnExactQueueSleepRow.holds Try.pinned (OpenSpec.ofChange fnExactQueueSleepWrong)

/-- 'laws.FnExactQueueWake': WHATEVER THE INPUT: true; the input reads as it did. -/
def fnExactQueueWakeSpec : ChangeSpec := { name := "fnExactQueueWake", fn := fun _ => fun
  | [d1, d2] => { results := [.lit (.bool true)], args := [d1, d2] }
  | _ => none }
def fnExactQueueWakeRow : OpenClaim := { program := "ytehekikjadjdaaa", sum := "a9a4c9c182018683d47d34718133ddc9c0bb55c7730de815104434b3baaf39a1", func := "loop.example/quarterdeck/laws.FnExactQueueWake", spec := "fnExactQueueWake", unfollowed := true, recurses := true, apart := false }
def FnExactQueueWakeSaid : Prop := fnExactQueueWakeRow.holds Try.pinned (OpenSpec.ofChange fnExactQueueWakeSpec)

/-- ITS FALSE NEIGHBOUR: 'it returns false'. Refute it at one input. -/
def fnExactQueueWakeWrong : ChangeSpec := { name := "fnExactQueueWake", fn := fun _ => fun
  | [d1, d2] => { results := [.lit (.bool false)], args := [d1, d2] }
  | _ => none }
def FnExactQueueWakeWrongFalsely : Prop := fnExactQueueWakeRow.holds Try.pinned (OpenSpec.ofChange fnExactQueueWakeWrong)

/-- 'laws.FnExactQueueLess': WHATEVER THE INPUT: true; the input reads as it did. -/
def fnExactQueueLessSpec : ChangeSpec := { name := "fnExactQueueLess", fn := fun _ => fun
  | [d1, d2] => { results := [.lit (.bool true)], args := [d1, d2] }
  | _ => none }
def fnExactQueueLessRow : OpenClaim := { program := "ytehekikjadjdaaa", sum := "a9a4c9c182018683d47d34718133ddc9c0bb55c7730de815104434b3baaf39a1", func := "loop.example/quarterdeck/laws.FnExactQueueLess", spec := "fnExactQueueLess", unfollowed := true, recurses := true, apart := false }
def FnExactQueueLessSaid : Prop := fnExactQueueLessRow.holds Try.pinned (OpenSpec.ofChange fnExactQueueLessSpec)

/-- ITS FALSE NEIGHBOUR: 'it returns false'. Refute it at one input. -/
def fnExactQueueLessWrong : ChangeSpec := { name := "fnExactQueueLess", fn := fun _ => fun
  | [d1, d2] => { results := [.lit (.bool false)], args := [d1, d2] }
  | _ => none }
def FnExactQueueLessWrongFalsely : Prop := fnExactQueueLessRow.holds Try.pinned (OpenSpec.ofChange fnExactQueueLessWrong)

/-- 'laws.FnExactQueueTick': WHATEVER THE INPUT: true; the input reads as it did. -/
def fnExactQueueTickSpec : ChangeSpec := { name := "fnExactQueueTick", fn := fun _ => fun
  | [d] => { results := [.lit (.bool true)], args := [d] }
  | _ => none }
def fnExactQueueTickRow : OpenClaim := { program := "ytehekikjadjdaaa", sum := "a9a4c9c182018683d47d34718133ddc9c0bb55c7730de815104434b3baaf39a1", func := "loop.example/quarterdeck/laws.FnExactQueueTick", spec := "fnExactQueueTick", apart := false }
def FnExactQueueTickSaid : Prop := fnExactQueueTickRow.holds Try.pinned (OpenSpec.ofChange fnExactQueueTickSpec)

/-- ITS FALSE NEIGHBOUR: 'it returns false'. Refute it at one input. -/
def fnExactQueueTickWrong : ChangeSpec := { name := "fnExactQueueTick", fn := fun _ => fun
  | [d] => { results := [.lit (.bool false)], args := [d] }
  | _ => none }
def FnExactQueueTickWrongFalsely : Prop := fnExactQueueTickRow.holds Try.pinned (OpenSpec.ofChange fnExactQueueTickWrong)

/-- 'laws.FnExactPagesKeep': WHATEVER THE INPUT: true; the input reads as it did. -/
def fnExactPagesKeepSpec : ChangeSpec := { name := "fnExactPagesKeep", fn := fun _ => fun
  | [d1, d2] => { results := [.lit (.bool true)], args := [d1, d2] }
  | _ => none }
def fnExactPagesKeepRow : OpenClaim := { program := "ytehekikjadjdaaa", sum := "a9a4c9c182018683d47d34718133ddc9c0bb55c7730de815104434b3baaf39a1", func := "loop.example/quarterdeck/laws.FnExactPagesKeep", spec := "fnExactPagesKeep", apart := false }
def FnExactPagesKeepSaid : Prop := fnExactPagesKeepRow.holds Try.pinned (OpenSpec.ofChange fnExactPagesKeepSpec)

/-- ITS FALSE NEIGHBOUR: 'it returns false'. Refute it at one input. -/
def fnExactPagesKeepWrong : ChangeSpec := { name := "fnExactPagesKeep", fn := fun _ => fun
  | [d1, d2] => { results := [.lit (.bool false)], args := [d1, d2] }
  | _ => none }
def FnExactPagesKeepWrongFalsely : Prop := fnExactPagesKeepRow.holds Try.pinned (OpenSpec.ofChange fnExactPagesKeepWrong)

/-- 'laws.FnExactNetNew': WHATEVER THE INPUT: true; the input reads as it did. -/
def fnExactNetNewSpec : ChangeSpec := { name := "fnExactNetNew", fn := fun _ => fun
  | [] => { results := [.lit (.bool true)], args := [] }
  | _ => none }
def fnExactNetNewRow : OpenClaim := { program := "ytehekikjadjdaaa", sum := "a9a4c9c182018683d47d34718133ddc9c0bb55c7730de815104434b3baaf39a1", func := "loop.example/quarterdeck/laws.FnExactNetNew", spec := "fnExactNetNew", apart := false }
def FnExactNetNewSaid : Prop := fnExactNetNewRow.holds Try.pinned (OpenSpec.ofChange fnExactNetNewSpec)

/-- ITS FALSE NEIGHBOUR: 'it returns false'. Refute it at one input. -/
def fnExactNetNewWrong : ChangeSpec := { name := "fnExactNetNew", fn := fun _ => fun
  | [] => { results := [.lit (.bool false)], args := [] }
  | _ => none }
def FnExactNetNewWrongFalsely : Prop := fnExactNetNewRow.holds Try.pinned (OpenSpec.ofChange fnExactNetNewWrong)

/- THE SECOND FORM. 'bulk': how many values and letters a reading holds, each counted each time it is reached (what is shared counts as often as it is met; a slice's spare places count too). A statement '..UptoSaid' is the law's where the arguments, and the package variables that the reading takes, are together of bulk at most 1048576: NARROWER than '..Said'. Prove '..Said' where nothing that the law and all that it calls make is longer than what came in: it says more and counts as full. Else prove '..UptoSaid'. A law counts once. -/
mutual
def uptoBulk {H : Type} : DataW H → Nat
  | .lit (.string bytes) => bytes.length + 1
  | .lit _ => 1
  | .nil => 1
  | .ptr d => uptoBulk d + 1
  | .slice elems spare => uptoBulkAll elems + uptoBulkAll spare + 1
  | .agg parts => uptoBulkAll parts + 1
  | .iface _ d => uptoBulk d + 1
  | .map entries => uptoBulkEntries entries + 1
  | .held _ => 1
def uptoBulkAll {H : Type} : List (DataW H) → Nat
  | [] => 0
  | d :: r => uptoBulk d + uptoBulkAll r
def uptoBulkEntries {H : Type} : List (Lit × DataW H) → Nat
  | [] => 0
  | x :: r => uptoBulkEntry x + uptoBulkEntries r
def uptoBulkEntry {H : Type} : Lit × DataW H → Nat
  | (.string bytes, d) => bytes.length + uptoBulk d + 1
  | (_, d) => uptoBulk d + 1
 end
def uptoSmall : (H : Type) → List (DataW H) → Bool := fun _ ds => decide (uptoBulkAll ds ≤ 1048576)
def OpenSpec.upto (s : _root_.Go.ChangeSpec) : _root_.Go.OpenSpec := { _root_.Go.OpenSpec.ofChange s with cond := some uptoSmall }

/-- 'laws.FnExactSigsFork', WHERE WHAT IT READS IS OF BULK AT MOST 1048576: true; the input reads as it did. -/
def fnExactSigsForkUptoRow : OpenClaim := { program := "ytehekikjadjdaaa", sum := "a9a4c9c182018683d47d34718133ddc9c0bb55c7730de815104434b3baaf39a1", func := "loop.example/quarterdeck/laws.FnExactSigsFork", spec := "fnExactSigsFork", apart := false, narrowed := true }
def FnExactSigsForkUptoSaid : Prop := fnExactSigsForkUptoRow.holds Try.pinned (OpenSpec.upto fnExactSigsForkSpec)

/-- 'laws.FnExactSigsBlock', WHERE WHAT IT READS IS OF BULK AT MOST 1048576: true; the input reads as it did. -/
def fnExactSigsBlockUptoRow : OpenClaim := { program := "ytehekikjadjdaaa", sum := "a9a4c9c182018683d47d34718133ddc9c0bb55c7730de815104434b3baaf39a1", func := "loop.example/quarterdeck/laws.FnExactSigsBlock", spec := "fnExactSigsBlock", apart := false, narrowed := true }
def FnExactSigsBlockUptoSaid : Prop := fnExactSigsBlockUptoRow.holds Try.pinned (OpenSpec.upto fnExactSigsBlockSpec)

/-- 'laws.FnExactSigsSet', WHERE WHAT IT READS IS OF BULK AT MOST 1048576: true; the input reads as it did. -/
def fnExactSigsSetUptoRow : OpenClaim := { program := "ytehekikjadjdaaa", sum := "a9a4c9c182018683d47d34718133ddc9c0bb55c7730de815104434b3baaf39a1", func := "loop.example/quarterdeck/laws.FnExactSigsSet", spec := "fnExactSigsSet", apart := false, narrowed := true }
def FnExactSigsSetUptoSaid : Prop := fnExactSigsSetUptoRow.holds Try.pinned (OpenSpec.upto fnExactSigsSetSpec)

/-- 'laws.FnExactSigsRun', WHERE WHAT IT READS IS OF BULK AT MOST 1048576: true; the input reads as it did. -/
def fnExactSigsRunUptoRow : OpenClaim := { program := "ytehekikjadjdaaa", sum := "a9a4c9c182018683d47d34718133ddc9c0bb55c7730de815104434b3baaf39a1", func := "loop.example/quarterdeck/laws.FnExactSigsRun", spec := "fnExactSigsRun", apart := false, narrowed := true }
def FnExactSigsRunUptoSaid : Prop := fnExactSigsRunUptoRow.holds Try.pinned (OpenSpec.upto fnExactSigsRunSpec)

/-- 'laws.FnExactQueueSleep', WHERE WHAT IT READS IS OF BULK AT MOST 1048576: true; the input reads as it did. -/
def fnExactQueueSleepUptoRow : OpenClaim := { program := "ytehekikjadjdaaa", sum := "a9a4c9c182018683d47d34718133ddc9c0bb55c7730de815104434b3baaf39a1", func := "loop.example/quarterdeck/laws.FnExactQueueSleep", spec := "fnExactQueueSleep", unfollowed := true, recurses := true, apart := false, narrowed := true }
def FnExactQueueSleepUptoSaid : Prop := fnExactQueueSleepUptoRow.holds Try.pinned (OpenSpec.upto fnExactQueueSleepSpec)

/-- 'laws.FnExactQueueWake', WHERE WHAT IT READS IS OF BULK AT MOST 1048576: true; the input reads as it did. -/
def fnExactQueueWakeUptoRow : OpenClaim := { program := "ytehekikjadjdaaa", sum := "a9a4c9c182018683d47d34718133ddc9c0bb55c7730de815104434b3baaf39a1", func := "loop.example/quarterdeck/laws.FnExactQueueWake", spec := "fnExactQueueWake", unfollowed := true, recurses := true, apart := false, narrowed := true }
def FnExactQueueWakeUptoSaid : Prop := fnExactQueueWakeUptoRow.holds Try.pinned (OpenSpec.upto fnExactQueueWakeSpec)

/-- 'laws.FnExactQueueLess', WHERE WHAT IT READS IS OF BULK AT MOST 1048576: true; the input reads as it did. -/
def fnExactQueueLessUptoRow : OpenClaim := { program := "ytehekikjadjdaaa", sum := "a9a4c9c182018683d47d34718133ddc9c0bb55c7730de815104434b3baaf39a1", func := "loop.example/quarterdeck/laws.FnExactQueueLess", spec := "fnExactQueueLess", unfollowed := true, recurses := true, apart := false, narrowed := true }
def FnExactQueueLessUptoSaid : Prop := fnExactQueueLessUptoRow.holds Try.pinned (OpenSpec.upto fnExactQueueLessSpec)

/-- 'laws.FnExactQueueTick', WHERE WHAT IT READS IS OF BULK AT MOST 1048576: true; the input reads as it did. -/
def fnExactQueueTickUptoRow : OpenClaim := { program := "ytehekikjadjdaaa", sum := "a9a4c9c182018683d47d34718133ddc9c0bb55c7730de815104434b3baaf39a1", func := "loop.example/quarterdeck/laws.FnExactQueueTick", spec := "fnExactQueueTick", apart := false, narrowed := true }
def FnExactQueueTickUptoSaid : Prop := fnExactQueueTickUptoRow.holds Try.pinned (OpenSpec.upto fnExactQueueTickSpec)

/-- 'laws.FnExactPagesKeep', WHERE WHAT IT READS IS OF BULK AT MOST 1048576: true; the input reads as it did. -/
def fnExactPagesKeepUptoRow : OpenClaim := { program := "ytehekikjadjdaaa", sum := "a9a4c9c182018683d47d34718133ddc9c0bb55c7730de815104434b3baaf39a1", func := "loop.example/quarterdeck/laws.FnExactPagesKeep", spec := "fnExactPagesKeep", apart := false, narrowed := true }
def FnExactPagesKeepUptoSaid : Prop := fnExactPagesKeepUptoRow.holds Try.pinned (OpenSpec.upto fnExactPagesKeepSpec)

/-- 'laws.FnExactNetNew', WHERE WHAT IT READS IS OF BULK AT MOST 1048576: true; the input reads as it did. -/
def fnExactNetNewUptoRow : OpenClaim := { program := "ytehekikjadjdaaa", sum := "a9a4c9c182018683d47d34718133ddc9c0bb55c7730de815104434b3baaf39a1", func := "loop.example/quarterdeck/laws.FnExactNetNew", spec := "fnExactNetNew", apart := false, narrowed := true }
def FnExactNetNewUptoSaid : Prop := fnExactNetNewUptoRow.holds Try.pinned (OpenSpec.upto fnExactNetNewSpec)

end Rows
end Go.Proofs.Ytehekikjadjdaaa
