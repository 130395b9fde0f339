/-
  No cell of these rows narrows 'for every input' (looked for: loops, veiled, ifaces, maps, wideKeys, modest, calm, conditions, laid).
  DERIVED. THE GIVEN ROWS OF THIS SEAT. 9 by the template 'for every input the law returns true; each argument reads behind the call as it read before'; 0 by the template 'total and deterministic' (their statements: YtfhcgmfodfcpeaaTotals.lean).
  GIVEN WITH THE SEED: the statements are not yours to turn. If you find one false, say at which input.
  Laid BY PROGRAM, IN A SANDBOX (cutbox-rows.mjs): the forced cells as the released guide's own fill.sh prints them over the translation 8ab79c26b256d092… (all of the seat's roots in one cut). By AI agents, Wed Nov 11 2026. No macro, syntax, notation, axiom, sorry.
-/
import Derived.Test.YtfhcgmfodfcpeaaChecked
import GoSem.Claim
import GoSem.ClaimJoined
import GoSem.ClaimMapViews
import Derived.JoinedTies
import Derived.KernelRfl
namespace Go.Proofs.Ytfhcgmfodfcpeaa
/- THE CELL 'sum', in the pinned program and in every row, IS THE sha256 OF THE DUMP (.gsa) THAT YtfhcgmfodfcpeaaProg.lean LOADS. Nothing in Lean hashes anything: it is a label: what it is worth is what the hold of that sum in a sandbox is worth. -/
noncomputable def Try.pinned : Pinned := { name := "ytfhcgmfodfcpeaa", sum := "8ab79c26b256d0925e04ebffefda1f2e742515ac72c5597946bbeb4600eab2fd", checked := Try.checked }
namespace Rows
def none {H : Type} : Left H := { results := [], args := [] }

/-- 'laws.FnQueueWake': WHATEVER THE INPUT: true; the input reads as it did. -/
def fnQueueWakeSpec : ChangeSpec := { name := "fnQueueWake", fn := fun _ => fun
  | [d] => { results := [.lit (.bool true)], args := [d] }
  | _ => none }
def fnQueueWakeRow : OpenClaim := { program := "ytfhcgmfodfcpeaa", sum := "8ab79c26b256d0925e04ebffefda1f2e742515ac72c5597946bbeb4600eab2fd", func := "loop.example/quarterdeck/laws.FnQueueWake", spec := "fnQueueWake", unfollowed := true, recurses := true, apart := false }
def FnQueueWakeSaid : Prop := fnQueueWakeRow.holds Try.pinned (OpenSpec.ofChange fnQueueWakeSpec)

/-- ITS FALSE NEIGHBOUR: 'it returns false'. Refute it at one input. -/
def fnQueueWakeWrong : ChangeSpec := { name := "fnQueueWake", fn := fun _ => fun
  | [d] => { results := [.lit (.bool false)], args := [d] }
  | _ => none }
def FnQueueWakeWrongFalsely : Prop := fnQueueWakeRow.holds Try.pinned (OpenSpec.ofChange fnQueueWakeWrong)

/-- 'laws.FnQueueOk': WHATEVER THE INPUT: true; the input reads as it did. -/
def fnQueueOkSpec : ChangeSpec := { name := "fnQueueOk", fn := fun _ => fun
  | [d] => { results := [.lit (.bool true)], args := [d] }
  | _ => none }
def fnQueueOkRow : OpenClaim := { program := "ytfhcgmfodfcpeaa", sum := "8ab79c26b256d0925e04ebffefda1f2e742515ac72c5597946bbeb4600eab2fd", func := "loop.example/quarterdeck/laws.FnQueueOk", spec := "fnQueueOk", apart := false }
def FnQueueOkSaid : Prop := fnQueueOkRow.holds Try.pinned (OpenSpec.ofChange fnQueueOkSpec)

/-- ITS FALSE NEIGHBOUR: 'it returns false'. Refute it at one input. -/
def fnQueueOkWrong : ChangeSpec := { name := "fnQueueOk", fn := fun _ => fun
  | [d] => { results := [.lit (.bool false)], args := [d] }
  | _ => none }
def FnQueueOkWrongFalsely : Prop := fnQueueOkRow.holds Try.pinned (OpenSpec.ofChange fnQueueOkWrong)

/-- 'laws.FnQueueTick': WHATEVER THE INPUT: true; the input reads as it did. -/
def fnQueueTickSpec : ChangeSpec := { name := "fnQueueTick", fn := fun _ => fun
  | [d] => { results := [.lit (.bool true)], args := [d] }
  | _ => none }
def fnQueueTickRow : OpenClaim := { program := "ytfhcgmfodfcpeaa", sum := "8ab79c26b256d0925e04ebffefda1f2e742515ac72c5597946bbeb4600eab2fd", func := "loop.example/quarterdeck/laws.FnQueueTick", spec := "fnQueueTick", apart := false }
def FnQueueTickSaid : Prop := fnQueueTickRow.holds Try.pinned (OpenSpec.ofChange fnQueueTickSpec)

/-- ITS FALSE NEIGHBOUR: 'it returns false'. Refute it at one input. -/
def fnQueueTickWrong : ChangeSpec := { name := "fnQueueTick", fn := fun _ => fun
  | [d] => { results := [.lit (.bool false)], args := [d] }
  | _ => none }
def FnQueueTickWrongFalsely : Prop := fnQueueTickRow.holds Try.pinned (OpenSpec.ofChange fnQueueTickWrong)

/-- 'laws.FnQueueSleep': WHATEVER THE INPUT: true; the input reads as it did. -/
def fnQueueSleepSpec : ChangeSpec := { name := "fnQueueSleep", fn := fun _ => fun
  | [d] => { results := [.lit (.bool true)], args := [d] }
  | _ => none }
def fnQueueSleepRow : OpenClaim := { program := "ytfhcgmfodfcpeaa", sum := "8ab79c26b256d0925e04ebffefda1f2e742515ac72c5597946bbeb4600eab2fd", func := "loop.example/quarterdeck/laws.FnQueueSleep", spec := "fnQueueSleep", unfollowed := true, recurses := true, apart := false }
def FnQueueSleepSaid : Prop := fnQueueSleepRow.holds Try.pinned (OpenSpec.ofChange fnQueueSleepSpec)

/-- ITS FALSE NEIGHBOUR: 'it returns false'. Refute it at one input. -/
def fnQueueSleepWrong : ChangeSpec := { name := "fnQueueSleep", fn := fun _ => fun
  | [d] => { results := [.lit (.bool false)], args := [d] }
  | _ => none }
def FnQueueSleepWrongFalsely : Prop := fnQueueSleepRow.holds Try.pinned (OpenSpec.ofChange fnQueueSleepWrong)

/-- 'laws.FnQueueLess': WHATEVER THE INPUT: true; the input reads as it did. -/
def fnQueueLessSpec : ChangeSpec := { name := "fnQueueLess", fn := fun _ => fun
  | [d] => { results := [.lit (.bool true)], args := [d] }
  | _ => none }
def fnQueueLessRow : OpenClaim := { program := "ytfhcgmfodfcpeaa", sum := "8ab79c26b256d0925e04ebffefda1f2e742515ac72c5597946bbeb4600eab2fd", func := "loop.example/quarterdeck/laws.FnQueueLess", spec := "fnQueueLess", unfollowed := true, recurses := true, apart := false }
def FnQueueLessSaid : Prop := fnQueueLessRow.holds Try.pinned (OpenSpec.ofChange fnQueueLessSpec)

/-- ITS FALSE NEIGHBOUR: 'it returns false'. Refute it at one input. -/
def fnQueueLessWrong : ChangeSpec := { name := "fnQueueLess", fn := fun _ => fun
  | [d] => { results := [.lit (.bool false)], args := [d] }
  | _ => none }
def FnQueueLessWrongFalsely : Prop := fnQueueLessRow.holds Try.pinned (OpenSpec.ofChange fnQueueLessWrong)

/-- 'laws.FnQueueRun': WHATEVER THE INPUT: true; the input reads as it did. -/
def fnQueueRunSpec : ChangeSpec := { name := "fnQueueRun", fn := fun _ => fun
  | [d1, d2] => { results := [.lit (.bool true)], args := [d1, d2] }
  | _ => none }
def fnQueueRunRow : OpenClaim := { program := "ytfhcgmfodfcpeaa", sum := "8ab79c26b256d0925e04ebffefda1f2e742515ac72c5597946bbeb4600eab2fd", func := "loop.example/quarterdeck/laws.FnQueueRun", spec := "fnQueueRun", apart := false }
def FnQueueRunSaid : Prop := fnQueueRunRow.holds Try.pinned (OpenSpec.ofChange fnQueueRunSpec)

/-- ITS FALSE NEIGHBOUR: 'it returns false'. Refute it at one input. -/
def fnQueueRunWrong : ChangeSpec := { name := "fnQueueRun", fn := fun _ => fun
  | [d1, d2] => { results := [.lit (.bool false)], args := [d1, d2] }
  | _ => none }
def FnQueueRunWrongFalsely : Prop := fnQueueRunRow.holds Try.pinned (OpenSpec.ofChange fnQueueRunWrong)

/-- 'laws.FnShareFair': WHATEVER THE INPUT: true; the input reads as it did. -/
def fnShareFairSpec : ChangeSpec := { name := "fnShareFair", fn := fun _ => fun
  | [d] => { results := [.lit (.bool true)], args := [d] }
  | _ => none }
def fnShareFairRow : OpenClaim := { program := "ytfhcgmfodfcpeaa", sum := "8ab79c26b256d0925e04ebffefda1f2e742515ac72c5597946bbeb4600eab2fd", func := "loop.example/quarterdeck/laws.FnShareFair", spec := "fnShareFair", apart := false }
def FnShareFairSaid : Prop := fnShareFairRow.holds Try.pinned (OpenSpec.ofChange fnShareFairSpec)

/-- ITS FALSE NEIGHBOUR: 'it returns false'. Refute it at one input. -/
def fnShareFairWrong : ChangeSpec := { name := "fnShareFair", fn := fun _ => fun
  | [d] => { results := [.lit (.bool false)], args := [d] }
  | _ => none }
def FnShareFairWrongFalsely : Prop := fnShareFairRow.holds Try.pinned (OpenSpec.ofChange fnShareFairWrong)

/-- 'laws.FnShareGap': WHATEVER THE INPUT: true; the input reads as it did. -/
def fnShareGapSpec : ChangeSpec := { name := "fnShareGap", fn := fun _ => fun
  | [d] => { results := [.lit (.bool true)], args := [d] }
  | _ => none }
def fnShareGapRow : OpenClaim := { program := "ytfhcgmfodfcpeaa", sum := "8ab79c26b256d0925e04ebffefda1f2e742515ac72c5597946bbeb4600eab2fd", func := "loop.example/quarterdeck/laws.FnShareGap", spec := "fnShareGap", apart := false }
def FnShareGapSaid : Prop := fnShareGapRow.holds Try.pinned (OpenSpec.ofChange fnShareGapSpec)

/-- ITS FALSE NEIGHBOUR: 'it returns false'. Refute it at one input. -/
def fnShareGapWrong : ChangeSpec := { name := "fnShareGap", fn := fun _ => fun
  | [d] => { results := [.lit (.bool false)], args := [d] }
  | _ => none }
def FnShareGapWrongFalsely : Prop := fnShareGapRow.holds Try.pinned (OpenSpec.ofChange fnShareGapWrong)

/-- 'laws.FnShareServed': WHATEVER THE INPUT: true; the input reads as it did. -/
def fnShareServedSpec : ChangeSpec := { name := "fnShareServed", fn := fun _ => fun
  | [d1, d2] => { results := [.lit (.bool true)], args := [d1, d2] }
  | _ => none }
def fnShareServedRow : OpenClaim := { program := "ytfhcgmfodfcpeaa", sum := "8ab79c26b256d0925e04ebffefda1f2e742515ac72c5597946bbeb4600eab2fd", func := "loop.example/quarterdeck/laws.FnShareServed", spec := "fnShareServed", apart := false }
def FnShareServedSaid : Prop := fnShareServedRow.holds Try.pinned (OpenSpec.ofChange fnShareServedSpec)

/-- ITS FALSE NEIGHBOUR: 'it returns false'. Refute it at one input. -/
def fnShareServedWrong : ChangeSpec := { name := "fnShareServed", fn := fun _ => fun
  | [d1, d2] => { results := [.lit (.bool false)], args := [d1, d2] }
  | _ => none }
def FnShareServedWrongFalsely : Prop := fnShareServedRow.holds Try.pinned (OpenSpec.ofChange fnShareServedWrong)

/- THE SECOND FORM. 'bulk': how many values and letters a reading holds, each counted each time it is reached (what is shared counts as often as it is met; a slice's spare places count too). A statement '..UptoSaid' is the law's where the arguments, and the package variables that the reading takes, are together of bulk at most 1048576: NARROWER than '..Said'. Prove '..Said' where nothing that the law and all that it calls make is longer than what came in: it says more and counts as full. Else prove '..UptoSaid'. A law counts once. -/
mutual
def uptoBulk {H : Type} : DataW H → Nat
  | .lit (.string bytes) => bytes.length + 1
  | .lit _ => 1
  | .nil => 1
  | .ptr d => uptoBulk d + 1
  | .slice elems spare => uptoBulkAll elems + uptoBulkAll spare + 1
  | .agg parts => uptoBulkAll parts + 1
  | .iface _ d => uptoBulk d + 1
  | .map entries => uptoBulkEntries entries + 1
  | .held _ => 1
def uptoBulkAll {H : Type} : List (DataW H) → Nat
  | [] => 0
  | d :: r => uptoBulk d + uptoBulkAll r
def uptoBulkEntries {H : Type} : List (Lit × DataW H) → Nat
  | [] => 0
  | x :: r => uptoBulkEntry x + uptoBulkEntries r
def uptoBulkEntry {H : Type} : Lit × DataW H → Nat
  | (.string bytes, d) => bytes.length + uptoBulk d + 1
  | (_, d) => uptoBulk d + 1
 end
def uptoSmall : (H : Type) → List (DataW H) → Bool := fun _ ds => decide (uptoBulkAll ds ≤ 1048576)
def OpenSpec.upto (s : _root_.Go.ChangeSpec) : _root_.Go.OpenSpec := { _root_.Go.OpenSpec.ofChange s with cond := some uptoSmall }

/-- 'laws.FnQueueWake', WHERE WHAT IT READS IS OF BULK AT MOST 1048576: true; the input reads as it did. -/
def fnQueueWakeUptoRow : OpenClaim := { program := "ytfhcgmfodfcpeaa", sum := "8ab79c26b256d0925e04ebffefda1f2e742515ac72c5597946bbeb4600eab2fd", func := "loop.example/quarterdeck/laws.FnQueueWake", spec := "fnQueueWake", unfollowed := true, recurses := true, apart := false, narrowed := true }
def FnQueueWakeUptoSaid : Prop := fnQueueWakeUptoRow.holds Try.pinned (OpenSpec.upto fnQueueWakeSpec)

/-- 'laws.FnQueueOk', WHERE WHAT IT READS IS OF BULK AT MOST 1048576: true; the input reads as it did. -/
def fnQueueOkUptoRow : OpenClaim := { program := "ytfhcgmfodfcpeaa", sum := "8ab79c26b256d0925e04ebffefda1f2e742515ac72c5597946bbeb4600eab2fd", func := "loop.example/quarterdeck/laws.FnQueueOk", spec := "fnQueueOk", apart := false, narrowed := true }
def FnQueueOkUptoSaid : Prop := fnQueueOkUptoRow.holds Try.pinned (OpenSpec.upto fnQueueOkSpec)

/-- 'laws.FnQueueTick', WHERE WHAT IT READS IS OF BULK AT MOST 1048576: true; the input reads as it did. -/
def fnQueueTickUptoRow : OpenClaim := { program := "ytfhcgmfodfcpeaa", sum := "8ab79c26b256d0925e04ebffefda1f2e742515ac72c5597946bbeb4600eab2fd", func := "loop.example/quarterdeck/laws.FnQueueTick", spec := "fnQueueTick", apart := false, narrowed := true }
def FnQueueTickUptoSaid : Prop := fnQueueTickUptoRow.holds Try.pinned (OpenSpec.upto fnQueueTickSpec)

/-- 'laws.FnQueueSleep', WHERE WHAT IT READS IS OF BULK AT MOST 1048576: true; the input reads as it did. -/
def fnQueueSleepUptoRow : OpenClaim := { program := "ytfhcgmfodfcpeaa", sum := "8ab79c26b256d0925e04ebffefda1f2e742515ac72c5597946bbeb4600eab2fd", func := "loop.example/quarterdeck/laws.FnQueueSleep", spec := "fnQueueSleep", unfollowed := true, recurses := true, apart := false, narrowed := true }
def FnQueueSleepUptoSaid : Prop := fnQueueSleepUptoRow.holds Try.pinned (OpenSpec.upto fnQueueSleepSpec)

/-- 'laws.FnQueueLess', WHERE WHAT IT READS IS OF BULK AT MOST 1048576: true; the input reads as it did. -/
def fnQueueLessUptoRow : OpenClaim := { program := "ytfhcgmfodfcpeaa", sum := "8ab79c26b256d0925e04ebffefda1f2e742515ac72c5597946bbeb4600eab2fd", func := "loop.example/quarterdeck/laws.FnQueueLess", spec := "fnQueueLess", unfollowed := true, recurses := true, apart := false, narrowed := true }
def FnQueueLessUptoSaid : Prop := fnQueueLessUptoRow.holds Try.pinned (OpenSpec.upto fnQueueLessSpec)

/-- 'laws.FnQueueRun', WHERE WHAT IT READS IS OF BULK AT MOST 1048576: true; the input reads as it did. -/
def fnQueueRunUptoRow : OpenClaim := { program := "ytfhcgmfodfcpeaa", sum := "8ab79c26b256d0925e04ebffefda1f2e742515ac72c5597946bbeb4600eab2fd", func := "loop.example/quarterdeck/laws.FnQueueRun", spec := "fnQueueRun", apart := false, narrowed := true }
def FnQueueRunUptoSaid : Prop := fnQueueRunUptoRow.holds Try.pinned (OpenSpec.upto fnQueueRunSpec)

/-- 'laws.FnShareFair', WHERE WHAT IT READS IS OF BULK AT MOST 1048576: true; the input reads as it did. -/
def fnShareFairUptoRow : OpenClaim := { program := "ytfhcgmfodfcpeaa", sum := "8ab79c26b256d0925e04ebffefda1f2e742515ac72c5597946bbeb4600eab2fd", func := "loop.example/quarterdeck/laws.FnShareFair", spec := "fnShareFair", apart := false, narrowed := true }
def FnShareFairUptoSaid : Prop := fnShareFairUptoRow.holds Try.pinned (OpenSpec.upto fnShareFairSpec)

/-- 'laws.FnShareGap', WHERE WHAT IT READS IS OF BULK AT MOST 1048576: true; the input reads as it did. -/
def fnShareGapUptoRow : OpenClaim := { program := "ytfhcgmfodfcpeaa", sum := "8ab79c26b256d0925e04ebffefda1f2e742515ac72c5597946bbeb4600eab2fd", func := "loop.example/quarterdeck/laws.FnShareGap", spec := "fnShareGap", apart := false, narrowed := true }
def FnShareGapUptoSaid : Prop := fnShareGapUptoRow.holds Try.pinned (OpenSpec.upto fnShareGapSpec)

/-- 'laws.FnShareServed', WHERE WHAT IT READS IS OF BULK AT MOST 1048576: true; the input reads as it did. -/
def fnShareServedUptoRow : OpenClaim := { program := "ytfhcgmfodfcpeaa", sum := "8ab79c26b256d0925e04ebffefda1f2e742515ac72c5597946bbeb4600eab2fd", func := "loop.example/quarterdeck/laws.FnShareServed", spec := "fnShareServed", apart := false, narrowed := true }
def FnShareServedUptoSaid : Prop := fnShareServedUptoRow.holds Try.pinned (OpenSpec.upto fnShareServedSpec)

end Rows
end Go.Proofs.Ytfhcgmfodfcpeaa
