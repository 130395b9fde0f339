/-
  No cell of these rows narrows 'for every input' (looked for: loops, veiled, ifaces, maps, wideKeys, modest, calm, conditions, laid).
  DERIVED. THE GIVEN ROWS OF THIS SEAT. 9 by the template 'for every input the law returns true; each argument reads behind the call as it read before'; 0 by the template 'total and deterministic' (their statements: YtiifanjjohophaaTotals.lean).
  GIVEN WITH THE SEED: the statements are not yours to turn. If you find one false, say at which input.
  Laid BY PROGRAM, IN A SANDBOX (cutbox-rows.mjs): the forced cells as the released guide's own fill.sh prints them over the translation 46b0a25cd32cb0dd… (all of the seat's roots in one cut). By AI agents, Wed Nov 11 2026. No macro, syntax, notation, axiom, sorry.
-/
import Derived.Test.YtiifanjjohophaaChecked
import GoSem.Claim
import GoSem.ClaimJoined
import GoSem.ClaimMapViews
import Derived.JoinedTies
import Derived.KernelRfl
namespace Go.Proofs.Ytiifanjjohophaa
/- THE CELL 'sum', in the pinned program and in every row, IS THE sha256 OF THE DUMP (.gsa) THAT YtiifanjjohophaaProg.lean LOADS. Nothing in Lean hashes anything: it is a label: what it is worth is what the hold of that sum in a sandbox is worth. -/
noncomputable def Try.pinned : Pinned := { name := "ytiifanjjohophaa", sum := "46b0a25cd32cb0dd8a591141b69426c4084a9b104fc6d630d968a13dd2a3023a", checked := Try.checked }
namespace Rows
def none {H : Type} : Left H := { results := [], args := [] }

/-- 'laws.FnSigsNew': WHATEVER THE INPUT: true; the input reads as it did. -/
def fnSigsNewSpec : ChangeSpec := { name := "fnSigsNew", fn := fun _ => fun
  | [d] => { results := [.lit (.bool true)], args := [d] }
  | _ => none }
def fnSigsNewRow : OpenClaim := { program := "ytiifanjjohophaa", sum := "46b0a25cd32cb0dd8a591141b69426c4084a9b104fc6d630d968a13dd2a3023a", func := "loop.example/quarterdeck/laws.FnSigsNew", spec := "fnSigsNew", unfollowed := true, recurses := true, apart := false }
def FnSigsNewSaid : Prop := fnSigsNewRow.holds Try.pinned (OpenSpec.ofChange fnSigsNewSpec)

/-- ITS FALSE NEIGHBOUR: 'it returns false'. Refute it at one input. -/
def fnSigsNewWrong : ChangeSpec := { name := "fnSigsNew", fn := fun _ => fun
  | [d] => { results := [.lit (.bool false)], args := [d] }
  | _ => none }
def FnSigsNewWrongFalsely : Prop := fnSigsNewRow.holds Try.pinned (OpenSpec.ofChange fnSigsNewWrong)

/-- 'laws.FnSigsDrain': WHATEVER THE INPUT: true; the input reads as it did. -/
def fnSigsDrainSpec : ChangeSpec := { name := "fnSigsDrain", fn := fun _ => fun
  | [d] => { results := [.lit (.bool true)], args := [d] }
  | _ => none }
def fnSigsDrainRow : OpenClaim := { program := "ytiifanjjohophaa", sum := "46b0a25cd32cb0dd8a591141b69426c4084a9b104fc6d630d968a13dd2a3023a", func := "loop.example/quarterdeck/laws.FnSigsDrain", spec := "fnSigsDrain", unfollowed := true, recurses := true, apart := false }
def FnSigsDrainSaid : Prop := fnSigsDrainRow.holds Try.pinned (OpenSpec.ofChange fnSigsDrainSpec)

/-- ITS FALSE NEIGHBOUR: 'it returns false'. Refute it at one input. -/
def fnSigsDrainWrong : ChangeSpec := { name := "fnSigsDrain", fn := fun _ => fun
  | [d] => { results := [.lit (.bool false)], args := [d] }
  | _ => none }
def FnSigsDrainWrongFalsely : Prop := fnSigsDrainRow.holds Try.pinned (OpenSpec.ofChange fnSigsDrainWrong)

/-- 'laws.FnSigsFork': WHATEVER THE INPUT: true; the input reads as it did. -/
def fnSigsForkSpec : ChangeSpec := { name := "fnSigsFork", fn := fun _ => fun
  | [d] => { results := [.lit (.bool true)], args := [d] }
  | _ => none }
def fnSigsForkRow : OpenClaim := { program := "ytiifanjjohophaa", sum := "46b0a25cd32cb0dd8a591141b69426c4084a9b104fc6d630d968a13dd2a3023a", func := "loop.example/quarterdeck/laws.FnSigsFork", spec := "fnSigsFork", apart := false }
def FnSigsForkSaid : Prop := fnSigsForkRow.holds Try.pinned (OpenSpec.ofChange fnSigsForkSpec)

/-- ITS FALSE NEIGHBOUR: 'it returns false'. Refute it at one input. -/
def fnSigsForkWrong : ChangeSpec := { name := "fnSigsFork", fn := fun _ => fun
  | [d] => { results := [.lit (.bool false)], args := [d] }
  | _ => none }
def FnSigsForkWrongFalsely : Prop := fnSigsForkRow.holds Try.pinned (OpenSpec.ofChange fnSigsForkWrong)

/-- 'laws.FnSigsSet': WHATEVER THE INPUT: true; the input reads as it did. -/
def fnSigsSetSpec : ChangeSpec := { name := "fnSigsSet", fn := fun _ => fun
  | [d] => { results := [.lit (.bool true)], args := [d] }
  | _ => none }
def fnSigsSetRow : OpenClaim := { program := "ytiifanjjohophaa", sum := "46b0a25cd32cb0dd8a591141b69426c4084a9b104fc6d630d968a13dd2a3023a", func := "loop.example/quarterdeck/laws.FnSigsSet", spec := "fnSigsSet", apart := false }
def FnSigsSetSaid : Prop := fnSigsSetRow.holds Try.pinned (OpenSpec.ofChange fnSigsSetSpec)

/-- ITS FALSE NEIGHBOUR: 'it returns false'. Refute it at one input. -/
def fnSigsSetWrong : ChangeSpec := { name := "fnSigsSet", fn := fun _ => fun
  | [d] => { results := [.lit (.bool false)], args := [d] }
  | _ => none }
def FnSigsSetWrongFalsely : Prop := fnSigsSetRow.holds Try.pinned (OpenSpec.ofChange fnSigsSetWrong)

/-- 'laws.FnSigsBlock': WHATEVER THE INPUT: true; the input reads as it did. -/
def fnSigsBlockSpec : ChangeSpec := { name := "fnSigsBlock", fn := fun _ => fun
  | [d] => { results := [.lit (.bool true)], args := [d] }
  | _ => none }
def fnSigsBlockRow : OpenClaim := { program := "ytiifanjjohophaa", sum := "46b0a25cd32cb0dd8a591141b69426c4084a9b104fc6d630d968a13dd2a3023a", func := "loop.example/quarterdeck/laws.FnSigsBlock", spec := "fnSigsBlock", apart := false }
def FnSigsBlockSaid : Prop := fnSigsBlockRow.holds Try.pinned (OpenSpec.ofChange fnSigsBlockSpec)

/-- ITS FALSE NEIGHBOUR: 'it returns false'. Refute it at one input. -/
def fnSigsBlockWrong : ChangeSpec := { name := "fnSigsBlock", fn := fun _ => fun
  | [d] => { results := [.lit (.bool false)], args := [d] }
  | _ => none }
def FnSigsBlockWrongFalsely : Prop := fnSigsBlockRow.holds Try.pinned (OpenSpec.ofChange fnSigsBlockWrong)

/-- 'laws.FnSigsRun': WHATEVER THE INPUT: true; the input reads as it did. -/
def fnSigsRunSpec : ChangeSpec := { name := "fnSigsRun", fn := fun _ => fun
  | [d] => { results := [.lit (.bool true)], args := [d] }
  | _ => none }
def fnSigsRunRow : OpenClaim := { program := "ytiifanjjohophaa", sum := "46b0a25cd32cb0dd8a591141b69426c4084a9b104fc6d630d968a13dd2a3023a", func := "loop.example/quarterdeck/laws.FnSigsRun", spec := "fnSigsRun", apart := false }
def FnSigsRunSaid : Prop := fnSigsRunRow.holds Try.pinned (OpenSpec.ofChange fnSigsRunSpec)

/-- ITS FALSE NEIGHBOUR: 'it returns false'. Refute it at one input. -/
def fnSigsRunWrong : ChangeSpec := { name := "fnSigsRun", fn := fun _ => fun
  | [d] => { results := [.lit (.bool false)], args := [d] }
  | _ => none }
def FnSigsRunWrongFalsely : Prop := fnSigsRunRow.holds Try.pinned (OpenSpec.ofChange fnSigsRunWrong)

/-- 'laws.FnSigsSend': WHATEVER THE INPUT: true; the input reads as it did. -/
def fnSigsSendSpec : ChangeSpec := { name := "fnSigsSend", fn := fun _ => fun
  | [d] => { results := [.lit (.bool true)], args := [d] }
  | _ => none }
def fnSigsSendRow : OpenClaim := { program := "ytiifanjjohophaa", sum := "46b0a25cd32cb0dd8a591141b69426c4084a9b104fc6d630d968a13dd2a3023a", func := "loop.example/quarterdeck/laws.FnSigsSend", spec := "fnSigsSend", apart := false }
def FnSigsSendSaid : Prop := fnSigsSendRow.holds Try.pinned (OpenSpec.ofChange fnSigsSendSpec)

/-- ITS FALSE NEIGHBOUR: 'it returns false'. Refute it at one input. -/
def fnSigsSendWrong : ChangeSpec := { name := "fnSigsSend", fn := fun _ => fun
  | [d] => { results := [.lit (.bool false)], args := [d] }
  | _ => none }
def FnSigsSendWrongFalsely : Prop := fnSigsSendRow.holds Try.pinned (OpenSpec.ofChange fnSigsSendWrong)

/-- 'laws.FnSigsTurn': WHATEVER THE INPUT: true; the input reads as it did. -/
def fnSigsTurnSpec : ChangeSpec := { name := "fnSigsTurn", fn := fun _ => fun
  | [d] => { results := [.lit (.bool true)], args := [d] }
  | _ => none }
def fnSigsTurnRow : OpenClaim := { program := "ytiifanjjohophaa", sum := "46b0a25cd32cb0dd8a591141b69426c4084a9b104fc6d630d968a13dd2a3023a", func := "loop.example/quarterdeck/laws.FnSigsTurn", spec := "fnSigsTurn", apart := false }
def FnSigsTurnSaid : Prop := fnSigsTurnRow.holds Try.pinned (OpenSpec.ofChange fnSigsTurnSpec)

/-- ITS FALSE NEIGHBOUR: 'it returns false'. Refute it at one input. -/
def fnSigsTurnWrong : ChangeSpec := { name := "fnSigsTurn", fn := fun _ => fun
  | [d] => { results := [.lit (.bool false)], args := [d] }
  | _ => none }
def FnSigsTurnWrongFalsely : Prop := fnSigsTurnRow.holds Try.pinned (OpenSpec.ofChange fnSigsTurnWrong)

/-- 'laws.FnSigsNext': WHATEVER THE INPUT: true; the input reads as it did. -/
def fnSigsNextSpec : ChangeSpec := { name := "fnSigsNext", fn := fun _ => fun
  | [d] => { results := [.lit (.bool true)], args := [d] }
  | _ => none }
def fnSigsNextRow : OpenClaim := { program := "ytiifanjjohophaa", sum := "46b0a25cd32cb0dd8a591141b69426c4084a9b104fc6d630d968a13dd2a3023a", func := "loop.example/quarterdeck/laws.FnSigsNext", spec := "fnSigsNext", unfollowed := true, recurses := true, apart := false }
def FnSigsNextSaid : Prop := fnSigsNextRow.holds Try.pinned (OpenSpec.ofChange fnSigsNextSpec)

/-- ITS FALSE NEIGHBOUR: 'it returns false'. Refute it at one input. -/
def fnSigsNextWrong : ChangeSpec := { name := "fnSigsNext", fn := fun _ => fun
  | [d] => { results := [.lit (.bool false)], args := [d] }
  | _ => none }
def FnSigsNextWrongFalsely : Prop := fnSigsNextRow.holds Try.pinned (OpenSpec.ofChange fnSigsNextWrong)

/- THE SECOND FORM. 'bulk': how many values and letters a reading holds, each counted each time it is reached (what is shared counts as often as it is met; a slice's spare places count too). A statement '..UptoSaid' is the law's where the arguments, and the package variables that the reading takes, are together of bulk at most 1048576: NARROWER than '..Said'. Prove '..Said' where nothing that the law and all that it calls make is longer than what came in: it says more and counts as full. Else prove '..UptoSaid'. A law counts once. -/
mutual
def uptoBulk {H : Type} : DataW H → Nat
  | .lit (.string bytes) => bytes.length + 1
  | .lit _ => 1
  | .nil => 1
  | .ptr d => uptoBulk d + 1
  | .slice elems spare => uptoBulkAll elems + uptoBulkAll spare + 1
  | .agg parts => uptoBulkAll parts + 1
  | .iface _ d => uptoBulk d + 1
  | .map entries => uptoBulkEntries entries + 1
  | .held _ => 1
def uptoBulkAll {H : Type} : List (DataW H) → Nat
  | [] => 0
  | d :: r => uptoBulk d + uptoBulkAll r
def uptoBulkEntries {H : Type} : List (Lit × DataW H) → Nat
  | [] => 0
  | x :: r => uptoBulkEntry x + uptoBulkEntries r
def uptoBulkEntry {H : Type} : Lit × DataW H → Nat
  | (.string bytes, d) => bytes.length + uptoBulk d + 1
  | (_, d) => uptoBulk d + 1
 end
def uptoSmall : (H : Type) → List (DataW H) → Bool := fun _ ds => decide (uptoBulkAll ds ≤ 1048576)
def OpenSpec.upto (s : _root_.Go.ChangeSpec) : _root_.Go.OpenSpec := { _root_.Go.OpenSpec.ofChange s with cond := some uptoSmall }

/-- 'laws.FnSigsNew', WHERE WHAT IT READS IS OF BULK AT MOST 1048576: true; the input reads as it did. -/
def fnSigsNewUptoRow : OpenClaim := { program := "ytiifanjjohophaa", sum := "46b0a25cd32cb0dd8a591141b69426c4084a9b104fc6d630d968a13dd2a3023a", func := "loop.example/quarterdeck/laws.FnSigsNew", spec := "fnSigsNew", unfollowed := true, recurses := true, apart := false, narrowed := true }
def FnSigsNewUptoSaid : Prop := fnSigsNewUptoRow.holds Try.pinned (OpenSpec.upto fnSigsNewSpec)

/-- 'laws.FnSigsDrain', WHERE WHAT IT READS IS OF BULK AT MOST 1048576: true; the input reads as it did. -/
def fnSigsDrainUptoRow : OpenClaim := { program := "ytiifanjjohophaa", sum := "46b0a25cd32cb0dd8a591141b69426c4084a9b104fc6d630d968a13dd2a3023a", func := "loop.example/quarterdeck/laws.FnSigsDrain", spec := "fnSigsDrain", unfollowed := true, recurses := true, apart := false, narrowed := true }
def FnSigsDrainUptoSaid : Prop := fnSigsDrainUptoRow.holds Try.pinned (OpenSpec.upto fnSigsDrainSpec)

/-- 'laws.FnSigsFork', WHERE WHAT IT READS IS OF BULK AT MOST 1048576: true; the input reads as it did. -/
def fnSigsForkUptoRow : OpenClaim := { program := "ytiifanjjohophaa", sum := "46b0a25cd32cb0dd8a591141b69426c4084a9b104fc6d630d968a13dd2a3023a", func := "loop.example/quarterdeck/laws.FnSigsFork", spec := "fnSigsFork", apart := false, narrowed := true }
def FnSigsForkUptoSaid : Prop := fnSigsForkUptoRow.holds Try.pinned (OpenSpec.upto fnSigsForkSpec)

/-- 'laws.FnSigsSet', WHERE WHAT IT READS IS OF BULK AT MOST 1048576: true; the input reads as it did. -/
def fnSigsSetUptoRow : OpenClaim := { program := "ytiifanjjohophaa", sum := "46b0a25cd32cb0dd8a591141b69426c4084a9b104fc6d630d968a13dd2a3023a", func := "loop.example/quarterdeck/laws.FnSigsSet", spec := "fnSigsSet", apart := false, narrowed := true }
def FnSigsSetUptoSaid : Prop := fnSigsSetUptoRow.holds Try.pinned (OpenSpec.upto fnSigsSetSpec)

/-- 'laws.FnSigsBlock', WHERE WHAT IT READS IS OF BULK AT MOST 1048576: true; the input reads as it did. -/
def fnSigsBlockUptoRow : OpenClaim := { program := "ytiifanjjohophaa", sum := "46b0a25cd32cb0dd8a591141b69426c4084a9b104fc6d630d968a13dd2a3023a", func := "loop.example/quarterdeck/laws.FnSigsBlock", spec := "fnSigsBlock", apart := false, narrowed := true }
def FnSigsBlockUptoSaid : Prop := fnSigsBlockUptoRow.holds Try.pinned (OpenSpec.upto fnSigsBlockSpec)

/-- 'laws.FnSigsRun', WHERE WHAT IT READS IS OF BULK AT MOST 1048576: true; the input reads as it did. -/
def fnSigsRunUptoRow : OpenClaim := { program := "ytiifanjjohophaa", sum := "46b0a25cd32cb0dd8a591141b69426c4084a9b104fc6d630d968a13dd2a3023a", func := "loop.example/quarterdeck/laws.FnSigsRun", spec := "fnSigsRun", apart := false, narrowed := true }
def FnSigsRunUptoSaid : Prop := fnSigsRunUptoRow.holds Try.pinned (OpenSpec.upto fnSigsRunSpec)

/-- 'laws.FnSigsSend', WHERE WHAT IT READS IS OF BULK AT MOST 1048576: true; the input reads as it did. -/
def fnSigsSendUptoRow : OpenClaim := { program := "ytiifanjjohophaa", sum := "46b0a25cd32cb0dd8a591141b69426c4084a9b104fc6d630d968a13dd2a3023a", func := "loop.example/quarterdeck/laws.FnSigsSend", spec := "fnSigsSend", apart := false, narrowed := true }
def FnSigsSendUptoSaid : Prop := fnSigsSendUptoRow.holds Try.pinned (OpenSpec.upto fnSigsSendSpec)

/-- 'laws.FnSigsTurn', WHERE WHAT IT READS IS OF BULK AT MOST 1048576: true; the input reads as it did. -/
def fnSigsTurnUptoRow : OpenClaim := { program := "ytiifanjjohophaa", sum := "46b0a25cd32cb0dd8a591141b69426c4084a9b104fc6d630d968a13dd2a3023a", func := "loop.example/quarterdeck/laws.FnSigsTurn", spec := "fnSigsTurn", apart := false, narrowed := true }
def FnSigsTurnUptoSaid : Prop := fnSigsTurnUptoRow.holds Try.pinned (OpenSpec.upto fnSigsTurnSpec)

/-- 'laws.FnSigsNext', WHERE WHAT IT READS IS OF BULK AT MOST 1048576: true; the input reads as it did. -/
def fnSigsNextUptoRow : OpenClaim := { program := "ytiifanjjohophaa", sum := "46b0a25cd32cb0dd8a591141b69426c4084a9b104fc6d630d968a13dd2a3023a", func := "loop.example/quarterdeck/laws.FnSigsNext", spec := "fnSigsNext", unfollowed := true, recurses := true, apart := false, narrowed := true }
def FnSigsNextUptoSaid : Prop := fnSigsNextUptoRow.holds Try.pinned (OpenSpec.upto fnSigsNextSpec)

end Rows
end Go.Proofs.Ytiifanjjohophaa
