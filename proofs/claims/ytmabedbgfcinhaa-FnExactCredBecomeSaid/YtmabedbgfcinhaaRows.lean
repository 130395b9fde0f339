/-
  No cell of these rows narrows 'for every input' (looked for: loops, veiled, ifaces, maps, wideKeys, modest, calm, conditions, laid).
  DERIVED. THE GIVEN ROWS OF THIS SEAT. 6 by the template 'for every input the law returns true; each argument reads behind the call as it read before'; 0 by the template 'total and deterministic' (their statements: YtmabedbgfcinhaaTotals.lean).
  GIVEN WITH THE SEED: the statements are not yours to turn. If you find one false, say at which input.
  Laid BY PROGRAM, IN A SANDBOX (cutbox-rows.mjs): the forced cells as the released guide's own fill.sh prints them over the translation 482e1ffb32cc18e4… (all of the seat's roots in one cut). By AI agents, Wed Nov 11 2026. No macro, syntax, notation, axiom, sorry.
-/
import Derived.Test.YtmabedbgfcinhaaChecked
import GoSem.Claim
import GoSem.ClaimJoined
import GoSem.ClaimMapViews
import Derived.JoinedTies
import Derived.KernelRfl
namespace Go.Proofs.Ytmabedbgfcinhaa
/- THE CELL 'sum', in the pinned program and in every row, IS THE sha256 OF THE DUMP (.gsa) THAT YtmabedbgfcinhaaProg.lean LOADS. Nothing in Lean hashes anything: it is a label: what it is worth is what the hold of that sum in a sandbox is worth. -/
noncomputable def Try.pinned : Pinned := { name := "ytmabedbgfcinhaa", sum := "482e1ffb32cc18e4a2c9aa01462ada0517730d99d37cddfca6c0ac0bad854ac6", checked := Try.checked }
namespace Rows
def none {H : Type} : Left H := { results := [], args := [] }

/-- 'laws.FnCredOk': WHATEVER THE INPUT: true; the input reads as it did. -/
def fnCredOkSpec : ChangeSpec := { name := "fnCredOk", fn := fun _ => fun
  | [d] => { results := [.lit (.bool true)], args := [d] }
  | _ => none }
def fnCredOkRow : OpenClaim := { program := "ytmabedbgfcinhaa", sum := "482e1ffb32cc18e4a2c9aa01462ada0517730d99d37cddfca6c0ac0bad854ac6", func := "loop.example/quarterdeck/laws.FnCredOk", spec := "fnCredOk", apart := false }
def FnCredOkSaid : Prop := fnCredOkRow.holds Try.pinned (OpenSpec.ofChange fnCredOkSpec)

/-- ITS FALSE NEIGHBOUR: 'it returns false'. Refute it at one input. -/
def fnCredOkWrong : ChangeSpec := { name := "fnCredOk", fn := fun _ => fun
  | [d] => { results := [.lit (.bool false)], args := [d] }
  | _ => none }
def FnCredOkWrongFalsely : Prop := fnCredOkRow.holds Try.pinned (OpenSpec.ofChange fnCredOkWrong)

/-- 'laws.FnCredBecome': WHATEVER THE INPUT: true; the input reads as it did. -/
def fnCredBecomeSpec : ChangeSpec := { name := "fnCredBecome", fn := fun _ => fun
  | [d] => { results := [.lit (.bool true)], args := [d] }
  | _ => none }
def fnCredBecomeRow : OpenClaim := { program := "ytmabedbgfcinhaa", sum := "482e1ffb32cc18e4a2c9aa01462ada0517730d99d37cddfca6c0ac0bad854ac6", func := "loop.example/quarterdeck/laws.FnCredBecome", spec := "fnCredBecome", apart := false }
def FnCredBecomeSaid : Prop := fnCredBecomeRow.holds Try.pinned (OpenSpec.ofChange fnCredBecomeSpec)

/-- ITS FALSE NEIGHBOUR: 'it returns false'. Refute it at one input. -/
def fnCredBecomeWrong : ChangeSpec := { name := "fnCredBecome", fn := fun _ => fun
  | [d] => { results := [.lit (.bool false)], args := [d] }
  | _ => none }
def FnCredBecomeWrongFalsely : Prop := fnCredBecomeRow.holds Try.pinned (OpenSpec.ofChange fnCredBecomeWrong)

/-- 'laws.FnCredGone': WHATEVER THE INPUT: true; the input reads as it did. -/
def fnCredGoneSpec : ChangeSpec := { name := "fnCredGone", fn := fun _ => fun
  | [d] => { results := [.lit (.bool true)], args := [d] }
  | _ => none }
def fnCredGoneRow : OpenClaim := { program := "ytmabedbgfcinhaa", sum := "482e1ffb32cc18e4a2c9aa01462ada0517730d99d37cddfca6c0ac0bad854ac6", func := "loop.example/quarterdeck/laws.FnCredGone", spec := "fnCredGone", apart := false }
def FnCredGoneSaid : Prop := fnCredGoneRow.holds Try.pinned (OpenSpec.ofChange fnCredGoneSpec)

/-- ITS FALSE NEIGHBOUR: 'it returns false'. Refute it at one input. -/
def fnCredGoneWrong : ChangeSpec := { name := "fnCredGone", fn := fun _ => fun
  | [d] => { results := [.lit (.bool false)], args := [d] }
  | _ => none }
def FnCredGoneWrongFalsely : Prop := fnCredGoneRow.holds Try.pinned (OpenSpec.ofChange fnCredGoneWrong)

/-- 'laws.FnCredRun': WHATEVER THE INPUT: true; the input reads as it did. -/
def fnCredRunSpec : ChangeSpec := { name := "fnCredRun", fn := fun _ => fun
  | [d] => { results := [.lit (.bool true)], args := [d] }
  | _ => none }
def fnCredRunRow : OpenClaim := { program := "ytmabedbgfcinhaa", sum := "482e1ffb32cc18e4a2c9aa01462ada0517730d99d37cddfca6c0ac0bad854ac6", func := "loop.example/quarterdeck/laws.FnCredRun", spec := "fnCredRun", apart := false }
def FnCredRunSaid : Prop := fnCredRunRow.holds Try.pinned (OpenSpec.ofChange fnCredRunSpec)

/-- ITS FALSE NEIGHBOUR: 'it returns false'. Refute it at one input. -/
def fnCredRunWrong : ChangeSpec := { name := "fnCredRun", fn := fun _ => fun
  | [d] => { results := [.lit (.bool false)], args := [d] }
  | _ => none }
def FnCredRunWrongFalsely : Prop := fnCredRunRow.holds Try.pinned (OpenSpec.ofChange fnCredRunWrong)

/-- 'laws.FnExactCredRun': WHATEVER THE INPUT: true; the input reads as it did. -/
def fnExactCredRunSpec : ChangeSpec := { name := "fnExactCredRun", fn := fun _ => fun
  | [d1, d2] => { results := [.lit (.bool true)], args := [d1, d2] }
  | _ => none }
def fnExactCredRunRow : OpenClaim := { program := "ytmabedbgfcinhaa", sum := "482e1ffb32cc18e4a2c9aa01462ada0517730d99d37cddfca6c0ac0bad854ac6", func := "loop.example/quarterdeck/laws.FnExactCredRun", spec := "fnExactCredRun", apart := false }
def FnExactCredRunSaid : Prop := fnExactCredRunRow.holds Try.pinned (OpenSpec.ofChange fnExactCredRunSpec)

/-- ITS FALSE NEIGHBOUR: 'it returns false'. Refute it at one input. -/
def fnExactCredRunWrong : ChangeSpec := { name := "fnExactCredRun", fn := fun _ => fun
  | [d1, d2] => { results := [.lit (.bool false)], args := [d1, d2] }
  | _ => none }
def FnExactCredRunWrongFalsely : Prop := fnExactCredRunRow.holds Try.pinned (OpenSpec.ofChange fnExactCredRunWrong)

/-- 'laws.FnExactCredBecome': WHATEVER THE INPUT: true; the input reads as it did. -/
def fnExactCredBecomeSpec : ChangeSpec := { name := "fnExactCredBecome", fn := fun _ => fun
  | [d1, d2] => { results := [.lit (.bool true)], args := [d1, d2] }
  | _ => none }
def fnExactCredBecomeRow : OpenClaim := { program := "ytmabedbgfcinhaa", sum := "482e1ffb32cc18e4a2c9aa01462ada0517730d99d37cddfca6c0ac0bad854ac6", func := "loop.example/quarterdeck/laws.FnExactCredBecome", spec := "fnExactCredBecome", apart := false }
def FnExactCredBecomeSaid : Prop := fnExactCredBecomeRow.holds Try.pinned (OpenSpec.ofChange fnExactCredBecomeSpec)

/-- ITS FALSE NEIGHBOUR: 'it returns false'. Refute it at one input. -/
def fnExactCredBecomeWrong : ChangeSpec := { name := "fnExactCredBecome", fn := fun _ => fun
  | [d1, d2] => { results := [.lit (.bool false)], args := [d1, d2] }
  | _ => none }
def FnExactCredBecomeWrongFalsely : Prop := fnExactCredBecomeRow.holds Try.pinned (OpenSpec.ofChange fnExactCredBecomeWrong)

/- THE SECOND FORM. 'bulk': how many values and letters a reading holds, each counted each time it is reached (what is shared counts as often as it is met; a slice's spare places count too). A statement '..UptoSaid' is the law's where the arguments, and the package variables that the reading takes, are together of bulk at most 1048576: NARROWER than '..Said'. Prove '..Said' where nothing that the law and all that it calls make is longer than what came in: it says more and counts as full. Else prove '..UptoSaid'. A law counts once. -/
mutual
def uptoBulk {H : Type} : DataW H → Nat
  | .lit (.string bytes) => bytes.length + 1
  | .lit _ => 1
  | .nil => 1
  | .ptr d => uptoBulk d + 1
  | .slice elems spare => uptoBulkAll elems + uptoBulkAll spare + 1
  | .agg parts => uptoBulkAll parts + 1
  | .iface _ d => uptoBulk d + 1
  | .map entries => uptoBulkEntries entries + 1
  | .held _ => 1
def uptoBulkAll {H : Type} : List (DataW H) → Nat
  | [] => 0
  | d :: r => uptoBulk d + uptoBulkAll r
def uptoBulkEntries {H : Type} : List (Lit × DataW H) → Nat
  | [] => 0
  | x :: r => uptoBulkEntry x + uptoBulkEntries r
def uptoBulkEntry {H : Type} : Lit × DataW H → Nat
  | (.string bytes, d) => bytes.length + uptoBulk d + 1
  | (_, d) => uptoBulk d + 1
 end
def uptoSmall : (H : Type) → List (DataW H) → Bool := fun _ ds => decide (uptoBulkAll ds ≤ 1048576)
def OpenSpec.upto (s : _root_.Go.ChangeSpec) : _root_.Go.OpenSpec := { _root_.Go.OpenSpec.ofChange s with cond := some uptoSmall }

/-- 'laws.FnCredOk', WHERE WHAT IT READS IS OF BULK AT MOST 1048576: true; the input reads as it did. -/
def fnCredOkUptoRow : OpenClaim := { program := "ytmabedbgfcinhaa", sum := "482e1ffb32cc18e4a2c9aa01462ada0517730d99d37cddfca6c0ac0bad854ac6", func := "loop.example/quarterdeck/laws.FnCredOk", spec := "fnCredOk", apart := false, narrowed := true }
def FnCredOkUptoSaid : Prop := fnCredOkUptoRow.holds Try.pinned (OpenSpec.upto fnCredOkSpec)

/-- 'laws.FnCredBecome', WHERE WHAT IT READS IS OF BULK AT MOST 1048576: true; the input reads as it did. -/
def fnCredBecomeUptoRow : OpenClaim := { program := "ytmabedbgfcinhaa", sum := "482e1ffb32cc18e4a2c9aa01462ada0517730d99d37cddfca6c0ac0bad854ac6", func := "loop.example/quarterdeck/laws.FnCredBecome", spec := "fnCredBecome", apart := false, narrowed := true }
def FnCredBecomeUptoSaid : Prop := fnCredBecomeUptoRow.holds Try.pinned (OpenSpec.upto fnCredBecomeSpec)

/-- 'laws.FnCredGone', WHERE WHAT IT READS IS OF BULK AT MOST 1048576: true; the input reads as it did. -/
def fnCredGoneUptoRow : OpenClaim := { program := "ytmabedbgfcinhaa", sum := "482e1ffb32cc18e4a2c9aa01462ada0517730d99d37cddfca6c0ac0bad854ac6", func := "loop.example/quarterdeck/laws.FnCredGone", spec := "fnCredGone", apart := false, narrowed := true }
def FnCredGoneUptoSaid : Prop := fnCredGoneUptoRow.holds Try.pinned (OpenSpec.upto fnCredGoneSpec)

/-- 'laws.FnCredRun', WHERE WHAT IT READS IS OF BULK AT MOST 1048576: true; the input reads as it did. -/
def fnCredRunUptoRow : OpenClaim := { program := "ytmabedbgfcinhaa", sum := "482e1ffb32cc18e4a2c9aa01462ada0517730d99d37cddfca6c0ac0bad854ac6", func := "loop.example/quarterdeck/laws.FnCredRun", spec := "fnCredRun", apart := false, narrowed := true }
def FnCredRunUptoSaid : Prop := fnCredRunUptoRow.holds Try.pinned (OpenSpec.upto fnCredRunSpec)

/-- 'laws.FnExactCredRun', WHERE WHAT IT READS IS OF BULK AT MOST 1048576: true; the input reads as it did. -/
def fnExactCredRunUptoRow : OpenClaim := { program := "ytmabedbgfcinhaa", sum := "482e1ffb32cc18e4a2c9aa01462ada0517730d99d37cddfca6c0ac0bad854ac6", func := "loop.example/quarterdeck/laws.FnExactCredRun", spec := "fnExactCredRun", apart := false, narrowed := true }
def FnExactCredRunUptoSaid : Prop := fnExactCredRunUptoRow.holds Try.pinned (OpenSpec.upto fnExactCredRunSpec)

/-- 'laws.FnExactCredBecome', WHERE WHAT IT READS IS OF BULK AT MOST 1048576: true; the input reads as it did. -/
def fnExactCredBecomeUptoRow : OpenClaim := { program := "ytmabedbgfcinhaa", sum := "482e1ffb32cc18e4a2c9aa01462ada0517730d99d37cddfca6c0ac0bad854ac6", func := "loop.example/quarterdeck/laws.FnExactCredBecome", spec := "fnExactCredBecome", apart := false, narrowed := true }
def FnExactCredBecomeUptoSaid : Prop := fnExactCredBecomeUptoRow.holds Try.pinned (OpenSpec.upto fnExactCredBecomeSpec)

end Rows
end Go.Proofs.Ytmabedbgfcinhaa
