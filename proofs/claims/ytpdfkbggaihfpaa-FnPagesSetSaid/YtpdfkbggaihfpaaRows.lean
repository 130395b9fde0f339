/-
  No cell of these rows narrows 'for every input' (looked for: loops, veiled, ifaces, maps, wideKeys, modest, calm, conditions, laid).
  DERIVED. THE GIVEN ROWS OF THIS SEAT. 9 by the template 'for every input the law returns true; each argument reads behind the call as it read before'; 0 by the template 'total and deterministic' (their statements: YtpdfkbggaihfpaaTotals.lean).
  GIVEN WITH THE SEED: the statements are not yours to turn. If you find one false, say at which input.
  Laid BY PROGRAM, IN A SANDBOX (cutbox-rows.mjs): the forced cells as the released guide's own fill.sh prints them over the translation f328a6ca5a88ba09… (all of the seat's roots in one cut). By AI agents, Wed Nov 11 2026. No macro, syntax, notation, axiom, sorry.
-/
import Derived.Test.YtpdfkbggaihfpaaChecked
import GoSem.Claim
import GoSem.ClaimJoined
import GoSem.ClaimMapViews
import Derived.JoinedTies
import Derived.KernelRfl
namespace Go.Proofs.Ytpdfkbggaihfpaa
/- THE CELL 'sum', in the pinned program and in every row, IS THE sha256 OF THE DUMP (.gsa) THAT YtpdfkbggaihfpaaProg.lean LOADS. Nothing in Lean hashes anything: it is a label: what it is worth is what the hold of that sum in a sandbox is worth. -/
noncomputable def Try.pinned : Pinned := { name := "ytpdfkbggaihfpaa", sum := "f328a6ca5a88ba0957179f332ba6f85e9c9a84fdbd043c18345ad9049b85c1b9", checked := Try.checked }
namespace Rows
def none {H : Type} : Left H := { results := [], args := [] }

/-- 'laws.FnPagesRoom': WHATEVER THE INPUT: true; the input reads as it did. -/
def fnPagesRoomSpec : ChangeSpec := { name := "fnPagesRoom", fn := fun _ => fun
  | [d] => { results := [.lit (.bool true)], args := [d] }
  | _ => none }
def fnPagesRoomRow : OpenClaim := { program := "ytpdfkbggaihfpaa", sum := "f328a6ca5a88ba0957179f332ba6f85e9c9a84fdbd043c18345ad9049b85c1b9", func := "loop.example/quarterdeck/laws.FnPagesRoom", spec := "fnPagesRoom", apart := false }
def FnPagesRoomSaid : Prop := fnPagesRoomRow.holds Try.pinned (OpenSpec.ofChange fnPagesRoomSpec)

/-- ITS FALSE NEIGHBOUR: 'it returns false'. Refute it at one input. -/
def fnPagesRoomWrong : ChangeSpec := { name := "fnPagesRoom", fn := fun _ => fun
  | [d] => { results := [.lit (.bool false)], args := [d] }
  | _ => none }
def FnPagesRoomWrongFalsely : Prop := fnPagesRoomRow.holds Try.pinned (OpenSpec.ofChange fnPagesRoomWrong)

/-- 'laws.FnPagesSet': WHATEVER THE INPUT: true; the input reads as it did. -/
def fnPagesSetSpec : ChangeSpec := { name := "fnPagesSet", fn := fun _ => fun
  | [d] => { results := [.lit (.bool true)], args := [d] }
  | _ => none }
def fnPagesSetRow : OpenClaim := { program := "ytpdfkbggaihfpaa", sum := "f328a6ca5a88ba0957179f332ba6f85e9c9a84fdbd043c18345ad9049b85c1b9", func := "loop.example/quarterdeck/laws.FnPagesSet", spec := "fnPagesSet", apart := false }
def FnPagesSetSaid : Prop := fnPagesSetRow.holds Try.pinned (OpenSpec.ofChange fnPagesSetSpec)

/-- ITS FALSE NEIGHBOUR: 'it returns false'. Refute it at one input. -/
def fnPagesSetWrong : ChangeSpec := { name := "fnPagesSet", fn := fun _ => fun
  | [d] => { results := [.lit (.bool false)], args := [d] }
  | _ => none }
def FnPagesSetWrongFalsely : Prop := fnPagesSetRow.holds Try.pinned (OpenSpec.ofChange fnPagesSetWrong)

/-- 'laws.FnPagesKeep': WHATEVER THE INPUT: true; the input reads as it did. -/
def fnPagesKeepSpec : ChangeSpec := { name := "fnPagesKeep", fn := fun _ => fun
  | [d] => { results := [.lit (.bool true)], args := [d] }
  | _ => none }
def fnPagesKeepRow : OpenClaim := { program := "ytpdfkbggaihfpaa", sum := "f328a6ca5a88ba0957179f332ba6f85e9c9a84fdbd043c18345ad9049b85c1b9", func := "loop.example/quarterdeck/laws.FnPagesKeep", spec := "fnPagesKeep", apart := false }
def FnPagesKeepSaid : Prop := fnPagesKeepRow.holds Try.pinned (OpenSpec.ofChange fnPagesKeepSpec)

/-- ITS FALSE NEIGHBOUR: 'it returns false'. Refute it at one input. -/
def fnPagesKeepWrong : ChangeSpec := { name := "fnPagesKeep", fn := fun _ => fun
  | [d] => { results := [.lit (.bool false)], args := [d] }
  | _ => none }
def FnPagesKeepWrongFalsely : Prop := fnPagesKeepRow.holds Try.pinned (OpenSpec.ofChange fnPagesKeepWrong)

/-- 'laws.FnPagesGive': WHATEVER THE INPUT: true; the input reads as it did. -/
def fnPagesGiveSpec : ChangeSpec := { name := "fnPagesGive", fn := fun _ => fun
  | [d] => { results := [.lit (.bool true)], args := [d] }
  | _ => none }
def fnPagesGiveRow : OpenClaim := { program := "ytpdfkbggaihfpaa", sum := "f328a6ca5a88ba0957179f332ba6f85e9c9a84fdbd043c18345ad9049b85c1b9", func := "loop.example/quarterdeck/laws.FnPagesGive", spec := "fnPagesGive", apart := false }
def FnPagesGiveSaid : Prop := fnPagesGiveRow.holds Try.pinned (OpenSpec.ofChange fnPagesGiveSpec)

/-- ITS FALSE NEIGHBOUR: 'it returns false'. Refute it at one input. -/
def fnPagesGiveWrong : ChangeSpec := { name := "fnPagesGive", fn := fun _ => fun
  | [d] => { results := [.lit (.bool false)], args := [d] }
  | _ => none }
def FnPagesGiveWrongFalsely : Prop := fnPagesGiveRow.holds Try.pinned (OpenSpec.ofChange fnPagesGiveWrong)

/-- 'laws.FnPagesTake': WHATEVER THE INPUT: true; the input reads as it did. -/
def fnPagesTakeSpec : ChangeSpec := { name := "fnPagesTake", fn := fun _ => fun
  | [d] => { results := [.lit (.bool true)], args := [d] }
  | _ => none }
def fnPagesTakeRow : OpenClaim := { program := "ytpdfkbggaihfpaa", sum := "f328a6ca5a88ba0957179f332ba6f85e9c9a84fdbd043c18345ad9049b85c1b9", func := "loop.example/quarterdeck/laws.FnPagesTake", spec := "fnPagesTake", apart := false }
def FnPagesTakeSaid : Prop := fnPagesTakeRow.holds Try.pinned (OpenSpec.ofChange fnPagesTakeSpec)

/-- ITS FALSE NEIGHBOUR: 'it returns false'. Refute it at one input. -/
def fnPagesTakeWrong : ChangeSpec := { name := "fnPagesTake", fn := fun _ => fun
  | [d] => { results := [.lit (.bool false)], args := [d] }
  | _ => none }
def FnPagesTakeWrongFalsely : Prop := fnPagesTakeRow.holds Try.pinned (OpenSpec.ofChange fnPagesTakeWrong)

/-- 'laws.FnLockWord': WHATEVER THE INPUT: true; the input reads as it did. -/
def fnLockWordSpec : ChangeSpec := { name := "fnLockWord", fn := fun _ => fun
  | [d1, d2] => { results := [.lit (.bool true)], args := [d1, d2] }
  | _ => none }
def fnLockWordRow : OpenClaim := { program := "ytpdfkbggaihfpaa", sum := "f328a6ca5a88ba0957179f332ba6f85e9c9a84fdbd043c18345ad9049b85c1b9", func := "loop.example/quarterdeck/laws.FnLockWord", spec := "fnLockWord", apart := false }
def FnLockWordSaid : Prop := fnLockWordRow.holds Try.pinned (OpenSpec.ofChange fnLockWordSpec)

/-- ITS FALSE NEIGHBOUR: 'it returns false'. Refute it at one input. -/
def fnLockWordWrong : ChangeSpec := { name := "fnLockWord", fn := fun _ => fun
  | [d1, d2] => { results := [.lit (.bool false)], args := [d1, d2] }
  | _ => none }
def FnLockWordWrongFalsely : Prop := fnLockWordRow.holds Try.pinned (OpenSpec.ofChange fnLockWordWrong)

/-- 'laws.FnLockEnds': WHATEVER THE INPUT: true; the input reads as it did. -/
def fnLockEndsSpec : ChangeSpec := { name := "fnLockEnds", fn := fun _ => fun
  | [d1, d2] => { results := [.lit (.bool true)], args := [d1, d2] }
  | _ => none }
def fnLockEndsRow : OpenClaim := { program := "ytpdfkbggaihfpaa", sum := "f328a6ca5a88ba0957179f332ba6f85e9c9a84fdbd043c18345ad9049b85c1b9", func := "loop.example/quarterdeck/laws.FnLockEnds", spec := "fnLockEnds", apart := false }
def FnLockEndsSaid : Prop := fnLockEndsRow.holds Try.pinned (OpenSpec.ofChange fnLockEndsSpec)

/-- ITS FALSE NEIGHBOUR: 'it returns false'. Refute it at one input. -/
def fnLockEndsWrong : ChangeSpec := { name := "fnLockEnds", fn := fun _ => fun
  | [d1, d2] => { results := [.lit (.bool false)], args := [d1, d2] }
  | _ => none }
def FnLockEndsWrongFalsely : Prop := fnLockEndsRow.holds Try.pinned (OpenSpec.ofChange fnLockEndsWrong)

/-- 'laws.FnLockQuick': WHATEVER THE INPUT: true; the input reads as it did. -/
def fnLockQuickSpec : ChangeSpec := { name := "fnLockQuick", fn := fun _ => fun
  | [d] => { results := [.lit (.bool true)], args := [d] }
  | _ => none }
def fnLockQuickRow : OpenClaim := { program := "ytpdfkbggaihfpaa", sum := "f328a6ca5a88ba0957179f332ba6f85e9c9a84fdbd043c18345ad9049b85c1b9", func := "loop.example/quarterdeck/laws.FnLockQuick", spec := "fnLockQuick", apart := false }
def FnLockQuickSaid : Prop := fnLockQuickRow.holds Try.pinned (OpenSpec.ofChange fnLockQuickSpec)

/-- ITS FALSE NEIGHBOUR: 'it returns false'. Refute it at one input. -/
def fnLockQuickWrong : ChangeSpec := { name := "fnLockQuick", fn := fun _ => fun
  | [d] => { results := [.lit (.bool false)], args := [d] }
  | _ => none }
def FnLockQuickWrongFalsely : Prop := fnLockQuickRow.holds Try.pinned (OpenSpec.ofChange fnLockQuickWrong)

/-- 'laws.FnLockOne': WHATEVER THE INPUT: true; the input reads as it did. -/
def fnLockOneSpec : ChangeSpec := { name := "fnLockOne", fn := fun _ => fun
  | [d1, d2] => { results := [.lit (.bool true)], args := [d1, d2] }
  | _ => none }
def fnLockOneRow : OpenClaim := { program := "ytpdfkbggaihfpaa", sum := "f328a6ca5a88ba0957179f332ba6f85e9c9a84fdbd043c18345ad9049b85c1b9", func := "loop.example/quarterdeck/laws.FnLockOne", spec := "fnLockOne", apart := false }
def FnLockOneSaid : Prop := fnLockOneRow.holds Try.pinned (OpenSpec.ofChange fnLockOneSpec)

/-- ITS FALSE NEIGHBOUR: 'it returns false'. Refute it at one input. -/
def fnLockOneWrong : ChangeSpec := { name := "fnLockOne", fn := fun _ => fun
  | [d1, d2] => { results := [.lit (.bool false)], args := [d1, d2] }
  | _ => none }
def FnLockOneWrongFalsely : Prop := fnLockOneRow.holds Try.pinned (OpenSpec.ofChange fnLockOneWrong)

/- THE SECOND FORM. 'bulk': how many values and letters a reading holds, each counted each time it is reached (what is shared counts as often as it is met; a slice's spare places count too). A statement '..UptoSaid' is the law's where the arguments, and the package variables that the reading takes, are together of bulk at most 1048576: NARROWER than '..Said'. Prove '..Said' where nothing that the law and all that it calls make is longer than what came in: it says more and counts as full. Else prove '..UptoSaid'. A law counts once. -/
mutual
def uptoBulk {H : Type} : DataW H → Nat
  | .lit (.string bytes) => bytes.length + 1
  | .lit _ => 1
  | .nil => 1
  | .ptr d => uptoBulk d + 1
  | .slice elems spare => uptoBulkAll elems + uptoBulkAll spare + 1
  | .agg parts => uptoBulkAll parts + 1
  | .iface _ d => uptoBulk d + 1
  | .map entries => uptoBulkEntries entries + 1
  | .held _ => 1
def uptoBulkAll {H : Type} : List (DataW H) → Nat
  | [] => 0
  | d :: r => uptoBulk d + uptoBulkAll r
def uptoBulkEntries {H : Type} : List (Lit × DataW H) → Nat
  | [] => 0
  | x :: r => uptoBulkEntry x + uptoBulkEntries r
def uptoBulkEntry {H : Type} : Lit × DataW H → Nat
  | (.string bytes, d) => bytes.length + uptoBulk d + 1
  | (_, d) => uptoBulk d + 1
 end
def uptoSmall : (H : Type) → List (DataW H) → Bool := fun _ ds => decide (uptoBulkAll ds ≤ 1048576)
def OpenSpec.upto (s : _root_.Go.ChangeSpec) : _root_.Go.OpenSpec := { _root_.Go.OpenSpec.ofChange s with cond := some uptoSmall }

/-- 'laws.FnPagesRoom', WHERE WHAT IT READS IS OF BULK AT MOST 1048576: true; the input reads as it did. -/
def fnPagesRoomUptoRow : OpenClaim := { program := "ytpdfkbggaihfpaa", sum := "f328a6ca5a88ba0957179f332ba6f85e9c9a84fdbd043c18345ad9049b85c1b9", func := "loop.example/quarterdeck/laws.FnPagesRoom", spec := "fnPagesRoom", apart := false, narrowed := true }
def FnPagesRoomUptoSaid : Prop := fnPagesRoomUptoRow.holds Try.pinned (OpenSpec.upto fnPagesRoomSpec)

/-- 'laws.FnPagesSet', WHERE WHAT IT READS IS OF BULK AT MOST 1048576: true; the input reads as it did. -/
def fnPagesSetUptoRow : OpenClaim := { program := "ytpdfkbggaihfpaa", sum := "f328a6ca5a88ba0957179f332ba6f85e9c9a84fdbd043c18345ad9049b85c1b9", func := "loop.example/quarterdeck/laws.FnPagesSet", spec := "fnPagesSet", apart := false, narrowed := true }
def FnPagesSetUptoSaid : Prop := fnPagesSetUptoRow.holds Try.pinned (OpenSpec.upto fnPagesSetSpec)

/-- 'laws.FnPagesKeep', WHERE WHAT IT READS IS OF BULK AT MOST 1048576: true; the input reads as it did. -/
def fnPagesKeepUptoRow : OpenClaim := { program := "ytpdfkbggaihfpaa", sum := "f328a6ca5a88ba0957179f332ba6f85e9c9a84fdbd043c18345ad9049b85c1b9", func := "loop.example/quarterdeck/laws.FnPagesKeep", spec := "fnPagesKeep", apart := false, narrowed := true }
def FnPagesKeepUptoSaid : Prop := fnPagesKeepUptoRow.holds Try.pinned (OpenSpec.upto fnPagesKeepSpec)

/-- 'laws.FnPagesGive', WHERE WHAT IT READS IS OF BULK AT MOST 1048576: true; the input reads as it did. -/
def fnPagesGiveUptoRow : OpenClaim := { program := "ytpdfkbggaihfpaa", sum := "f328a6ca5a88ba0957179f332ba6f85e9c9a84fdbd043c18345ad9049b85c1b9", func := "loop.example/quarterdeck/laws.FnPagesGive", spec := "fnPagesGive", apart := false, narrowed := true }
def FnPagesGiveUptoSaid : Prop := fnPagesGiveUptoRow.holds Try.pinned (OpenSpec.upto fnPagesGiveSpec)

/-- 'laws.FnPagesTake', WHERE WHAT IT READS IS OF BULK AT MOST 1048576: true; the input reads as it did. -/
def fnPagesTakeUptoRow : OpenClaim := { program := "ytpdfkbggaihfpaa", sum := "f328a6ca5a88ba0957179f332ba6f85e9c9a84fdbd043c18345ad9049b85c1b9", func := "loop.example/quarterdeck/laws.FnPagesTake", spec := "fnPagesTake", apart := false, narrowed := true }
def FnPagesTakeUptoSaid : Prop := fnPagesTakeUptoRow.holds Try.pinned (OpenSpec.upto fnPagesTakeSpec)

/-- 'laws.FnLockWord', WHERE WHAT IT READS IS OF BULK AT MOST 1048576: true; the input reads as it did. -/
def fnLockWordUptoRow : OpenClaim := { program := "ytpdfkbggaihfpaa", sum := "f328a6ca5a88ba0957179f332ba6f85e9c9a84fdbd043c18345ad9049b85c1b9", func := "loop.example/quarterdeck/laws.FnLockWord", spec := "fnLockWord", apart := false, narrowed := true }
def FnLockWordUptoSaid : Prop := fnLockWordUptoRow.holds Try.pinned (OpenSpec.upto fnLockWordSpec)

/-- 'laws.FnLockEnds', WHERE WHAT IT READS IS OF BULK AT MOST 1048576: true; the input reads as it did. -/
def fnLockEndsUptoRow : OpenClaim := { program := "ytpdfkbggaihfpaa", sum := "f328a6ca5a88ba0957179f332ba6f85e9c9a84fdbd043c18345ad9049b85c1b9", func := "loop.example/quarterdeck/laws.FnLockEnds", spec := "fnLockEnds", apart := false, narrowed := true }
def FnLockEndsUptoSaid : Prop := fnLockEndsUptoRow.holds Try.pinned (OpenSpec.upto fnLockEndsSpec)

/-- 'laws.FnLockQuick', WHERE WHAT IT READS IS OF BULK AT MOST 1048576: true; the input reads as it did. -/
def fnLockQuickUptoRow : OpenClaim := { program := "ytpdfkbggaihfpaa", sum := "f328a6ca5a88ba0957179f332ba6f85e9c9a84fdbd043c18345ad9049b85c1b9", func := "loop.example/quarterdeck/laws.FnLockQuick", spec := "fnLockQuick", apart := false, narrowed := true }
def FnLockQuickUptoSaid : Prop := fnLockQuickUptoRow.holds Try.pinned (OpenSpec.upto fnLockQuickSpec)

/-- 'laws.FnLockOne', WHERE WHAT IT READS IS OF BULK AT MOST 1048576: true; the input reads as it did. -/
def fnLockOneUptoRow : OpenClaim := { program := "ytpdfkbggaihfpaa", sum := "f328a6ca5a88ba0957179f332ba6f85e9c9a84fdbd043c18345ad9049b85c1b9", func := "loop.example/quarterdeck/laws.FnLockOne", spec := "fnLockOne", apart := false, narrowed := true }
def FnLockOneUptoSaid : Prop := fnLockOneUptoRow.holds Try.pinned (OpenSpec.upto fnLockOneSpec)

end Rows
end Go.Proofs.Ytpdfkbggaihfpaa
