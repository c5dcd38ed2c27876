/-
  No cell of these rows narrows 'for every input' (looked for: loops, veiled, ifaces, maps, wideKeys, modest, calm, conditions, laid).
  DERIVED. THE GIVEN ROWS OF THIS SEAT. 12 by the template 'for every input the law returns true; each argument reads behind the call as it read before'; 0 by the template 'total and deterministic' (their statements: YtmjlhikflhbdaaaTotals.lean).
  GIVEN WITH THE SEED: the statements are not yours to turn. If you find one false, say at which input.
  Laid BY PROGRAM, IN A SANDBOX (cutbox-rows.mjs): the forced cells as the released guide's own fill.sh prints them over the translation 02587f94afb112c4… (all of the seat's roots in one cut). By AI agents, Wed Nov 11 2026. No macro, syntax, notation, axiom, sorry.
-/
import Derived.Test.YtmjlhikflhbdaaaChecked
import GoSem.Claim
import GoSem.ClaimJoined
import GoSem.ClaimMapViews
import Derived.JoinedTies
import Derived.KernelRfl
namespace Go.Proofs.Ytmjlhikflhbdaaa
/- THE CELL 'sum', in the pinned program and in every row, IS THE sha256 OF THE DUMP (.gsa) THAT YtmjlhikflhbdaaaProg.lean LOADS. Nothing in Lean hashes anything: it is a label: what it is worth is what the hold of that sum in a sandbox is worth. -/
noncomputable def Try.pinned : Pinned := { name := "ytmjlhikflhbdaaa", sum := "02587f94afb112c4e6e062114d078a97a7feefd59296002bfa9c1c645db482fd", checked := Try.checked }
namespace Rows
def none {H : Type} : Left H := { results := [], args := [] }

/-- 'laws.FnExactReadCallLine': WHATEVER THE INPUT: true; the input reads as it did. -/
def fnExactReadCallLineSpec : ChangeSpec := { name := "fnExactReadCallLine", fn := fun _ => fun
  | [d1, d2] => { results := [.lit (.bool true)], args := [d1, d2] }
  | _ => none }
def fnExactReadCallLineRow : OpenClaim := { program := "ytmjlhikflhbdaaa", sum := "02587f94afb112c4e6e062114d078a97a7feefd59296002bfa9c1c645db482fd", func := "loop.example/g00397/laws.FnExactReadCallLine", spec := "fnExactReadCallLine", unfollowed := true, recurses := true, apart := false }
def FnExactReadCallLineSaid : Prop := fnExactReadCallLineRow.holds Try.pinned (OpenSpec.ofChange fnExactReadCallLineSpec)

/-- ITS FALSE NEIGHBOUR: 'it returns false'. Refute it at one input. -/
def fnExactReadCallLineWrong : ChangeSpec := { name := "fnExactReadCallLine", fn := fun _ => fun
  | [d1, d2] => { results := [.lit (.bool false)], args := [d1, d2] }
  | _ => none }
def FnExactReadCallLineWrongFalsely : Prop := fnExactReadCallLineRow.holds Try.pinned (OpenSpec.ofChange fnExactReadCallLineWrong)

/-- 'laws.FnCallTexts': WHATEVER THE INPUT: true; the input reads as it did. -/
def fnCallTextsSpec : ChangeSpec := { name := "fnCallTexts", fn := fun _ => fun
  | [d] => { results := [.lit (.bool true)], args := [d] }
  | _ => none }
def fnCallTextsRow : OpenClaim := { program := "ytmjlhikflhbdaaa", sum := "02587f94afb112c4e6e062114d078a97a7feefd59296002bfa9c1c645db482fd", func := "loop.example/g00397/laws.FnCallTexts", spec := "fnCallTexts", unfollowed := true, recurses := true, apart := false }
def FnCallTextsSaid : Prop := fnCallTextsRow.holds Try.pinned (OpenSpec.ofChange fnCallTextsSpec)

/-- ITS FALSE NEIGHBOUR: 'it returns false'. Refute it at one input. -/
def fnCallTextsWrong : ChangeSpec := { name := "fnCallTexts", fn := fun _ => fun
  | [d] => { results := [.lit (.bool false)], args := [d] }
  | _ => none }
def FnCallTextsWrongFalsely : Prop := fnCallTextsRow.holds Try.pinned (OpenSpec.ofChange fnCallTextsWrong)

/-- 'laws.FnCallTextsTold': WHATEVER THE INPUT: true; the input reads as it did. -/
def fnCallTextsToldSpec : ChangeSpec := { name := "fnCallTextsTold", fn := fun _ => fun
  | [d] => { results := [.lit (.bool true)], args := [d] }
  | _ => none }
def fnCallTextsToldRow : OpenClaim := { program := "ytmjlhikflhbdaaa", sum := "02587f94afb112c4e6e062114d078a97a7feefd59296002bfa9c1c645db482fd", func := "loop.example/g00397/laws.FnCallTextsTold", spec := "fnCallTextsTold", unfollowed := true, recurses := true, apart := false }
def FnCallTextsToldSaid : Prop := fnCallTextsToldRow.holds Try.pinned (OpenSpec.ofChange fnCallTextsToldSpec)

/-- ITS FALSE NEIGHBOUR: 'it returns false'. Refute it at one input. -/
def fnCallTextsToldWrong : ChangeSpec := { name := "fnCallTextsTold", fn := fun _ => fun
  | [d] => { results := [.lit (.bool false)], args := [d] }
  | _ => none }
def FnCallTextsToldWrongFalsely : Prop := fnCallTextsToldRow.holds Try.pinned (OpenSpec.ofChange fnCallTextsToldWrong)

/-- 'laws.FnExactReadScript': WHATEVER THE INPUT: true; the input reads as it did. -/
def fnExactReadScriptSpec : ChangeSpec := { name := "fnExactReadScript", fn := fun _ => fun
  | [d] => { results := [.lit (.bool true)], args := [d] }
  | _ => none }
def fnExactReadScriptRow : OpenClaim := { program := "ytmjlhikflhbdaaa", sum := "02587f94afb112c4e6e062114d078a97a7feefd59296002bfa9c1c645db482fd", func := "loop.example/g00397/laws.FnExactReadScript", spec := "fnExactReadScript", apart := false }
def FnExactReadScriptSaid : Prop := fnExactReadScriptRow.holds Try.pinned (OpenSpec.ofChange fnExactReadScriptSpec)

/-- ITS FALSE NEIGHBOUR: 'it returns false'. Refute it at one input. -/
def fnExactReadScriptWrong : ChangeSpec := { name := "fnExactReadScript", fn := fun _ => fun
  | [d] => { results := [.lit (.bool false)], args := [d] }
  | _ => none }
def FnExactReadScriptWrongFalsely : Prop := fnExactReadScriptRow.holds Try.pinned (OpenSpec.ofChange fnExactReadScriptWrong)

/-- 'laws.FnExactMostTold': WHATEVER THE INPUT: true; the input reads as it did. -/
def fnExactMostToldSpec : ChangeSpec := { name := "fnExactMostTold", fn := fun _ => fun
  | [d] => { results := [.lit (.bool true)], args := [d] }
  | _ => none }
def fnExactMostToldRow : OpenClaim := { program := "ytmjlhikflhbdaaa", sum := "02587f94afb112c4e6e062114d078a97a7feefd59296002bfa9c1c645db482fd", func := "loop.example/g00397/laws.FnExactMostTold", spec := "fnExactMostTold", recurses := true, apart := false }
def FnExactMostToldSaid : Prop := fnExactMostToldRow.holds Try.pinned (OpenSpec.ofChange fnExactMostToldSpec)

/-- ITS FALSE NEIGHBOUR: 'it returns false'. Refute it at one input. -/
def fnExactMostToldWrong : ChangeSpec := { name := "fnExactMostTold", fn := fun _ => fun
  | [d] => { results := [.lit (.bool false)], args := [d] }
  | _ => none }
def FnExactMostToldWrongFalsely : Prop := fnExactMostToldRow.holds Try.pinned (OpenSpec.ofChange fnExactMostToldWrong)

/-- 'laws.FnExactPidsIn': WHATEVER THE INPUT: true; the input reads as it did. -/
def fnExactPidsInSpec : ChangeSpec := { name := "fnExactPidsIn", fn := fun _ => fun
  | [d] => { results := [.lit (.bool true)], args := [d] }
  | _ => none }
def fnExactPidsInRow : OpenClaim := { program := "ytmjlhikflhbdaaa", sum := "02587f94afb112c4e6e062114d078a97a7feefd59296002bfa9c1c645db482fd", func := "loop.example/g00397/laws.FnExactPidsIn", spec := "fnExactPidsIn", recurses := true, apart := false }
def FnExactPidsInSaid : Prop := fnExactPidsInRow.holds Try.pinned (OpenSpec.ofChange fnExactPidsInSpec)

/-- ITS FALSE NEIGHBOUR: 'it returns false'. Refute it at one input. -/
def fnExactPidsInWrong : ChangeSpec := { name := "fnExactPidsIn", fn := fun _ => fun
  | [d] => { results := [.lit (.bool false)], args := [d] }
  | _ => none }
def FnExactPidsInWrongFalsely : Prop := fnExactPidsInRow.holds Try.pinned (OpenSpec.ofChange fnExactPidsInWrong)

/-- 'laws.FnExactTalliesOf': WHATEVER THE INPUT: true; the input reads as it did. -/
def fnExactTalliesOfSpec : ChangeSpec := { name := "fnExactTalliesOf", fn := fun _ => fun
  | [d] => { results := [.lit (.bool true)], args := [d] }
  | _ => none }
def fnExactTalliesOfRow : OpenClaim := { program := "ytmjlhikflhbdaaa", sum := "02587f94afb112c4e6e062114d078a97a7feefd59296002bfa9c1c645db482fd", func := "loop.example/g00397/laws.FnExactTalliesOf", spec := "fnExactTalliesOf", recurses := true, apart := false }
def FnExactTalliesOfSaid : Prop := fnExactTalliesOfRow.holds Try.pinned (OpenSpec.ofChange fnExactTalliesOfSpec)

/-- ITS FALSE NEIGHBOUR: 'it returns false'. Refute it at one input. -/
def fnExactTalliesOfWrong : ChangeSpec := { name := "fnExactTalliesOf", fn := fun _ => fun
  | [d] => { results := [.lit (.bool false)], args := [d] }
  | _ => none }
def FnExactTalliesOfWrongFalsely : Prop := fnExactTalliesOfRow.holds Try.pinned (OpenSpec.ofChange fnExactTalliesOfWrong)

/-- 'laws.FnCounts': WHATEVER THE INPUT: true; the input reads as it did. -/
def fnCountsSpec : ChangeSpec := { name := "fnCounts", fn := fun _ => fun
  | [d] => { results := [.lit (.bool true)], args := [d] }
  | _ => none }
def fnCountsRow : OpenClaim := { program := "ytmjlhikflhbdaaa", sum := "02587f94afb112c4e6e062114d078a97a7feefd59296002bfa9c1c645db482fd", func := "loop.example/g00397/laws.FnCounts", spec := "fnCounts", recurses := true, apart := false }
def FnCountsSaid : Prop := fnCountsRow.holds Try.pinned (OpenSpec.ofChange fnCountsSpec)

/-- ITS FALSE NEIGHBOUR: 'it returns false'. Refute it at one input. -/
def fnCountsWrong : ChangeSpec := { name := "fnCounts", fn := fun _ => fun
  | [d] => { results := [.lit (.bool false)], args := [d] }
  | _ => none }
def FnCountsWrongFalsely : Prop := fnCountsRow.holds Try.pinned (OpenSpec.ofChange fnCountsWrong)

/-- 'laws.FnCountsTold': WHATEVER THE INPUT: true; the input reads as it did. -/
def fnCountsToldSpec : ChangeSpec := { name := "fnCountsTold", fn := fun _ => fun
  | [d] => { results := [.lit (.bool true)], args := [d] }
  | _ => none }
def fnCountsToldRow : OpenClaim := { program := "ytmjlhikflhbdaaa", sum := "02587f94afb112c4e6e062114d078a97a7feefd59296002bfa9c1c645db482fd", func := "loop.example/g00397/laws.FnCountsTold", spec := "fnCountsTold", recurses := true, apart := false }
def FnCountsToldSaid : Prop := fnCountsToldRow.holds Try.pinned (OpenSpec.ofChange fnCountsToldSpec)

/-- ITS FALSE NEIGHBOUR: 'it returns false'. Refute it at one input. -/
def fnCountsToldWrong : ChangeSpec := { name := "fnCountsTold", fn := fun _ => fun
  | [d] => { results := [.lit (.bool false)], args := [d] }
  | _ => none }
def FnCountsToldWrongFalsely : Prop := fnCountsToldRow.holds Try.pinned (OpenSpec.ofChange fnCountsToldWrong)

/-- 'laws.FnExactNumsSaid': WHATEVER THE INPUT: true; the input reads as it did. -/
def fnExactNumsSaidSpec : ChangeSpec := { name := "fnExactNumsSaid", fn := fun _ => fun
  | [d] => { results := [.lit (.bool true)], args := [d] }
  | _ => none }
def fnExactNumsSaidRow : OpenClaim := { program := "ytmjlhikflhbdaaa", sum := "02587f94afb112c4e6e062114d078a97a7feefd59296002bfa9c1c645db482fd", func := "loop.example/g00397/laws.FnExactNumsSaid", spec := "fnExactNumsSaid", recurses := true, apart := false }
def FnExactNumsSaidSaid : Prop := fnExactNumsSaidRow.holds Try.pinned (OpenSpec.ofChange fnExactNumsSaidSpec)

/-- ITS FALSE NEIGHBOUR: 'it returns false'. Refute it at one input. -/
def fnExactNumsSaidWrong : ChangeSpec := { name := "fnExactNumsSaid", fn := fun _ => fun
  | [d] => { results := [.lit (.bool false)], args := [d] }
  | _ => none }
def FnExactNumsSaidWrongFalsely : Prop := fnExactNumsSaidRow.holds Try.pinned (OpenSpec.ofChange fnExactNumsSaidWrong)

/-- 'laws.FnLessNums': WHATEVER THE INPUT: true; the input reads as it did. -/
def fnLessNumsSpec : ChangeSpec := { name := "fnLessNums", fn := fun _ => fun
  | [d] => { results := [.lit (.bool true)], args := [d] }
  | _ => none }
def fnLessNumsRow : OpenClaim := { program := "ytmjlhikflhbdaaa", sum := "02587f94afb112c4e6e062114d078a97a7feefd59296002bfa9c1c645db482fd", func := "loop.example/g00397/laws.FnLessNums", spec := "fnLessNums", unfollowed := true, recurses := true, apart := false }
def FnLessNumsSaid : Prop := fnLessNumsRow.holds Try.pinned (OpenSpec.ofChange fnLessNumsSpec)

/-- ITS FALSE NEIGHBOUR: 'it returns false'. Refute it at one input. -/
def fnLessNumsWrong : ChangeSpec := { name := "fnLessNums", fn := fun _ => fun
  | [d] => { results := [.lit (.bool false)], args := [d] }
  | _ => none }
def FnLessNumsWrongFalsely : Prop := fnLessNumsRow.holds Try.pinned (OpenSpec.ofChange fnLessNumsWrong)

/-- 'laws.FnLessTold': WHATEVER THE INPUT: true; the input reads as it did. -/
def fnLessToldSpec : ChangeSpec := { name := "fnLessTold", fn := fun _ => fun
  | [d] => { results := [.lit (.bool true)], args := [d] }
  | _ => none }
def fnLessToldRow : OpenClaim := { program := "ytmjlhikflhbdaaa", sum := "02587f94afb112c4e6e062114d078a97a7feefd59296002bfa9c1c645db482fd", func := "loop.example/g00397/laws.FnLessTold", spec := "fnLessTold", unfollowed := true, recurses := true, apart := false }
def FnLessToldSaid : Prop := fnLessToldRow.holds Try.pinned (OpenSpec.ofChange fnLessToldSpec)

/-- ITS FALSE NEIGHBOUR: 'it returns false'. Refute it at one input. -/
def fnLessToldWrong : ChangeSpec := { name := "fnLessTold", fn := fun _ => fun
  | [d] => { results := [.lit (.bool false)], args := [d] }
  | _ => none }
def FnLessToldWrongFalsely : Prop := fnLessToldRow.holds Try.pinned (OpenSpec.ofChange fnLessToldWrong)

/- THE SECOND FORM. 'bulk': how many values and letters a reading holds, each counted each time it is reached (what is shared counts as often as it is met; a slice's spare places count too). A statement '..UptoSaid' is the law's where the arguments, and the package variables that the reading takes, are together of bulk at most 1048576: NARROWER than '..Said'. Prove '..Said' where nothing that the law and all that it calls make is longer than what came in: it says more and counts as full. Else prove '..UptoSaid'. A law counts once. -/
mutual
def uptoBulk {H : Type} : DataW H → Nat
  | .lit (.string bytes) => bytes.length + 1
  | .lit _ => 1
  | .nil => 1
  | .ptr d => uptoBulk d + 1
  | .slice elems spare => uptoBulkAll elems + uptoBulkAll spare + 1
  | .agg parts => uptoBulkAll parts + 1
  | .iface _ d => uptoBulk d + 1
  | .map entries => uptoBulkEntries entries + 1
  | .held _ => 1
def uptoBulkAll {H : Type} : List (DataW H) → Nat
  | [] => 0
  | d :: r => uptoBulk d + uptoBulkAll r
def uptoBulkEntries {H : Type} : List (Lit × DataW H) → Nat
  | [] => 0
  | x :: r => uptoBulkEntry x + uptoBulkEntries r
def uptoBulkEntry {H : Type} : Lit × DataW H → Nat
  | (.string bytes, d) => bytes.length + uptoBulk d + 1
  | (_, d) => uptoBulk d + 1
 end
def uptoSmall : (H : Type) → List (DataW H) → Bool := fun _ ds => decide (uptoBulkAll ds ≤ 1048576)
def OpenSpec.upto (s : _root_.Go.ChangeSpec) : _root_.Go.OpenSpec := { _root_.Go.OpenSpec.ofChange s with cond := some uptoSmall }

/-- 'laws.FnExactReadCallLine', WHERE WHAT IT READS IS OF BULK AT MOST 1048576: true; the input reads as it did. -/
def fnExactReadCallLineUptoRow : OpenClaim := { program := "ytmjlhikflhbdaaa", sum := "02587f94afb112c4e6e062114d078a97a7feefd59296002bfa9c1c645db482fd", func := "loop.example/g00397/laws.FnExactReadCallLine", spec := "fnExactReadCallLine", unfollowed := true, recurses := true, apart := false, narrowed := true }
def FnExactReadCallLineUptoSaid : Prop := fnExactReadCallLineUptoRow.holds Try.pinned (OpenSpec.upto fnExactReadCallLineSpec)

/-- 'laws.FnCallTexts', WHERE WHAT IT READS IS OF BULK AT MOST 1048576: true; the input reads as it did. -/
def fnCallTextsUptoRow : OpenClaim := { program := "ytmjlhikflhbdaaa", sum := "02587f94afb112c4e6e062114d078a97a7feefd59296002bfa9c1c645db482fd", func := "loop.example/g00397/laws.FnCallTexts", spec := "fnCallTexts", unfollowed := true, recurses := true, apart := false, narrowed := true }
def FnCallTextsUptoSaid : Prop := fnCallTextsUptoRow.holds Try.pinned (OpenSpec.upto fnCallTextsSpec)

/-- 'laws.FnCallTextsTold', WHERE WHAT IT READS IS OF BULK AT MOST 1048576: true; the input reads as it did. -/
def fnCallTextsToldUptoRow : OpenClaim := { program := "ytmjlhikflhbdaaa", sum := "02587f94afb112c4e6e062114d078a97a7feefd59296002bfa9c1c645db482fd", func := "loop.example/g00397/laws.FnCallTextsTold", spec := "fnCallTextsTold", unfollowed := true, recurses := true, apart := false, narrowed := true }
def FnCallTextsToldUptoSaid : Prop := fnCallTextsToldUptoRow.holds Try.pinned (OpenSpec.upto fnCallTextsToldSpec)

/-- 'laws.FnExactReadScript', WHERE WHAT IT READS IS OF BULK AT MOST 1048576: true; the input reads as it did. -/
def fnExactReadScriptUptoRow : OpenClaim := { program := "ytmjlhikflhbdaaa", sum := "02587f94afb112c4e6e062114d078a97a7feefd59296002bfa9c1c645db482fd", func := "loop.example/g00397/laws.FnExactReadScript", spec := "fnExactReadScript", apart := false, narrowed := true }
def FnExactReadScriptUptoSaid : Prop := fnExactReadScriptUptoRow.holds Try.pinned (OpenSpec.upto fnExactReadScriptSpec)

/-- 'laws.FnExactMostTold', WHERE WHAT IT READS IS OF BULK AT MOST 1048576: true; the input reads as it did. -/
def fnExactMostToldUptoRow : OpenClaim := { program := "ytmjlhikflhbdaaa", sum := "02587f94afb112c4e6e062114d078a97a7feefd59296002bfa9c1c645db482fd", func := "loop.example/g00397/laws.FnExactMostTold", spec := "fnExactMostTold", recurses := true, apart := false, narrowed := true }
def FnExactMostToldUptoSaid : Prop := fnExactMostToldUptoRow.holds Try.pinned (OpenSpec.upto fnExactMostToldSpec)

/-- 'laws.FnExactPidsIn', WHERE WHAT IT READS IS OF BULK AT MOST 1048576: true; the input reads as it did. -/
def fnExactPidsInUptoRow : OpenClaim := { program := "ytmjlhikflhbdaaa", sum := "02587f94afb112c4e6e062114d078a97a7feefd59296002bfa9c1c645db482fd", func := "loop.example/g00397/laws.FnExactPidsIn", spec := "fnExactPidsIn", recurses := true, apart := false, narrowed := true }
def FnExactPidsInUptoSaid : Prop := fnExactPidsInUptoRow.holds Try.pinned (OpenSpec.upto fnExactPidsInSpec)

/-- 'laws.FnExactTalliesOf', WHERE WHAT IT READS IS OF BULK AT MOST 1048576: true; the input reads as it did. -/
def fnExactTalliesOfUptoRow : OpenClaim := { program := "ytmjlhikflhbdaaa", sum := "02587f94afb112c4e6e062114d078a97a7feefd59296002bfa9c1c645db482fd", func := "loop.example/g00397/laws.FnExactTalliesOf", spec := "fnExactTalliesOf", recurses := true, apart := false, narrowed := true }
def FnExactTalliesOfUptoSaid : Prop := fnExactTalliesOfUptoRow.holds Try.pinned (OpenSpec.upto fnExactTalliesOfSpec)

/-- 'laws.FnCounts', WHERE WHAT IT READS IS OF BULK AT MOST 1048576: true; the input reads as it did. -/
def fnCountsUptoRow : OpenClaim := { program := "ytmjlhikflhbdaaa", sum := "02587f94afb112c4e6e062114d078a97a7feefd59296002bfa9c1c645db482fd", func := "loop.example/g00397/laws.FnCounts", spec := "fnCounts", recurses := true, apart := false, narrowed := true }
def FnCountsUptoSaid : Prop := fnCountsUptoRow.holds Try.pinned (OpenSpec.upto fnCountsSpec)

/-- 'laws.FnCountsTold', WHERE WHAT IT READS IS OF BULK AT MOST 1048576: true; the input reads as it did. -/
def fnCountsToldUptoRow : OpenClaim := { program := "ytmjlhikflhbdaaa", sum := "02587f94afb112c4e6e062114d078a97a7feefd59296002bfa9c1c645db482fd", func := "loop.example/g00397/laws.FnCountsTold", spec := "fnCountsTold", recurses := true, apart := false, narrowed := true }
def FnCountsToldUptoSaid : Prop := fnCountsToldUptoRow.holds Try.pinned (OpenSpec.upto fnCountsToldSpec)

/-- 'laws.FnExactNumsSaid', WHERE WHAT IT READS IS OF BULK AT MOST 1048576: true; the input reads as it did. -/
def fnExactNumsSaidUptoRow : OpenClaim := { program := "ytmjlhikflhbdaaa", sum := "02587f94afb112c4e6e062114d078a97a7feefd59296002bfa9c1c645db482fd", func := "loop.example/g00397/laws.FnExactNumsSaid", spec := "fnExactNumsSaid", recurses := true, apart := false, narrowed := true }
def FnExactNumsSaidUptoSaid : Prop := fnExactNumsSaidUptoRow.holds Try.pinned (OpenSpec.upto fnExactNumsSaidSpec)

/-- 'laws.FnLessNums', WHERE WHAT IT READS IS OF BULK AT MOST 1048576: true; the input reads as it did. -/
def fnLessNumsUptoRow : OpenClaim := { program := "ytmjlhikflhbdaaa", sum := "02587f94afb112c4e6e062114d078a97a7feefd59296002bfa9c1c645db482fd", func := "loop.example/g00397/laws.FnLessNums", spec := "fnLessNums", unfollowed := true, recurses := true, apart := false, narrowed := true }
def FnLessNumsUptoSaid : Prop := fnLessNumsUptoRow.holds Try.pinned (OpenSpec.upto fnLessNumsSpec)

/-- 'laws.FnLessTold', WHERE WHAT IT READS IS OF BULK AT MOST 1048576: true; the input reads as it did. -/
def fnLessToldUptoRow : OpenClaim := { program := "ytmjlhikflhbdaaa", sum := "02587f94afb112c4e6e062114d078a97a7feefd59296002bfa9c1c645db482fd", func := "loop.example/g00397/laws.FnLessTold", spec := "fnLessTold", unfollowed := true, recurses := true, apart := false, narrowed := true }
def FnLessToldUptoSaid : Prop := fnLessToldUptoRow.holds Try.pinned (OpenSpec.upto fnLessToldSpec)

end Rows
end Go.Proofs.Ytmjlhikflhbdaaa
