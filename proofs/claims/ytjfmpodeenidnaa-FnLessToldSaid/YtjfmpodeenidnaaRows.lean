/-
  No cell of these rows narrows 'for every input' (looked for: loops, veiled, ifaces, maps, wideKeys, modest, calm, conditions, laid).
  DERIVED. THE GIVEN ROWS OF THIS SEAT. 4 by the template 'for every input the law returns true; each argument reads behind the call as it read before'; 0 by the template 'total and deterministic' (their statements: YtjfmpodeenidnaaTotals.lean).
  GIVEN WITH THE SEED: the statements are not yours to turn. If you find one false, say at which input.
  Laid BY PROGRAM, IN A SANDBOX (cutbox-rows.mjs): the forced cells as the released guide's own fill.sh prints them over the translation c12f2ad53115cd7f… (all of the seat's roots in one cut). By AI agents, Wed Nov 11 2026. No macro, syntax, notation, axiom, sorry.
-/
import Derived.Test.YtjfmpodeenidnaaChecked
import GoSem.Claim
import GoSem.ClaimJoined
import GoSem.ClaimMapViews
import Derived.JoinedTies
import Derived.KernelRfl
namespace Go.Proofs.Ytjfmpodeenidnaa
/- THE CELL 'sum', in the pinned program and in every row, IS THE sha256 OF THE DUMP (.gsa) THAT YtjfmpodeenidnaaProg.lean LOADS. Nothing in Lean hashes anything: it is a label: what it is worth is what the hold of that sum in a sandbox is worth. -/
noncomputable def Try.pinned : Pinned := { name := "ytjfmpodeenidnaa", sum := "c12f2ad53115cd7f1eec44c81c00bb5a6d1e2b44f6c9348aa5e51d155abd3f7c", checked := Try.checked }
namespace Rows
def none {H : Type} : Left H := { results := [], args := [] }

/-- 'laws.FnExactReadScript': WHATEVER THE INPUT: true; the input reads as it did. -/
def fnExactReadScriptSpec : ChangeSpec := { name := "fnExactReadScript", fn := fun _ => fun
  | [d] => { results := [.lit (.bool true)], args := [d] }
  | _ => none }
def fnExactReadScriptRow : OpenClaim := { program := "ytjfmpodeenidnaa", sum := "c12f2ad53115cd7f1eec44c81c00bb5a6d1e2b44f6c9348aa5e51d155abd3f7c", func := "loop.example/g00397/laws.FnExactReadScript", spec := "fnExactReadScript", apart := false }
def FnExactReadScriptSaid : Prop := fnExactReadScriptRow.holds Try.pinned (OpenSpec.ofChange fnExactReadScriptSpec)

/-- ITS FALSE NEIGHBOUR: 'it returns false'. Refute it at one input. -/
def fnExactReadScriptWrong : ChangeSpec := { name := "fnExactReadScript", fn := fun _ => fun
  | [d] => { results := [.lit (.bool false)], args := [d] }
  | _ => none }
def FnExactReadScriptWrongFalsely : Prop := fnExactReadScriptRow.holds Try.pinned (OpenSpec.ofChange fnExactReadScriptWrong)

/-- 'laws.FnExactNumsSaid': WHATEVER THE INPUT: true; the input reads as it did. -/
def fnExactNumsSaidSpec : ChangeSpec := { name := "fnExactNumsSaid", fn := fun _ => fun
  | [d] => { results := [.lit (.bool true)], args := [d] }
  | _ => none }
def fnExactNumsSaidRow : OpenClaim := { program := "ytjfmpodeenidnaa", sum := "c12f2ad53115cd7f1eec44c81c00bb5a6d1e2b44f6c9348aa5e51d155abd3f7c", func := "loop.example/g00397/laws.FnExactNumsSaid", spec := "fnExactNumsSaid", recurses := true, apart := false }
def FnExactNumsSaidSaid : Prop := fnExactNumsSaidRow.holds Try.pinned (OpenSpec.ofChange fnExactNumsSaidSpec)

/-- ITS FALSE NEIGHBOUR: 'it returns false'. Refute it at one input. -/
def fnExactNumsSaidWrong : ChangeSpec := { name := "fnExactNumsSaid", fn := fun _ => fun
  | [d] => { results := [.lit (.bool false)], args := [d] }
  | _ => none }
def FnExactNumsSaidWrongFalsely : Prop := fnExactNumsSaidRow.holds Try.pinned (OpenSpec.ofChange fnExactNumsSaidWrong)

/-- 'laws.FnLessNums': WHATEVER THE INPUT: true; the input reads as it did. -/
def fnLessNumsSpec : ChangeSpec := { name := "fnLessNums", fn := fun _ => fun
  | [d] => { results := [.lit (.bool true)], args := [d] }
  | _ => none }
def fnLessNumsRow : OpenClaim := { program := "ytjfmpodeenidnaa", sum := "c12f2ad53115cd7f1eec44c81c00bb5a6d1e2b44f6c9348aa5e51d155abd3f7c", func := "loop.example/g00397/laws.FnLessNums", spec := "fnLessNums", unfollowed := true, recurses := true, apart := false }
def FnLessNumsSaid : Prop := fnLessNumsRow.holds Try.pinned (OpenSpec.ofChange fnLessNumsSpec)

/-- ITS FALSE NEIGHBOUR: 'it returns false'. Refute it at one input. -/
def fnLessNumsWrong : ChangeSpec := { name := "fnLessNums", fn := fun _ => fun
  | [d] => { results := [.lit (.bool false)], args := [d] }
  | _ => none }
def FnLessNumsWrongFalsely : Prop := fnLessNumsRow.holds Try.pinned (OpenSpec.ofChange fnLessNumsWrong)

/-- 'laws.FnLessTold': WHATEVER THE INPUT: true; the input reads as it did. -/
def fnLessToldSpec : ChangeSpec := { name := "fnLessTold", fn := fun _ => fun
  | [d] => { results := [.lit (.bool true)], args := [d] }
  | _ => none }
def fnLessToldRow : OpenClaim := { program := "ytjfmpodeenidnaa", sum := "c12f2ad53115cd7f1eec44c81c00bb5a6d1e2b44f6c9348aa5e51d155abd3f7c", func := "loop.example/g00397/laws.FnLessTold", spec := "fnLessTold", unfollowed := true, recurses := true, apart := false }
def FnLessToldSaid : Prop := fnLessToldRow.holds Try.pinned (OpenSpec.ofChange fnLessToldSpec)

/-- ITS FALSE NEIGHBOUR: 'it returns false'. Refute it at one input. -/
def fnLessToldWrong : ChangeSpec := { name := "fnLessTold", fn := fun _ => fun
  | [d] => { results := [.lit (.bool false)], args := [d] }
  | _ => none }
def FnLessToldWrongFalsely : Prop := fnLessToldRow.holds Try.pinned (OpenSpec.ofChange fnLessToldWrong)

/- THE SECOND FORM. 'bulk': how many values and letters a reading holds, each counted each time it is reached (what is shared counts as often as it is met; a slice's spare places count too). A statement '..UptoSaid' is the law's where the arguments, and the package variables that the reading takes, are together of bulk at most 1048576: NARROWER than '..Said'. Prove '..Said' where nothing that the law and all that it calls make is longer than what came in: it says more and counts as full. Else prove '..UptoSaid'. A law counts once. -/
mutual
def uptoBulk {H : Type} : DataW H → Nat
  | .lit (.string bytes) => bytes.length + 1
  | .lit _ => 1
  | .nil => 1
  | .ptr d => uptoBulk d + 1
  | .slice elems spare => uptoBulkAll elems + uptoBulkAll spare + 1
  | .agg parts => uptoBulkAll parts + 1
  | .iface _ d => uptoBulk d + 1
  | .map entries => uptoBulkEntries entries + 1
  | .held _ => 1
def uptoBulkAll {H : Type} : List (DataW H) → Nat
  | [] => 0
  | d :: r => uptoBulk d + uptoBulkAll r
def uptoBulkEntries {H : Type} : List (Lit × DataW H) → Nat
  | [] => 0
  | x :: r => uptoBulkEntry x + uptoBulkEntries r
def uptoBulkEntry {H : Type} : Lit × DataW H → Nat
  | (.string bytes, d) => bytes.length + uptoBulk d + 1
  | (_, d) => uptoBulk d + 1
 end
def uptoSmall : (H : Type) → List (DataW H) → Bool := fun _ ds => decide (uptoBulkAll ds ≤ 1048576)
def OpenSpec.upto (s : _root_.Go.ChangeSpec) : _root_.Go.OpenSpec := { _root_.Go.OpenSpec.ofChange s with cond := some uptoSmall }

/-- 'laws.FnExactReadScript', WHERE WHAT IT READS IS OF BULK AT MOST 1048576: true; the input reads as it did. -/
def fnExactReadScriptUptoRow : OpenClaim := { program := "ytjfmpodeenidnaa", sum := "c12f2ad53115cd7f1eec44c81c00bb5a6d1e2b44f6c9348aa5e51d155abd3f7c", func := "loop.example/g00397/laws.FnExactReadScript", spec := "fnExactReadScript", apart := false, narrowed := true }
def FnExactReadScriptUptoSaid : Prop := fnExactReadScriptUptoRow.holds Try.pinned (OpenSpec.upto fnExactReadScriptSpec)

/-- 'laws.FnExactNumsSaid', WHERE WHAT IT READS IS OF BULK AT MOST 1048576: true; the input reads as it did. -/
def fnExactNumsSaidUptoRow : OpenClaim := { program := "ytjfmpodeenidnaa", sum := "c12f2ad53115cd7f1eec44c81c00bb5a6d1e2b44f6c9348aa5e51d155abd3f7c", func := "loop.example/g00397/laws.FnExactNumsSaid", spec := "fnExactNumsSaid", recurses := true, apart := false, narrowed := true }
def FnExactNumsSaidUptoSaid : Prop := fnExactNumsSaidUptoRow.holds Try.pinned (OpenSpec.upto fnExactNumsSaidSpec)

/-- 'laws.FnLessNums', WHERE WHAT IT READS IS OF BULK AT MOST 1048576: true; the input reads as it did. -/
def fnLessNumsUptoRow : OpenClaim := { program := "ytjfmpodeenidnaa", sum := "c12f2ad53115cd7f1eec44c81c00bb5a6d1e2b44f6c9348aa5e51d155abd3f7c", func := "loop.example/g00397/laws.FnLessNums", spec := "fnLessNums", unfollowed := true, recurses := true, apart := false, narrowed := true }
def FnLessNumsUptoSaid : Prop := fnLessNumsUptoRow.holds Try.pinned (OpenSpec.upto fnLessNumsSpec)

/-- 'laws.FnLessTold', WHERE WHAT IT READS IS OF BULK AT MOST 1048576: true; the input reads as it did. -/
def fnLessToldUptoRow : OpenClaim := { program := "ytjfmpodeenidnaa", sum := "c12f2ad53115cd7f1eec44c81c00bb5a6d1e2b44f6c9348aa5e51d155abd3f7c", func := "loop.example/g00397/laws.FnLessTold", spec := "fnLessTold", unfollowed := true, recurses := true, apart := false, narrowed := true }
def FnLessToldUptoSaid : Prop := fnLessToldUptoRow.holds Try.pinned (OpenSpec.upto fnLessToldSpec)

end Rows
end Go.Proofs.Ytjfmpodeenidnaa
