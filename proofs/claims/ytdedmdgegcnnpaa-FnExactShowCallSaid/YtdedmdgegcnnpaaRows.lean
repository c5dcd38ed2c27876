/-
  No cell of these rows narrows 'for every input' (looked for: loops, veiled, ifaces, maps, wideKeys, modest, calm, conditions, laid).
  DERIVED. THE GIVEN ROWS OF THIS SEAT. 6 by the template 'for every input the law returns true; each argument reads behind the call as it read before'; 0 by the template 'total and deterministic' (their statements: YtdedmdgegcnnpaaTotals.lean).
  GIVEN WITH THE SEED: the statements are not yours to turn. If you find one false, say at which input.
  Laid BY PROGRAM, IN A SANDBOX (cutbox-rows.mjs): the forced cells as the released guide's own fill.sh prints them over the translation e658d5246cb4cc94… (all of the seat's roots in one cut). By AI agents, Wed Nov 11 2026. No macro, syntax, notation, axiom, sorry.
-/
import Derived.Test.YtdedmdgegcnnpaaChecked
import GoSem.Claim
import GoSem.ClaimJoined
import GoSem.ClaimMapViews
import Derived.JoinedTies
import Derived.KernelRfl
namespace Go.Proofs.Ytdedmdgegcnnpaa
/- THE CELL 'sum', in the pinned program and in every row, IS THE sha256 OF THE DUMP (.gsa) THAT YtdedmdgegcnnpaaProg.lean LOADS. Nothing in Lean hashes anything: it is a label: what it is worth is what the hold of that sum in a sandbox is worth. -/
noncomputable def Try.pinned : Pinned := { name := "ytdedmdgegcnnpaa", sum := "e658d5246cb4cc949fca1f5766fdba2abb37abbaf75b1d740ecef408d6af87ca", checked := Try.checked }
namespace Rows
def none {H : Type} : Left H := { results := [], args := [] }

/-- 'laws.FnExactShowCall': WHATEVER THE INPUT: true; the input reads as it did. -/
def fnExactShowCallSpec : ChangeSpec := { name := "fnExactShowCall", fn := fun _ => fun
  | [d] => { results := [.lit (.bool true)], args := [d] }
  | _ => none }
def fnExactShowCallRow : OpenClaim := { program := "ytdedmdgegcnnpaa", sum := "e658d5246cb4cc949fca1f5766fdba2abb37abbaf75b1d740ecef408d6af87ca", func := "loop.example/g00397/laws.FnExactShowCall", spec := "fnExactShowCall", apart := false }
def FnExactShowCallSaid : Prop := fnExactShowCallRow.holds Try.pinned (OpenSpec.ofChange fnExactShowCallSpec)

/-- ITS FALSE NEIGHBOUR: 'it returns false'. Refute it at one input. -/
def fnExactShowCallWrong : ChangeSpec := { name := "fnExactShowCall", fn := fun _ => fun
  | [d] => { results := [.lit (.bool false)], args := [d] }
  | _ => none }
def FnExactShowCallWrongFalsely : Prop := fnExactShowCallRow.holds Try.pinned (OpenSpec.ofChange fnExactShowCallWrong)

/-- 'laws.FnExactListing': WHATEVER THE INPUT: true; the input reads as it did. -/
def fnExactListingSpec : ChangeSpec := { name := "fnExactListing", fn := fun _ => fun
  | [d] => { results := [.lit (.bool true)], args := [d] }
  | _ => none }
def fnExactListingRow : OpenClaim := { program := "ytdedmdgegcnnpaa", sum := "e658d5246cb4cc949fca1f5766fdba2abb37abbaf75b1d740ecef408d6af87ca", func := "loop.example/g00397/laws.FnExactListing", spec := "fnExactListing", apart := false }
def FnExactListingSaid : Prop := fnExactListingRow.holds Try.pinned (OpenSpec.ofChange fnExactListingSpec)

/-- ITS FALSE NEIGHBOUR: 'it returns false'. Refute it at one input. -/
def fnExactListingWrong : ChangeSpec := { name := "fnExactListing", fn := fun _ => fun
  | [d] => { results := [.lit (.bool false)], args := [d] }
  | _ => none }
def FnExactListingWrongFalsely : Prop := fnExactListingRow.holds Try.pinned (OpenSpec.ofChange fnExactListingWrong)

/-- 'laws.FnCallTexts': WHATEVER THE INPUT: true; the input reads as it did. -/
def fnCallTextsSpec : ChangeSpec := { name := "fnCallTexts", fn := fun _ => fun
  | [d] => { results := [.lit (.bool true)], args := [d] }
  | _ => none }
def fnCallTextsRow : OpenClaim := { program := "ytdedmdgegcnnpaa", sum := "e658d5246cb4cc949fca1f5766fdba2abb37abbaf75b1d740ecef408d6af87ca", func := "loop.example/g00397/laws.FnCallTexts", spec := "fnCallTexts", unfollowed := true, recurses := true, apart := false }
def FnCallTextsSaid : Prop := fnCallTextsRow.holds Try.pinned (OpenSpec.ofChange fnCallTextsSpec)

/-- ITS FALSE NEIGHBOUR: 'it returns false'. Refute it at one input. -/
def fnCallTextsWrong : ChangeSpec := { name := "fnCallTexts", fn := fun _ => fun
  | [d] => { results := [.lit (.bool false)], args := [d] }
  | _ => none }
def FnCallTextsWrongFalsely : Prop := fnCallTextsRow.holds Try.pinned (OpenSpec.ofChange fnCallTextsWrong)

/-- 'laws.FnExactReadCallLine': WHATEVER THE INPUT: true; the input reads as it did. -/
def fnExactReadCallLineSpec : ChangeSpec := { name := "fnExactReadCallLine", fn := fun _ => fun
  | [d1, d2] => { results := [.lit (.bool true)], args := [d1, d2] }
  | _ => none }
def fnExactReadCallLineRow : OpenClaim := { program := "ytdedmdgegcnnpaa", sum := "e658d5246cb4cc949fca1f5766fdba2abb37abbaf75b1d740ecef408d6af87ca", func := "loop.example/g00397/laws.FnExactReadCallLine", spec := "fnExactReadCallLine", unfollowed := true, recurses := true, apart := false }
def FnExactReadCallLineSaid : Prop := fnExactReadCallLineRow.holds Try.pinned (OpenSpec.ofChange fnExactReadCallLineSpec)

/-- ITS FALSE NEIGHBOUR: 'it returns false'. Refute it at one input. -/
def fnExactReadCallLineWrong : ChangeSpec := { name := "fnExactReadCallLine", fn := fun _ => fun
  | [d1, d2] => { results := [.lit (.bool false)], args := [d1, d2] }
  | _ => none }
def FnExactReadCallLineWrongFalsely : Prop := fnExactReadCallLineRow.holds Try.pinned (OpenSpec.ofChange fnExactReadCallLineWrong)

/-- 'laws.FnCallTextsTold': WHATEVER THE INPUT: true; the input reads as it did. -/
def fnCallTextsToldSpec : ChangeSpec := { name := "fnCallTextsTold", fn := fun _ => fun
  | [d] => { results := [.lit (.bool true)], args := [d] }
  | _ => none }
def fnCallTextsToldRow : OpenClaim := { program := "ytdedmdgegcnnpaa", sum := "e658d5246cb4cc949fca1f5766fdba2abb37abbaf75b1d740ecef408d6af87ca", func := "loop.example/g00397/laws.FnCallTextsTold", spec := "fnCallTextsTold", unfollowed := true, recurses := true, apart := false }
def FnCallTextsToldSaid : Prop := fnCallTextsToldRow.holds Try.pinned (OpenSpec.ofChange fnCallTextsToldSpec)

/-- ITS FALSE NEIGHBOUR: 'it returns false'. Refute it at one input. -/
def fnCallTextsToldWrong : ChangeSpec := { name := "fnCallTextsTold", fn := fun _ => fun
  | [d] => { results := [.lit (.bool false)], args := [d] }
  | _ => none }
def FnCallTextsToldWrongFalsely : Prop := fnCallTextsToldRow.holds Try.pinned (OpenSpec.ofChange fnCallTextsToldWrong)

/-- 'laws.FnExactReadScript': WHATEVER THE INPUT: true; the input reads as it did. -/
def fnExactReadScriptSpec : ChangeSpec := { name := "fnExactReadScript", fn := fun _ => fun
  | [d] => { results := [.lit (.bool true)], args := [d] }
  | _ => none }
def fnExactReadScriptRow : OpenClaim := { program := "ytdedmdgegcnnpaa", sum := "e658d5246cb4cc949fca1f5766fdba2abb37abbaf75b1d740ecef408d6af87ca", func := "loop.example/g00397/laws.FnExactReadScript", spec := "fnExactReadScript", apart := false }
def FnExactReadScriptSaid : Prop := fnExactReadScriptRow.holds Try.pinned (OpenSpec.ofChange fnExactReadScriptSpec)

/-- ITS FALSE NEIGHBOUR: 'it returns false'. Refute it at one input. -/
def fnExactReadScriptWrong : ChangeSpec := { name := "fnExactReadScript", fn := fun _ => fun
  | [d] => { results := [.lit (.bool false)], args := [d] }
  | _ => none }
def FnExactReadScriptWrongFalsely : Prop := fnExactReadScriptRow.holds Try.pinned (OpenSpec.ofChange fnExactReadScriptWrong)

/- THE SECOND FORM. 'bulk': how many values and letters a reading holds, each counted each time it is reached (what is shared counts as often as it is met; a slice's spare places count too). A statement '..UptoSaid' is the law's where the arguments, and the package variables that the reading takes, are together of bulk at most 1048576: NARROWER than '..Said'. Prove '..Said' where nothing that the law and all that it calls make is longer than what came in: it says more and counts as full. Else prove '..UptoSaid'. A law counts once. -/
mutual
def uptoBulk {H : Type} : DataW H → Nat
  | .lit (.string bytes) => bytes.length + 1
  | .lit _ => 1
  | .nil => 1
  | .ptr d => uptoBulk d + 1
  | .slice elems spare => uptoBulkAll elems + uptoBulkAll spare + 1
  | .agg parts => uptoBulkAll parts + 1
  | .iface _ d => uptoBulk d + 1
  | .map entries => uptoBulkEntries entries + 1
  | .held _ => 1
def uptoBulkAll {H : Type} : List (DataW H) → Nat
  | [] => 0
  | d :: r => uptoBulk d + uptoBulkAll r
def uptoBulkEntries {H : Type} : List (Lit × DataW H) → Nat
  | [] => 0
  | x :: r => uptoBulkEntry x + uptoBulkEntries r
def uptoBulkEntry {H : Type} : Lit × DataW H → Nat
  | (.string bytes, d) => bytes.length + uptoBulk d + 1
  | (_, d) => uptoBulk d + 1
 end
def uptoSmall : (H : Type) → List (DataW H) → Bool := fun _ ds => decide (uptoBulkAll ds ≤ 1048576)
def OpenSpec.upto (s : _root_.Go.ChangeSpec) : _root_.Go.OpenSpec := { _root_.Go.OpenSpec.ofChange s with cond := some uptoSmall }

/-- 'laws.FnExactShowCall', WHERE WHAT IT READS IS OF BULK AT MOST 1048576: true; the input reads as it did. -/
def fnExactShowCallUptoRow : OpenClaim := { program := "ytdedmdgegcnnpaa", sum := "e658d5246cb4cc949fca1f5766fdba2abb37abbaf75b1d740ecef408d6af87ca", func := "loop.example/g00397/laws.FnExactShowCall", spec := "fnExactShowCall", apart := false, narrowed := true }
def FnExactShowCallUptoSaid : Prop := fnExactShowCallUptoRow.holds Try.pinned (OpenSpec.upto fnExactShowCallSpec)

/-- 'laws.FnExactListing', WHERE WHAT IT READS IS OF BULK AT MOST 1048576: true; the input reads as it did. -/
def fnExactListingUptoRow : OpenClaim := { program := "ytdedmdgegcnnpaa", sum := "e658d5246cb4cc949fca1f5766fdba2abb37abbaf75b1d740ecef408d6af87ca", func := "loop.example/g00397/laws.FnExactListing", spec := "fnExactListing", apart := false, narrowed := true }
def FnExactListingUptoSaid : Prop := fnExactListingUptoRow.holds Try.pinned (OpenSpec.upto fnExactListingSpec)

/-- 'laws.FnCallTexts', WHERE WHAT IT READS IS OF BULK AT MOST 1048576: true; the input reads as it did. -/
def fnCallTextsUptoRow : OpenClaim := { program := "ytdedmdgegcnnpaa", sum := "e658d5246cb4cc949fca1f5766fdba2abb37abbaf75b1d740ecef408d6af87ca", func := "loop.example/g00397/laws.FnCallTexts", spec := "fnCallTexts", unfollowed := true, recurses := true, apart := false, narrowed := true }
def FnCallTextsUptoSaid : Prop := fnCallTextsUptoRow.holds Try.pinned (OpenSpec.upto fnCallTextsSpec)

/-- 'laws.FnExactReadCallLine', WHERE WHAT IT READS IS OF BULK AT MOST 1048576: true; the input reads as it did. -/
def fnExactReadCallLineUptoRow : OpenClaim := { program := "ytdedmdgegcnnpaa", sum := "e658d5246cb4cc949fca1f5766fdba2abb37abbaf75b1d740ecef408d6af87ca", func := "loop.example/g00397/laws.FnExactReadCallLine", spec := "fnExactReadCallLine", unfollowed := true, recurses := true, apart := false, narrowed := true }
def FnExactReadCallLineUptoSaid : Prop := fnExactReadCallLineUptoRow.holds Try.pinned (OpenSpec.upto fnExactReadCallLineSpec)

/-- 'laws.FnCallTextsTold', WHERE WHAT IT READS IS OF BULK AT MOST 1048576: true; the input reads as it did. -/
def fnCallTextsToldUptoRow : OpenClaim := { program := "ytdedmdgegcnnpaa", sum := "e658d5246cb4cc949fca1f5766fdba2abb37abbaf75b1d740ecef408d6af87ca", func := "loop.example/g00397/laws.FnCallTextsTold", spec := "fnCallTextsTold", unfollowed := true, recurses := true, apart := false, narrowed := true }
def FnCallTextsToldUptoSaid : Prop := fnCallTextsToldUptoRow.holds Try.pinned (OpenSpec.upto fnCallTextsToldSpec)

/-- 'laws.FnExactReadScript', WHERE WHAT IT READS IS OF BULK AT MOST 1048576: true; the input reads as it did. -/
def fnExactReadScriptUptoRow : OpenClaim := { program := "ytdedmdgegcnnpaa", sum := "e658d5246cb4cc949fca1f5766fdba2abb37abbaf75b1d740ecef408d6af87ca", func := "loop.example/g00397/laws.FnExactReadScript", spec := "fnExactReadScript", apart := false, narrowed := true }
def FnExactReadScriptUptoSaid : Prop := fnExactReadScriptUptoRow.holds Try.pinned (OpenSpec.upto fnExactReadScriptSpec)

end Rows
end Go.Proofs.Ytdedmdgegcnnpaa
