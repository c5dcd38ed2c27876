/-
  No cell of these rows narrows 'for every input' (looked for: loops, veiled, ifaces, maps, wideKeys, modest, calm, conditions, laid).
  DERIVED. THE GIVEN ROWS OF THIS SEAT. 6 by the template 'for every input the law returns true; each argument reads behind the call as it read before'; 0 by the template 'total and deterministic' (their statements: YtfgkniegbdpanaaTotals.lean).
  GIVEN WITH THE SEED: the statements are not yours to turn. If you find one false, say at which input.
  Laid BY PROGRAM, IN A SANDBOX (cutbox-rows.mjs): the forced cells as the released guide's own fill.sh prints them over the translation a252f3bf7dc6fc29… (all of the seat's roots in one cut). By AI agents, Wed Nov 11 2026. No macro, syntax, notation, axiom, sorry.
-/
import Derived.Test.YtfgkniegbdpanaaChecked
import GoSem.Claim
import GoSem.ClaimJoined
import GoSem.ClaimMapViews
import Derived.JoinedTies
import Derived.KernelRfl
namespace Go.Proofs.Ytfgkniegbdpanaa
/- THE CELL 'sum', in the pinned program and in every row, IS THE sha256 OF THE DUMP (.gsa) THAT YtfgkniegbdpanaaProg.lean LOADS. Nothing in Lean hashes anything: it is a label: what it is worth is what the hold of that sum in a sandbox is worth. -/
noncomputable def Try.pinned : Pinned := { name := "ytfgkniegbdpanaa", sum := "a252f3bf7dc6fc2973b25debddc8ca6b3c617492c1fd8615565e7c9f23fe7956", checked := Try.checked }
namespace Rows
def none {H : Type} : Left H := { results := [], args := [] }

/-- 'laws.FnExactShowEntry': WHATEVER THE INPUT: true; the input reads as it did. -/
def fnExactShowEntrySpec : ChangeSpec := { name := "fnExactShowEntry", fn := fun _ => fun
  | [d] => { results := [.lit (.bool true)], args := [d] }
  | _ => none }
def fnExactShowEntryRow : OpenClaim := { program := "ytfgkniegbdpanaa", sum := "a252f3bf7dc6fc2973b25debddc8ca6b3c617492c1fd8615565e7c9f23fe7956", func := "loop.example/g00397/laws.FnExactShowEntry", spec := "fnExactShowEntry", apart := false }
def FnExactShowEntrySaid : Prop := fnExactShowEntryRow.holds Try.pinned (OpenSpec.ofChange fnExactShowEntrySpec)

/-- ITS FALSE NEIGHBOUR: 'it returns false'. Refute it at one input. -/
def fnExactShowEntryWrong : ChangeSpec := { name := "fnExactShowEntry", fn := fun _ => fun
  | [d] => { results := [.lit (.bool false)], args := [d] }
  | _ => none }
def FnExactShowEntryWrongFalsely : Prop := fnExactShowEntryRow.holds Try.pinned (OpenSpec.ofChange fnExactShowEntryWrong)

/-- 'laws.FnExactToldBy': WHATEVER THE INPUT: true; the input reads as it did. -/
def fnExactToldBySpec : ChangeSpec := { name := "fnExactToldBy", fn := fun _ => fun
  | [d1, d2] => { results := [.lit (.bool true)], args := [d1, d2] }
  | _ => none }
def fnExactToldByRow : OpenClaim := { program := "ytfgkniegbdpanaa", sum := "a252f3bf7dc6fc2973b25debddc8ca6b3c617492c1fd8615565e7c9f23fe7956", func := "loop.example/g00397/laws.FnExactToldBy", spec := "fnExactToldBy", apart := false }
def FnExactToldBySaid : Prop := fnExactToldByRow.holds Try.pinned (OpenSpec.ofChange fnExactToldBySpec)

/-- ITS FALSE NEIGHBOUR: 'it returns false'. Refute it at one input. -/
def fnExactToldByWrong : ChangeSpec := { name := "fnExactToldBy", fn := fun _ => fun
  | [d1, d2] => { results := [.lit (.bool false)], args := [d1, d2] }
  | _ => none }
def FnExactToldByWrongFalsely : Prop := fnExactToldByRow.holds Try.pinned (OpenSpec.ofChange fnExactToldByWrong)

/-- 'laws.FnExactLostBy': WHATEVER THE INPUT: true; the input reads as it did. -/
def fnExactLostBySpec : ChangeSpec := { name := "fnExactLostBy", fn := fun _ => fun
  | [d1, d2] => { results := [.lit (.bool true)], args := [d1, d2] }
  | _ => none }
def fnExactLostByRow : OpenClaim := { program := "ytfgkniegbdpanaa", sum := "a252f3bf7dc6fc2973b25debddc8ca6b3c617492c1fd8615565e7c9f23fe7956", func := "loop.example/g00397/laws.FnExactLostBy", spec := "fnExactLostBy", apart := false }
def FnExactLostBySaid : Prop := fnExactLostByRow.holds Try.pinned (OpenSpec.ofChange fnExactLostBySpec)

/-- ITS FALSE NEIGHBOUR: 'it returns false'. Refute it at one input. -/
def fnExactLostByWrong : ChangeSpec := { name := "fnExactLostBy", fn := fun _ => fun
  | [d1, d2] => { results := [.lit (.bool false)], args := [d1, d2] }
  | _ => none }
def FnExactLostByWrongFalsely : Prop := fnExactLostByRow.holds Try.pinned (OpenSpec.ofChange fnExactLostByWrong)

/-- 'laws.FnExactReadCall': WHATEVER THE INPUT: true; the input reads as it did. -/
def fnExactReadCallSpec : ChangeSpec := { name := "fnExactReadCall", fn := fun _ => fun
  | [d] => { results := [.lit (.bool true)], args := [d] }
  | _ => none }
def fnExactReadCallRow : OpenClaim := { program := "ytfgkniegbdpanaa", sum := "a252f3bf7dc6fc2973b25debddc8ca6b3c617492c1fd8615565e7c9f23fe7956", func := "loop.example/g00397/laws.FnExactReadCall", spec := "fnExactReadCall", apart := false }
def FnExactReadCallSaid : Prop := fnExactReadCallRow.holds Try.pinned (OpenSpec.ofChange fnExactReadCallSpec)

/-- ITS FALSE NEIGHBOUR: 'it returns false'. Refute it at one input. -/
def fnExactReadCallWrong : ChangeSpec := { name := "fnExactReadCall", fn := fun _ => fun
  | [d] => { results := [.lit (.bool false)], args := [d] }
  | _ => none }
def FnExactReadCallWrongFalsely : Prop := fnExactReadCallRow.holds Try.pinned (OpenSpec.ofChange fnExactReadCallWrong)

/-- 'laws.FnExactCallText': WHATEVER THE INPUT: true; the input reads as it did. -/
def fnExactCallTextSpec : ChangeSpec := { name := "fnExactCallText", fn := fun _ => fun
  | [d] => { results := [.lit (.bool true)], args := [d] }
  | _ => none }
def fnExactCallTextRow : OpenClaim := { program := "ytfgkniegbdpanaa", sum := "a252f3bf7dc6fc2973b25debddc8ca6b3c617492c1fd8615565e7c9f23fe7956", func := "loop.example/g00397/laws.FnExactCallText", spec := "fnExactCallText", apart := false }
def FnExactCallTextSaid : Prop := fnExactCallTextRow.holds Try.pinned (OpenSpec.ofChange fnExactCallTextSpec)

/-- ITS FALSE NEIGHBOUR: 'it returns false'. Refute it at one input. -/
def fnExactCallTextWrong : ChangeSpec := { name := "fnExactCallText", fn := fun _ => fun
  | [d] => { results := [.lit (.bool false)], args := [d] }
  | _ => none }
def FnExactCallTextWrongFalsely : Prop := fnExactCallTextRow.holds Try.pinned (OpenSpec.ofChange fnExactCallTextWrong)

/-- 'laws.FnExactShowIns': WHATEVER THE INPUT: true; the input reads as it did. -/
def fnExactShowInsSpec : ChangeSpec := { name := "fnExactShowIns", fn := fun _ => fun
  | [d] => { results := [.lit (.bool true)], args := [d] }
  | _ => none }
def fnExactShowInsRow : OpenClaim := { program := "ytfgkniegbdpanaa", sum := "a252f3bf7dc6fc2973b25debddc8ca6b3c617492c1fd8615565e7c9f23fe7956", func := "loop.example/g00397/laws.FnExactShowIns", spec := "fnExactShowIns", apart := false }
def FnExactShowInsSaid : Prop := fnExactShowInsRow.holds Try.pinned (OpenSpec.ofChange fnExactShowInsSpec)

/-- ITS FALSE NEIGHBOUR: 'it returns false'. Refute it at one input. -/
def fnExactShowInsWrong : ChangeSpec := { name := "fnExactShowIns", fn := fun _ => fun
  | [d] => { results := [.lit (.bool false)], args := [d] }
  | _ => none }
def FnExactShowInsWrongFalsely : Prop := fnExactShowInsRow.holds Try.pinned (OpenSpec.ofChange fnExactShowInsWrong)

/- THE SECOND FORM. 'bulk': how many values and letters a reading holds, each counted each time it is reached (what is shared counts as often as it is met; a slice's spare places count too). A statement '..UptoSaid' is the law's where the arguments, and the package variables that the reading takes, are together of bulk at most 1048576: NARROWER than '..Said'. Prove '..Said' where nothing that the law and all that it calls make is longer than what came in: it says more and counts as full. Else prove '..UptoSaid'. A law counts once. -/
mutual
def uptoBulk {H : Type} : DataW H → Nat
  | .lit (.string bytes) => bytes.length + 1
  | .lit _ => 1
  | .nil => 1
  | .ptr d => uptoBulk d + 1
  | .slice elems spare => uptoBulkAll elems + uptoBulkAll spare + 1
  | .agg parts => uptoBulkAll parts + 1
  | .iface _ d => uptoBulk d + 1
  | .map entries => uptoBulkEntries entries + 1
  | .held _ => 1
def uptoBulkAll {H : Type} : List (DataW H) → Nat
  | [] => 0
  | d :: r => uptoBulk d + uptoBulkAll r
def uptoBulkEntries {H : Type} : List (Lit × DataW H) → Nat
  | [] => 0
  | x :: r => uptoBulkEntry x + uptoBulkEntries r
def uptoBulkEntry {H : Type} : Lit × DataW H → Nat
  | (.string bytes, d) => bytes.length + uptoBulk d + 1
  | (_, d) => uptoBulk d + 1
 end
def uptoSmall : (H : Type) → List (DataW H) → Bool := fun _ ds => decide (uptoBulkAll ds ≤ 1048576)
def OpenSpec.upto (s : _root_.Go.ChangeSpec) : _root_.Go.OpenSpec := { _root_.Go.OpenSpec.ofChange s with cond := some uptoSmall }

/-- 'laws.FnExactShowEntry', WHERE WHAT IT READS IS OF BULK AT MOST 1048576: true; the input reads as it did. -/
def fnExactShowEntryUptoRow : OpenClaim := { program := "ytfgkniegbdpanaa", sum := "a252f3bf7dc6fc2973b25debddc8ca6b3c617492c1fd8615565e7c9f23fe7956", func := "loop.example/g00397/laws.FnExactShowEntry", spec := "fnExactShowEntry", apart := false, narrowed := true }
def FnExactShowEntryUptoSaid : Prop := fnExactShowEntryUptoRow.holds Try.pinned (OpenSpec.upto fnExactShowEntrySpec)

/-- 'laws.FnExactToldBy', WHERE WHAT IT READS IS OF BULK AT MOST 1048576: true; the input reads as it did. -/
def fnExactToldByUptoRow : OpenClaim := { program := "ytfgkniegbdpanaa", sum := "a252f3bf7dc6fc2973b25debddc8ca6b3c617492c1fd8615565e7c9f23fe7956", func := "loop.example/g00397/laws.FnExactToldBy", spec := "fnExactToldBy", apart := false, narrowed := true }
def FnExactToldByUptoSaid : Prop := fnExactToldByUptoRow.holds Try.pinned (OpenSpec.upto fnExactToldBySpec)

/-- 'laws.FnExactLostBy', WHERE WHAT IT READS IS OF BULK AT MOST 1048576: true; the input reads as it did. -/
def fnExactLostByUptoRow : OpenClaim := { program := "ytfgkniegbdpanaa", sum := "a252f3bf7dc6fc2973b25debddc8ca6b3c617492c1fd8615565e7c9f23fe7956", func := "loop.example/g00397/laws.FnExactLostBy", spec := "fnExactLostBy", apart := false, narrowed := true }
def FnExactLostByUptoSaid : Prop := fnExactLostByUptoRow.holds Try.pinned (OpenSpec.upto fnExactLostBySpec)

/-- 'laws.FnExactReadCall', WHERE WHAT IT READS IS OF BULK AT MOST 1048576: true; the input reads as it did. -/
def fnExactReadCallUptoRow : OpenClaim := { program := "ytfgkniegbdpanaa", sum := "a252f3bf7dc6fc2973b25debddc8ca6b3c617492c1fd8615565e7c9f23fe7956", func := "loop.example/g00397/laws.FnExactReadCall", spec := "fnExactReadCall", apart := false, narrowed := true }
def FnExactReadCallUptoSaid : Prop := fnExactReadCallUptoRow.holds Try.pinned (OpenSpec.upto fnExactReadCallSpec)

/-- 'laws.FnExactCallText', WHERE WHAT IT READS IS OF BULK AT MOST 1048576: true; the input reads as it did. -/
def fnExactCallTextUptoRow : OpenClaim := { program := "ytfgkniegbdpanaa", sum := "a252f3bf7dc6fc2973b25debddc8ca6b3c617492c1fd8615565e7c9f23fe7956", func := "loop.example/g00397/laws.FnExactCallText", spec := "fnExactCallText", apart := false, narrowed := true }
def FnExactCallTextUptoSaid : Prop := fnExactCallTextUptoRow.holds Try.pinned (OpenSpec.upto fnExactCallTextSpec)

/-- 'laws.FnExactShowIns', WHERE WHAT IT READS IS OF BULK AT MOST 1048576: true; the input reads as it did. -/
def fnExactShowInsUptoRow : OpenClaim := { program := "ytfgkniegbdpanaa", sum := "a252f3bf7dc6fc2973b25debddc8ca6b3c617492c1fd8615565e7c9f23fe7956", func := "loop.example/g00397/laws.FnExactShowIns", spec := "fnExactShowIns", apart := false, narrowed := true }
def FnExactShowInsUptoSaid : Prop := fnExactShowInsUptoRow.holds Try.pinned (OpenSpec.upto fnExactShowInsSpec)

end Rows
end Go.Proofs.Ytfgkniegbdpanaa
