/-
  NARROWER THAN 'FOR EVERY INPUT', by the rows' own cells (each row's printed sentence says how): FnExactNodeOf: laid · FnExactLeafOf: laid · FnExactHeadFrom: laid · FnExactHeadOf: laid · FnExactRootOf: laid · FnExactPathOk: laid.
  DERIVED. THE GIVEN ROWS OF THIS SEAT. 6 by the template 'for every input the law returns true; each argument reads behind the call as it read before'; 0 by the template 'total and deterministic' (their statements: YtfbhkglgaehohaaDoorTotals.lean).
  GIVEN WITH THE SEED: the statements are not yours to turn. If you find one false, say at which input.
  Laid BY PROGRAM, IN A SANDBOX (cutbox-rows.mjs): the forced cells as the released guide's own fill.sh prints them over the translation 61b06d795e9b6cfc… (all of the seat's roots in one cut). By AI agents, Wed Nov 11 2026. No macro, syntax, notation, axiom, sorry.
-/
import Derived.Test.YtfbhkglgaehohaaDoorChecked
import GoSem.Claim
import GoSem.ClaimJoined
import GoSem.ClaimMapViews
import Derived.JoinedTies
import Derived.KernelRfl
namespace Go.Proofs.YtfbhkglgaehohaaDoor
/- THE CELL 'sum', in the pinned program and in every row, IS THE sha256 OF THE DUMP (.gsa) THAT YtfbhkglgaehohaaDoorProg.lean LOADS. Nothing in Lean hashes anything: it is a label: what it is worth is what the hold of that sum in a sandbox is worth. -/
noncomputable def Tryd.pinned : Pinned := { name := "ytfbhkglgaehohaadoor", sum := "61b06d795e9b6cfc92a6c4776286b6db91b508be2b7ae87bbd03eb4e88dbd078", checked := Tryd.checked }
namespace Rows
def none {H : Type} : Left H := { results := [], args := [] }

/- WHAT THE LISTED PACKAGE-LEVEL VARIABLES READ AS WHEN THE CALL BEGINS. Each datum BY PROGRAM (the guide's laid-datum.mjs) off the statement by which the dump's own 'gosem.cut.vars' lays the variable. In a bare row this is a premise. The card (YtfbhkglgaehohaaDoorCards.lean) ties it to the program's text. -/
def laid_loop_example_g00397_impl_shaWords {H : Type} : DataW H := .agg [.lit (.int .u32 1116352408), .lit (.int .u32 1899447441), .lit (.int .u32 3049323471), .lit (.int .u32 3921009573), .lit (.int .u32 961987163), .lit (.int .u32 1508970993), .lit (.int .u32 2453635748), .lit (.int .u32 2870763221), .lit (.int .u32 3624381080), .lit (.int .u32 310598401), .lit (.int .u32 607225278), .lit (.int .u32 1426881987), .lit (.int .u32 1925078388), .lit (.int .u32 2162078206), .lit (.int .u32 2614888103), .lit (.int .u32 3248222580), .lit (.int .u32 3835390401), .lit (.int .u32 4022224774), .lit (.int .u32 264347078), .lit (.int .u32 604807628), .lit (.int .u32 770255983), .lit (.int .u32 1249150122), .lit (.int .u32 1555081692), .lit (.int .u32 1996064986), .lit (.int .u32 2554220882), .lit (.int .u32 2821834349), .lit (.int .u32 2952996808), .lit (.int .u32 3210313671), .lit (.int .u32 3336571891), .lit (.int .u32 3584528711), .lit (.int .u32 113926993), .lit (.int .u32 338241895), .lit (.int .u32 666307205), .lit (.int .u32 773529912), .lit (.int .u32 1294757372), .lit (.int .u32 1396182291), .lit (.int .u32 1695183700), .lit (.int .u32 1986661051), .lit (.int .u32 2177026350), .lit (.int .u32 2456956037), .lit (.int .u32 2730485921), .lit (.int .u32 2820302411), .lit (.int .u32 3259730800), .lit (.int .u32 3345764771), .lit (.int .u32 3516065817), .lit (.int .u32 3600352804), .lit (.int .u32 4094571909), .lit (.int .u32 275423344), .lit (.int .u32 430227734), .lit (.int .u32 506948616), .lit (.int .u32 659060556), .lit (.int .u32 883997877), .lit (.int .u32 958139571), .lit (.int .u32 1322822218), .lit (.int .u32 1537002063), .lit (.int .u32 1747873779), .lit (.int .u32 1955562222), .lit (.int .u32 2024104815), .lit (.int .u32 2227730452), .lit (.int .u32 2361852424), .lit (.int .u32 2428436474), .lit (.int .u32 2756734187), .lit (.int .u32 3204031479), .lit (.int .u32 3329325298)]

/-- 'laws.FnExactNodeOf': WHATEVER THE INPUT: true; the input reads as it did. -/
def fnExactNodeOfSpec : ChangeSpec := { name := "fnExactNodeOf", vars := ["loop.example/g00397/impl.shaWords"], fn := fun _ => fun
  | [d1, d2, g1] => { results := [.lit (.bool true)], args := [d1, d2], vars := [g1] }
  | _ => none }
def fnExactNodeOfRow : OpenClaim := { program := "ytfbhkglgaehohaadoor", sum := "61b06d795e9b6cfc92a6c4776286b6db91b508be2b7ae87bbd03eb4e88dbd078", func := "loop.example/g00397/laws.FnExactNodeOf", spec := "fnExactNodeOf", named := ["loop.example/g00397/impl.shaWords"], apart := false, laid := [("loop.example/g00397/impl.shaWords", laid_loop_example_g00397_impl_shaWords)] }
def FnExactNodeOfSaid : Prop := fnExactNodeOfRow.holds Tryd.pinned (OpenSpec.ofChange fnExactNodeOfSpec)

/-- ITS FALSE NEIGHBOUR: 'it returns false'. Refute it at one input. -/
def fnExactNodeOfWrong : ChangeSpec := { name := "fnExactNodeOf", vars := ["loop.example/g00397/impl.shaWords"], fn := fun _ => fun
  | [d1, d2, g1] => { results := [.lit (.bool false)], args := [d1, d2], vars := [g1] }
  | _ => none }
def FnExactNodeOfWrongFalsely : Prop := fnExactNodeOfRow.holds Tryd.pinned (OpenSpec.ofChange fnExactNodeOfWrong)

/-- 'laws.FnExactLeafOf': WHATEVER THE INPUT: true; the input reads as it did. -/
def fnExactLeafOfSpec : ChangeSpec := { name := "fnExactLeafOf", vars := ["loop.example/g00397/impl.shaWords"], fn := fun _ => fun
  | [d, g1] => { results := [.lit (.bool true)], args := [d], vars := [g1] }
  | _ => none }
def fnExactLeafOfRow : OpenClaim := { program := "ytfbhkglgaehohaadoor", sum := "61b06d795e9b6cfc92a6c4776286b6db91b508be2b7ae87bbd03eb4e88dbd078", func := "loop.example/g00397/laws.FnExactLeafOf", spec := "fnExactLeafOf", named := ["loop.example/g00397/impl.shaWords"], apart := false, laid := [("loop.example/g00397/impl.shaWords", laid_loop_example_g00397_impl_shaWords)] }
def FnExactLeafOfSaid : Prop := fnExactLeafOfRow.holds Tryd.pinned (OpenSpec.ofChange fnExactLeafOfSpec)

/-- ITS FALSE NEIGHBOUR: 'it returns false'. Refute it at one input. -/
def fnExactLeafOfWrong : ChangeSpec := { name := "fnExactLeafOf", vars := ["loop.example/g00397/impl.shaWords"], fn := fun _ => fun
  | [d, g1] => { results := [.lit (.bool false)], args := [d], vars := [g1] }
  | _ => none }
def FnExactLeafOfWrongFalsely : Prop := fnExactLeafOfRow.holds Tryd.pinned (OpenSpec.ofChange fnExactLeafOfWrong)

/-- 'laws.FnExactHeadFrom': WHATEVER THE INPUT: true; the input reads as it did. -/
def fnExactHeadFromSpec : ChangeSpec := { name := "fnExactHeadFrom", vars := ["loop.example/g00397/impl.shaWords"], fn := fun _ => fun
  | [d1, d2, g1] => { results := [.lit (.bool true)], args := [d1, d2], vars := [g1] }
  | _ => none }
def fnExactHeadFromRow : OpenClaim := { program := "ytfbhkglgaehohaadoor", sum := "61b06d795e9b6cfc92a6c4776286b6db91b508be2b7ae87bbd03eb4e88dbd078", func := "loop.example/g00397/laws.FnExactHeadFrom", spec := "fnExactHeadFrom", named := ["loop.example/g00397/impl.shaWords"], apart := false, laid := [("loop.example/g00397/impl.shaWords", laid_loop_example_g00397_impl_shaWords)] }
def FnExactHeadFromSaid : Prop := fnExactHeadFromRow.holds Tryd.pinned (OpenSpec.ofChange fnExactHeadFromSpec)

/-- ITS FALSE NEIGHBOUR: 'it returns false'. Refute it at one input. -/
def fnExactHeadFromWrong : ChangeSpec := { name := "fnExactHeadFrom", vars := ["loop.example/g00397/impl.shaWords"], fn := fun _ => fun
  | [d1, d2, g1] => { results := [.lit (.bool false)], args := [d1, d2], vars := [g1] }
  | _ => none }
def FnExactHeadFromWrongFalsely : Prop := fnExactHeadFromRow.holds Tryd.pinned (OpenSpec.ofChange fnExactHeadFromWrong)

/-- 'laws.FnExactHeadOf': WHATEVER THE INPUT: true; the input reads as it did. -/
def fnExactHeadOfSpec : ChangeSpec := { name := "fnExactHeadOf", vars := ["loop.example/g00397/impl.shaWords"], fn := fun _ => fun
  | [d, g1] => { results := [.lit (.bool true)], args := [d], vars := [g1] }
  | _ => none }
def fnExactHeadOfRow : OpenClaim := { program := "ytfbhkglgaehohaadoor", sum := "61b06d795e9b6cfc92a6c4776286b6db91b508be2b7ae87bbd03eb4e88dbd078", func := "loop.example/g00397/laws.FnExactHeadOf", spec := "fnExactHeadOf", named := ["loop.example/g00397/impl.shaWords"], apart := false, laid := [("loop.example/g00397/impl.shaWords", laid_loop_example_g00397_impl_shaWords)] }
def FnExactHeadOfSaid : Prop := fnExactHeadOfRow.holds Tryd.pinned (OpenSpec.ofChange fnExactHeadOfSpec)

/-- ITS FALSE NEIGHBOUR: 'it returns false'. Refute it at one input. -/
def fnExactHeadOfWrong : ChangeSpec := { name := "fnExactHeadOf", vars := ["loop.example/g00397/impl.shaWords"], fn := fun _ => fun
  | [d, g1] => { results := [.lit (.bool false)], args := [d], vars := [g1] }
  | _ => none }
def FnExactHeadOfWrongFalsely : Prop := fnExactHeadOfRow.holds Tryd.pinned (OpenSpec.ofChange fnExactHeadOfWrong)

/-- 'laws.FnExactRootOf': WHATEVER THE INPUT: true; the input reads as it did. -/
def fnExactRootOfSpec : ChangeSpec := { name := "fnExactRootOf", vars := ["loop.example/g00397/impl.shaWords"], fn := fun _ => fun
  | [d, g1] => { results := [.lit (.bool true)], args := [d], vars := [g1] }
  | _ => none }
def fnExactRootOfRow : OpenClaim := { program := "ytfbhkglgaehohaadoor", sum := "61b06d795e9b6cfc92a6c4776286b6db91b508be2b7ae87bbd03eb4e88dbd078", func := "loop.example/g00397/laws.FnExactRootOf", spec := "fnExactRootOf", recurses := true, named := ["loop.example/g00397/impl.shaWords"], apart := false, laid := [("loop.example/g00397/impl.shaWords", laid_loop_example_g00397_impl_shaWords)] }
def FnExactRootOfSaid : Prop := fnExactRootOfRow.holds Tryd.pinned (OpenSpec.ofChange fnExactRootOfSpec)

/-- ITS FALSE NEIGHBOUR: 'it returns false'. Refute it at one input. -/
def fnExactRootOfWrong : ChangeSpec := { name := "fnExactRootOf", vars := ["loop.example/g00397/impl.shaWords"], fn := fun _ => fun
  | [d, g1] => { results := [.lit (.bool false)], args := [d], vars := [g1] }
  | _ => none }
def FnExactRootOfWrongFalsely : Prop := fnExactRootOfRow.holds Tryd.pinned (OpenSpec.ofChange fnExactRootOfWrong)

/-- 'laws.FnExactPathOk': WHATEVER THE INPUT: true; the input reads as it did. -/
def fnExactPathOkSpec : ChangeSpec := { name := "fnExactPathOk", vars := ["loop.example/g00397/impl.shaWords"], fn := fun _ => fun
  | [d1, d2, d3, d4, d5, g1] => { results := [.lit (.bool true)], args := [d1, d2, d3, d4, d5], vars := [g1] }
  | _ => none }
def fnExactPathOkRow : OpenClaim := { program := "ytfbhkglgaehohaadoor", sum := "61b06d795e9b6cfc92a6c4776286b6db91b508be2b7ae87bbd03eb4e88dbd078", func := "loop.example/g00397/laws.FnExactPathOk", spec := "fnExactPathOk", recurses := true, named := ["loop.example/g00397/impl.shaWords"], apart := false, laid := [("loop.example/g00397/impl.shaWords", laid_loop_example_g00397_impl_shaWords)] }
def FnExactPathOkSaid : Prop := fnExactPathOkRow.holds Tryd.pinned (OpenSpec.ofChange fnExactPathOkSpec)

/-- ITS FALSE NEIGHBOUR: 'it returns false'. Refute it at one input. -/
def fnExactPathOkWrong : ChangeSpec := { name := "fnExactPathOk", vars := ["loop.example/g00397/impl.shaWords"], fn := fun _ => fun
  | [d1, d2, d3, d4, d5, g1] => { results := [.lit (.bool false)], args := [d1, d2, d3, d4, d5], vars := [g1] }
  | _ => none }
def FnExactPathOkWrongFalsely : Prop := fnExactPathOkRow.holds Tryd.pinned (OpenSpec.ofChange fnExactPathOkWrong)

/- THE SECOND FORM. 'bulk': how many values and letters a reading holds, each counted each time it is reached (what is shared counts as often as it is met; a slice's spare places count too). A statement '..UptoSaid' is the law's where the arguments, and the package variables that the reading takes, are together of bulk at most 1048576: NARROWER than '..Said'. Prove '..Said' where nothing that the law and all that it calls make is longer than what came in: it says more and counts as full. Else prove '..UptoSaid'. A law counts once. -/
mutual
def uptoBulk {H : Type} : DataW H → Nat
  | .lit (.string bytes) => bytes.length + 1
  | .lit _ => 1
  | .nil => 1
  | .ptr d => uptoBulk d + 1
  | .slice elems spare => uptoBulkAll elems + uptoBulkAll spare + 1
  | .agg parts => uptoBulkAll parts + 1
  | .iface _ d => uptoBulk d + 1
  | .map entries => uptoBulkEntries entries + 1
  | .held _ => 1
def uptoBulkAll {H : Type} : List (DataW H) → Nat
  | [] => 0
  | d :: r => uptoBulk d + uptoBulkAll r
def uptoBulkEntries {H : Type} : List (Lit × DataW H) → Nat
  | [] => 0
  | x :: r => uptoBulkEntry x + uptoBulkEntries r
def uptoBulkEntry {H : Type} : Lit × DataW H → Nat
  | (.string bytes, d) => bytes.length + uptoBulk d + 1
  | (_, d) => uptoBulk d + 1
 end
def uptoSmall : (H : Type) → List (DataW H) → Bool := fun _ ds => decide (uptoBulkAll ds ≤ 1048576)
def OpenSpec.upto (s : _root_.Go.ChangeSpec) : _root_.Go.OpenSpec := { _root_.Go.OpenSpec.ofChange s with cond := some uptoSmall }

/-- 'laws.FnExactNodeOf', WHERE WHAT IT READS IS OF BULK AT MOST 1048576: true; the input reads as it did. -/
def fnExactNodeOfUptoRow : OpenClaim := { program := "ytfbhkglgaehohaadoor", sum := "61b06d795e9b6cfc92a6c4776286b6db91b508be2b7ae87bbd03eb4e88dbd078", func := "loop.example/g00397/laws.FnExactNodeOf", spec := "fnExactNodeOf", named := ["loop.example/g00397/impl.shaWords"], apart := false, laid := [("loop.example/g00397/impl.shaWords", laid_loop_example_g00397_impl_shaWords)], narrowed := true }
def FnExactNodeOfUptoSaid : Prop := fnExactNodeOfUptoRow.holds Tryd.pinned (OpenSpec.upto fnExactNodeOfSpec)

/-- 'laws.FnExactLeafOf', WHERE WHAT IT READS IS OF BULK AT MOST 1048576: true; the input reads as it did. -/
def fnExactLeafOfUptoRow : OpenClaim := { program := "ytfbhkglgaehohaadoor", sum := "61b06d795e9b6cfc92a6c4776286b6db91b508be2b7ae87bbd03eb4e88dbd078", func := "loop.example/g00397/laws.FnExactLeafOf", spec := "fnExactLeafOf", named := ["loop.example/g00397/impl.shaWords"], apart := false, laid := [("loop.example/g00397/impl.shaWords", laid_loop_example_g00397_impl_shaWords)], narrowed := true }
def FnExactLeafOfUptoSaid : Prop := fnExactLeafOfUptoRow.holds Tryd.pinned (OpenSpec.upto fnExactLeafOfSpec)

/-- 'laws.FnExactHeadFrom', WHERE WHAT IT READS IS OF BULK AT MOST 1048576: true; the input reads as it did. -/
def fnExactHeadFromUptoRow : OpenClaim := { program := "ytfbhkglgaehohaadoor", sum := "61b06d795e9b6cfc92a6c4776286b6db91b508be2b7ae87bbd03eb4e88dbd078", func := "loop.example/g00397/laws.FnExactHeadFrom", spec := "fnExactHeadFrom", named := ["loop.example/g00397/impl.shaWords"], apart := false, laid := [("loop.example/g00397/impl.shaWords", laid_loop_example_g00397_impl_shaWords)], narrowed := true }
def FnExactHeadFromUptoSaid : Prop := fnExactHeadFromUptoRow.holds Tryd.pinned (OpenSpec.upto fnExactHeadFromSpec)

/-- 'laws.FnExactHeadOf', WHERE WHAT IT READS IS OF BULK AT MOST 1048576: true; the input reads as it did. -/
def fnExactHeadOfUptoRow : OpenClaim := { program := "ytfbhkglgaehohaadoor", sum := "61b06d795e9b6cfc92a6c4776286b6db91b508be2b7ae87bbd03eb4e88dbd078", func := "loop.example/g00397/laws.FnExactHeadOf", spec := "fnExactHeadOf", named := ["loop.example/g00397/impl.shaWords"], apart := false, laid := [("loop.example/g00397/impl.shaWords", laid_loop_example_g00397_impl_shaWords)], narrowed := true }
def FnExactHeadOfUptoSaid : Prop := fnExactHeadOfUptoRow.holds Tryd.pinned (OpenSpec.upto fnExactHeadOfSpec)

/-- 'laws.FnExactRootOf', WHERE WHAT IT READS IS OF BULK AT MOST 1048576: true; the input reads as it did. -/
def fnExactRootOfUptoRow : OpenClaim := { program := "ytfbhkglgaehohaadoor", sum := "61b06d795e9b6cfc92a6c4776286b6db91b508be2b7ae87bbd03eb4e88dbd078", func := "loop.example/g00397/laws.FnExactRootOf", spec := "fnExactRootOf", recurses := true, named := ["loop.example/g00397/impl.shaWords"], apart := false, laid := [("loop.example/g00397/impl.shaWords", laid_loop_example_g00397_impl_shaWords)], narrowed := true }
def FnExactRootOfUptoSaid : Prop := fnExactRootOfUptoRow.holds Tryd.pinned (OpenSpec.upto fnExactRootOfSpec)

/-- 'laws.FnExactPathOk', WHERE WHAT IT READS IS OF BULK AT MOST 1048576: true; the input reads as it did. -/
def fnExactPathOkUptoRow : OpenClaim := { program := "ytfbhkglgaehohaadoor", sum := "61b06d795e9b6cfc92a6c4776286b6db91b508be2b7ae87bbd03eb4e88dbd078", func := "loop.example/g00397/laws.FnExactPathOk", spec := "fnExactPathOk", recurses := true, named := ["loop.example/g00397/impl.shaWords"], apart := false, laid := [("loop.example/g00397/impl.shaWords", laid_loop_example_g00397_impl_shaWords)], narrowed := true }
def FnExactPathOkUptoSaid : Prop := fnExactPathOkUptoRow.holds Tryd.pinned (OpenSpec.upto fnExactPathOkSpec)

end Rows
end Go.Proofs.YtfbhkglgaehohaaDoor
