/-
  NARROWER THAN 'FOR EVERY INPUT', by the rows' own cells (each row's printed sentence says how): FnExactVerified: laid · FnExactSegmentOk: laid · FnExactSegmentText: laid · FnExactPathOf: laid · FnExactCutLog: laid · FnExactJoinSegments: laid · FnExactReadSegment: laid · FnTreeParts: laid · FnTree: laid · FnSegmentsBound: laid · FnChains: laid · FnSegments: laid.
  DERIVED. THE GIVEN ROWS OF THIS SEAT. 12 by the template 'for every input the law returns true; each argument reads behind the call as it read before'; 0 by the template 'total and deterministic' (their statements: YtdhjolglbcoijaaDoorTotals.lean).
  GIVEN WITH THE SEED: the statements are not yours to turn. If you find one false, say at which input.
  Laid BY PROGRAM, IN A SANDBOX (cutbox-rows.mjs): the forced cells as the released guide's own fill.sh prints them over the translation b8473f756b7f7706… (all of the seat's roots in one cut). By AI agents, Wed Nov 11 2026. No macro, syntax, notation, axiom, sorry.
-/
import Derived.Test.YtdhjolglbcoijaaDoorChecked
import GoSem.Claim
import GoSem.ClaimJoined
import GoSem.ClaimMapViews
import Derived.JoinedTies
import Derived.KernelRfl
namespace Go.Proofs.YtdhjolglbcoijaaDoor
/- THE CELL 'sum', in the pinned program and in every row, IS THE sha256 OF THE DUMP (.gsa) THAT YtdhjolglbcoijaaDoorProg.lean LOADS. Nothing in Lean hashes anything: it is a label: what it is worth is what the hold of that sum in a sandbox is worth. -/
noncomputable def Tryd.pinned : Pinned := { name := "ytdhjolglbcoijaadoor", sum := "b8473f756b7f7706bf2a9008f5c28102d09b1960984edab031e0ef8820eee846", checked := Tryd.checked }
namespace Rows
def none {H : Type} : Left H := { results := [], args := [] }

/- WHAT THE LISTED PACKAGE-LEVEL VARIABLES READ AS WHEN THE CALL BEGINS. Each datum BY PROGRAM (the guide's laid-datum.mjs) off the statement by which the dump's own 'gosem.cut.vars' lays the variable. In a bare row this is a premise. The card (YtdhjolglbcoijaaDoorCards.lean) ties it to the program's text. -/
def laid_loop_example_g00397_impl_shaWords {H : Type} : DataW H := .agg [.lit (.int .u32 1116352408), .lit (.int .u32 1899447441), .lit (.int .u32 3049323471), .lit (.int .u32 3921009573), .lit (.int .u32 961987163), .lit (.int .u32 1508970993), .lit (.int .u32 2453635748), .lit (.int .u32 2870763221), .lit (.int .u32 3624381080), .lit (.int .u32 310598401), .lit (.int .u32 607225278), .lit (.int .u32 1426881987), .lit (.int .u32 1925078388), .lit (.int .u32 2162078206), .lit (.int .u32 2614888103), .lit (.int .u32 3248222580), .lit (.int .u32 3835390401), .lit (.int .u32 4022224774), .lit (.int .u32 264347078), .lit (.int .u32 604807628), .lit (.int .u32 770255983), .lit (.int .u32 1249150122), .lit (.int .u32 1555081692), .lit (.int .u32 1996064986), .lit (.int .u32 2554220882), .lit (.int .u32 2821834349), .lit (.int .u32 2952996808), .lit (.int .u32 3210313671), .lit (.int .u32 3336571891), .lit (.int .u32 3584528711), .lit (.int .u32 113926993), .lit (.int .u32 338241895), .lit (.int .u32 666307205), .lit (.int .u32 773529912), .lit (.int .u32 1294757372), .lit (.int .u32 1396182291), .lit (.int .u32 1695183700), .lit (.int .u32 1986661051), .lit (.int .u32 2177026350), .lit (.int .u32 2456956037), .lit (.int .u32 2730485921), .lit (.int .u32 2820302411), .lit (.int .u32 3259730800), .lit (.int .u32 3345764771), .lit (.int .u32 3516065817), .lit (.int .u32 3600352804), .lit (.int .u32 4094571909), .lit (.int .u32 275423344), .lit (.int .u32 430227734), .lit (.int .u32 506948616), .lit (.int .u32 659060556), .lit (.int .u32 883997877), .lit (.int .u32 958139571), .lit (.int .u32 1322822218), .lit (.int .u32 1537002063), .lit (.int .u32 1747873779), .lit (.int .u32 1955562222), .lit (.int .u32 2024104815), .lit (.int .u32 2227730452), .lit (.int .u32 2361852424), .lit (.int .u32 2428436474), .lit (.int .u32 2756734187), .lit (.int .u32 3204031479), .lit (.int .u32 3329325298)]

/-- 'laws.FnExactVerified': WHATEVER THE INPUT: true; the input reads as it did. -/
def fnExactVerifiedSpec : ChangeSpec := { name := "fnExactVerified", vars := ["loop.example/g00397/impl.shaWords"], fn := fun _ => fun
  | [d1, d2, g1] => { results := [.lit (.bool true)], args := [d1, d2], vars := [g1] }
  | _ => none }
def fnExactVerifiedRow : OpenClaim := { program := "ytdhjolglbcoijaadoor", sum := "b8473f756b7f7706bf2a9008f5c28102d09b1960984edab031e0ef8820eee846", func := "loop.example/g00397/laws.FnExactVerified", spec := "fnExactVerified", named := ["loop.example/g00397/impl.shaWords"], apart := false, laid := [("loop.example/g00397/impl.shaWords", laid_loop_example_g00397_impl_shaWords)] }
def FnExactVerifiedSaid : Prop := fnExactVerifiedRow.holds Tryd.pinned (OpenSpec.ofChange fnExactVerifiedSpec)

/-- ITS FALSE NEIGHBOUR: 'it returns false'. Refute it at one input. -/
def fnExactVerifiedWrong : ChangeSpec := { name := "fnExactVerified", vars := ["loop.example/g00397/impl.shaWords"], fn := fun _ => fun
  | [d1, d2, g1] => { results := [.lit (.bool false)], args := [d1, d2], vars := [g1] }
  | _ => none }
def FnExactVerifiedWrongFalsely : Prop := fnExactVerifiedRow.holds Tryd.pinned (OpenSpec.ofChange fnExactVerifiedWrong)

/-- 'laws.FnExactSegmentOk': WHATEVER THE INPUT: true; the input reads as it did. -/
def fnExactSegmentOkSpec : ChangeSpec := { name := "fnExactSegmentOk", vars := ["loop.example/g00397/impl.shaWords"], fn := fun _ => fun
  | [d, g1] => { results := [.lit (.bool true)], args := [d], vars := [g1] }
  | _ => none }
def fnExactSegmentOkRow : OpenClaim := { program := "ytdhjolglbcoijaadoor", sum := "b8473f756b7f7706bf2a9008f5c28102d09b1960984edab031e0ef8820eee846", func := "loop.example/g00397/laws.FnExactSegmentOk", spec := "fnExactSegmentOk", named := ["loop.example/g00397/impl.shaWords"], apart := false, laid := [("loop.example/g00397/impl.shaWords", laid_loop_example_g00397_impl_shaWords)] }
def FnExactSegmentOkSaid : Prop := fnExactSegmentOkRow.holds Tryd.pinned (OpenSpec.ofChange fnExactSegmentOkSpec)

/-- ITS FALSE NEIGHBOUR: 'it returns false'. Refute it at one input. -/
def fnExactSegmentOkWrong : ChangeSpec := { name := "fnExactSegmentOk", vars := ["loop.example/g00397/impl.shaWords"], fn := fun _ => fun
  | [d, g1] => { results := [.lit (.bool false)], args := [d], vars := [g1] }
  | _ => none }
def FnExactSegmentOkWrongFalsely : Prop := fnExactSegmentOkRow.holds Tryd.pinned (OpenSpec.ofChange fnExactSegmentOkWrong)

/-- 'laws.FnExactSegmentText': WHATEVER THE INPUT: true; the input reads as it did. -/
def fnExactSegmentTextSpec : ChangeSpec := { name := "fnExactSegmentText", vars := ["loop.example/g00397/impl.shaWords"], fn := fun _ => fun
  | [d, g1] => { results := [.lit (.bool true)], args := [d], vars := [g1] }
  | _ => none }
def fnExactSegmentTextRow : OpenClaim := { program := "ytdhjolglbcoijaadoor", sum := "b8473f756b7f7706bf2a9008f5c28102d09b1960984edab031e0ef8820eee846", func := "loop.example/g00397/laws.FnExactSegmentText", spec := "fnExactSegmentText", named := ["loop.example/g00397/impl.shaWords"], apart := false, laid := [("loop.example/g00397/impl.shaWords", laid_loop_example_g00397_impl_shaWords)] }
def FnExactSegmentTextSaid : Prop := fnExactSegmentTextRow.holds Tryd.pinned (OpenSpec.ofChange fnExactSegmentTextSpec)

/-- ITS FALSE NEIGHBOUR: 'it returns false'. Refute it at one input. -/
def fnExactSegmentTextWrong : ChangeSpec := { name := "fnExactSegmentText", vars := ["loop.example/g00397/impl.shaWords"], fn := fun _ => fun
  | [d, g1] => { results := [.lit (.bool false)], args := [d], vars := [g1] }
  | _ => none }
def FnExactSegmentTextWrongFalsely : Prop := fnExactSegmentTextRow.holds Tryd.pinned (OpenSpec.ofChange fnExactSegmentTextWrong)

/-- 'laws.FnExactPathOf': WHATEVER THE INPUT: true; the input reads as it did. -/
def fnExactPathOfSpec : ChangeSpec := { name := "fnExactPathOf", vars := ["loop.example/g00397/impl.shaWords"], fn := fun _ => fun
  | [d1, d2, g1] => { results := [.lit (.bool true)], args := [d1, d2], vars := [g1] }
  | _ => none }
def fnExactPathOfRow : OpenClaim := { program := "ytdhjolglbcoijaadoor", sum := "b8473f756b7f7706bf2a9008f5c28102d09b1960984edab031e0ef8820eee846", func := "loop.example/g00397/laws.FnExactPathOf", spec := "fnExactPathOf", recurses := true, named := ["loop.example/g00397/impl.shaWords"], apart := false, laid := [("loop.example/g00397/impl.shaWords", laid_loop_example_g00397_impl_shaWords)] }
def FnExactPathOfSaid : Prop := fnExactPathOfRow.holds Tryd.pinned (OpenSpec.ofChange fnExactPathOfSpec)

/-- ITS FALSE NEIGHBOUR: 'it returns false'. Refute it at one input. -/
def fnExactPathOfWrong : ChangeSpec := { name := "fnExactPathOf", vars := ["loop.example/g00397/impl.shaWords"], fn := fun _ => fun
  | [d1, d2, g1] => { results := [.lit (.bool false)], args := [d1, d2], vars := [g1] }
  | _ => none }
def FnExactPathOfWrongFalsely : Prop := fnExactPathOfRow.holds Tryd.pinned (OpenSpec.ofChange fnExactPathOfWrong)

/-- 'laws.FnExactCutLog': WHATEVER THE INPUT: true; the input reads as it did. -/
def fnExactCutLogSpec : ChangeSpec := { name := "fnExactCutLog", vars := ["loop.example/g00397/impl.shaWords"], fn := fun _ => fun
  | [d1, d2, g1] => { results := [.lit (.bool true)], args := [d1, d2], vars := [g1] }
  | _ => none }
def fnExactCutLogRow : OpenClaim := { program := "ytdhjolglbcoijaadoor", sum := "b8473f756b7f7706bf2a9008f5c28102d09b1960984edab031e0ef8820eee846", func := "loop.example/g00397/laws.FnExactCutLog", spec := "fnExactCutLog", named := ["loop.example/g00397/impl.shaWords"], apart := false, laid := [("loop.example/g00397/impl.shaWords", laid_loop_example_g00397_impl_shaWords)] }
def FnExactCutLogSaid : Prop := fnExactCutLogRow.holds Tryd.pinned (OpenSpec.ofChange fnExactCutLogSpec)

/-- ITS FALSE NEIGHBOUR: 'it returns false'. Refute it at one input. -/
def fnExactCutLogWrong : ChangeSpec := { name := "fnExactCutLog", vars := ["loop.example/g00397/impl.shaWords"], fn := fun _ => fun
  | [d1, d2, g1] => { results := [.lit (.bool false)], args := [d1, d2], vars := [g1] }
  | _ => none }
def FnExactCutLogWrongFalsely : Prop := fnExactCutLogRow.holds Tryd.pinned (OpenSpec.ofChange fnExactCutLogWrong)

/-- 'laws.FnExactJoinSegments': WHATEVER THE INPUT: true; the input reads as it did. -/
def fnExactJoinSegmentsSpec : ChangeSpec := { name := "fnExactJoinSegments", vars := ["loop.example/g00397/impl.shaWords"], fn := fun _ => fun
  | [d, g1] => { results := [.lit (.bool true)], args := [d], vars := [g1] }
  | _ => none }
def fnExactJoinSegmentsRow : OpenClaim := { program := "ytdhjolglbcoijaadoor", sum := "b8473f756b7f7706bf2a9008f5c28102d09b1960984edab031e0ef8820eee846", func := "loop.example/g00397/laws.FnExactJoinSegments", spec := "fnExactJoinSegments", named := ["loop.example/g00397/impl.shaWords"], apart := false, laid := [("loop.example/g00397/impl.shaWords", laid_loop_example_g00397_impl_shaWords)] }
def FnExactJoinSegmentsSaid : Prop := fnExactJoinSegmentsRow.holds Tryd.pinned (OpenSpec.ofChange fnExactJoinSegmentsSpec)

/-- ITS FALSE NEIGHBOUR: 'it returns false'. Refute it at one input. -/
def fnExactJoinSegmentsWrong : ChangeSpec := { name := "fnExactJoinSegments", vars := ["loop.example/g00397/impl.shaWords"], fn := fun _ => fun
  | [d, g1] => { results := [.lit (.bool false)], args := [d], vars := [g1] }
  | _ => none }
def FnExactJoinSegmentsWrongFalsely : Prop := fnExactJoinSegmentsRow.holds Tryd.pinned (OpenSpec.ofChange fnExactJoinSegmentsWrong)

/-- 'laws.FnExactReadSegment': WHATEVER THE INPUT: true; the input reads as it did. -/
def fnExactReadSegmentSpec : ChangeSpec := { name := "fnExactReadSegment", vars := ["loop.example/g00397/impl.shaWords"], fn := fun _ => fun
  | [d, g1] => { results := [.lit (.bool true)], args := [d], vars := [g1] }
  | _ => none }
def fnExactReadSegmentRow : OpenClaim := { program := "ytdhjolglbcoijaadoor", sum := "b8473f756b7f7706bf2a9008f5c28102d09b1960984edab031e0ef8820eee846", func := "loop.example/g00397/laws.FnExactReadSegment", spec := "fnExactReadSegment", named := ["loop.example/g00397/impl.shaWords"], apart := false, laid := [("loop.example/g00397/impl.shaWords", laid_loop_example_g00397_impl_shaWords)] }
def FnExactReadSegmentSaid : Prop := fnExactReadSegmentRow.holds Tryd.pinned (OpenSpec.ofChange fnExactReadSegmentSpec)

/-- ITS FALSE NEIGHBOUR: 'it returns false'. Refute it at one input. -/
def fnExactReadSegmentWrong : ChangeSpec := { name := "fnExactReadSegment", vars := ["loop.example/g00397/impl.shaWords"], fn := fun _ => fun
  | [d, g1] => { results := [.lit (.bool false)], args := [d], vars := [g1] }
  | _ => none }
def FnExactReadSegmentWrongFalsely : Prop := fnExactReadSegmentRow.holds Tryd.pinned (OpenSpec.ofChange fnExactReadSegmentWrong)

/-- 'laws.FnTreeParts': WHATEVER THE INPUT: true; the input reads as it did. -/
def fnTreePartsSpec : ChangeSpec := { name := "fnTreeParts", vars := ["loop.example/g00397/impl.shaWords"], fn := fun _ => fun
  | [d, g1] => { results := [.lit (.bool true)], args := [d], vars := [g1] }
  | _ => none }
def fnTreePartsRow : OpenClaim := { program := "ytdhjolglbcoijaadoor", sum := "b8473f756b7f7706bf2a9008f5c28102d09b1960984edab031e0ef8820eee846", func := "loop.example/g00397/laws.FnTreeParts", spec := "fnTreeParts", recurses := true, named := ["loop.example/g00397/impl.shaWords"], apart := false, laid := [("loop.example/g00397/impl.shaWords", laid_loop_example_g00397_impl_shaWords)] }
def FnTreePartsSaid : Prop := fnTreePartsRow.holds Tryd.pinned (OpenSpec.ofChange fnTreePartsSpec)

/-- ITS FALSE NEIGHBOUR: 'it returns false'. Refute it at one input. -/
def fnTreePartsWrong : ChangeSpec := { name := "fnTreeParts", vars := ["loop.example/g00397/impl.shaWords"], fn := fun _ => fun
  | [d, g1] => { results := [.lit (.bool false)], args := [d], vars := [g1] }
  | _ => none }
def FnTreePartsWrongFalsely : Prop := fnTreePartsRow.holds Tryd.pinned (OpenSpec.ofChange fnTreePartsWrong)

/-- 'laws.FnTree': WHATEVER THE INPUT: true; the input reads as it did. -/
def fnTreeSpec : ChangeSpec := { name := "fnTree", vars := ["loop.example/g00397/impl.shaWords"], fn := fun _ => fun
  | [d, g1] => { results := [.lit (.bool true)], args := [d], vars := [g1] }
  | _ => none }
def fnTreeRow : OpenClaim := { program := "ytdhjolglbcoijaadoor", sum := "b8473f756b7f7706bf2a9008f5c28102d09b1960984edab031e0ef8820eee846", func := "loop.example/g00397/laws.FnTree", spec := "fnTree", recurses := true, named := ["loop.example/g00397/impl.shaWords"], apart := false, laid := [("loop.example/g00397/impl.shaWords", laid_loop_example_g00397_impl_shaWords)] }
def FnTreeSaid : Prop := fnTreeRow.holds Tryd.pinned (OpenSpec.ofChange fnTreeSpec)

/-- ITS FALSE NEIGHBOUR: 'it returns false'. Refute it at one input. -/
def fnTreeWrong : ChangeSpec := { name := "fnTree", vars := ["loop.example/g00397/impl.shaWords"], fn := fun _ => fun
  | [d, g1] => { results := [.lit (.bool false)], args := [d], vars := [g1] }
  | _ => none }
def FnTreeWrongFalsely : Prop := fnTreeRow.holds Tryd.pinned (OpenSpec.ofChange fnTreeWrong)

/-- 'laws.FnSegmentsBound': WHATEVER THE INPUT: true; the input reads as it did. -/
def fnSegmentsBoundSpec : ChangeSpec := { name := "fnSegmentsBound", vars := ["loop.example/g00397/impl.shaWords"], fn := fun _ => fun
  | [d, g1] => { results := [.lit (.bool true)], args := [d], vars := [g1] }
  | _ => none }
def fnSegmentsBoundRow : OpenClaim := { program := "ytdhjolglbcoijaadoor", sum := "b8473f756b7f7706bf2a9008f5c28102d09b1960984edab031e0ef8820eee846", func := "loop.example/g00397/laws.FnSegmentsBound", spec := "fnSegmentsBound", named := ["loop.example/g00397/impl.shaWords"], apart := false, laid := [("loop.example/g00397/impl.shaWords", laid_loop_example_g00397_impl_shaWords)] }
def FnSegmentsBoundSaid : Prop := fnSegmentsBoundRow.holds Tryd.pinned (OpenSpec.ofChange fnSegmentsBoundSpec)

/-- ITS FALSE NEIGHBOUR: 'it returns false'. Refute it at one input. -/
def fnSegmentsBoundWrong : ChangeSpec := { name := "fnSegmentsBound", vars := ["loop.example/g00397/impl.shaWords"], fn := fun _ => fun
  | [d, g1] => { results := [.lit (.bool false)], args := [d], vars := [g1] }
  | _ => none }
def FnSegmentsBoundWrongFalsely : Prop := fnSegmentsBoundRow.holds Tryd.pinned (OpenSpec.ofChange fnSegmentsBoundWrong)

/-- 'laws.FnChains': WHATEVER THE INPUT: true; the input reads as it did. -/
def fnChainsSpec : ChangeSpec := { name := "fnChains", vars := ["loop.example/g00397/impl.shaWords"], fn := fun _ => fun
  | [d, g1] => { results := [.lit (.bool true)], args := [d], vars := [g1] }
  | _ => none }
def fnChainsRow : OpenClaim := { program := "ytdhjolglbcoijaadoor", sum := "b8473f756b7f7706bf2a9008f5c28102d09b1960984edab031e0ef8820eee846", func := "loop.example/g00397/laws.FnChains", spec := "fnChains", named := ["loop.example/g00397/impl.shaWords"], apart := false, laid := [("loop.example/g00397/impl.shaWords", laid_loop_example_g00397_impl_shaWords)] }
def FnChainsSaid : Prop := fnChainsRow.holds Tryd.pinned (OpenSpec.ofChange fnChainsSpec)

/-- ITS FALSE NEIGHBOUR: 'it returns false'. Refute it at one input. -/
def fnChainsWrong : ChangeSpec := { name := "fnChains", vars := ["loop.example/g00397/impl.shaWords"], fn := fun _ => fun
  | [d, g1] => { results := [.lit (.bool false)], args := [d], vars := [g1] }
  | _ => none }
def FnChainsWrongFalsely : Prop := fnChainsRow.holds Tryd.pinned (OpenSpec.ofChange fnChainsWrong)

/-- 'laws.FnSegments': WHATEVER THE INPUT: true; the input reads as it did. -/
def fnSegmentsSpec : ChangeSpec := { name := "fnSegments", vars := ["loop.example/g00397/impl.shaWords"], fn := fun _ => fun
  | [d, g1] => { results := [.lit (.bool true)], args := [d], vars := [g1] }
  | _ => none }
def fnSegmentsRow : OpenClaim := { program := "ytdhjolglbcoijaadoor", sum := "b8473f756b7f7706bf2a9008f5c28102d09b1960984edab031e0ef8820eee846", func := "loop.example/g00397/laws.FnSegments", spec := "fnSegments", named := ["loop.example/g00397/impl.shaWords"], apart := false, laid := [("loop.example/g00397/impl.shaWords", laid_loop_example_g00397_impl_shaWords)] }
def FnSegmentsSaid : Prop := fnSegmentsRow.holds Tryd.pinned (OpenSpec.ofChange fnSegmentsSpec)

/-- ITS FALSE NEIGHBOUR: 'it returns false'. Refute it at one input. -/
def fnSegmentsWrong : ChangeSpec := { name := "fnSegments", vars := ["loop.example/g00397/impl.shaWords"], fn := fun _ => fun
  | [d, g1] => { results := [.lit (.bool false)], args := [d], vars := [g1] }
  | _ => none }
def FnSegmentsWrongFalsely : Prop := fnSegmentsRow.holds Tryd.pinned (OpenSpec.ofChange fnSegmentsWrong)

/- THE SECOND FORM. 'bulk': how many values and letters a reading holds, each counted each time it is reached (what is shared counts as often as it is met; a slice's spare places count too). A statement '..UptoSaid' is the law's where the arguments, and the package variables that the reading takes, are together of bulk at most 1048576: NARROWER than '..Said'. Prove '..Said' where nothing that the law and all that it calls make is longer than what came in: it says more and counts as full. Else prove '..UptoSaid'. A law counts once. -/
mutual
def uptoBulk {H : Type} : DataW H → Nat
  | .lit (.string bytes) => bytes.length + 1
  | .lit _ => 1
  | .nil => 1
  | .ptr d => uptoBulk d + 1
  | .slice elems spare => uptoBulkAll elems + uptoBulkAll spare + 1
  | .agg parts => uptoBulkAll parts + 1
  | .iface _ d => uptoBulk d + 1
  | .map entries => uptoBulkEntries entries + 1
  | .held _ => 1
def uptoBulkAll {H : Type} : List (DataW H) → Nat
  | [] => 0
  | d :: r => uptoBulk d + uptoBulkAll r
def uptoBulkEntries {H : Type} : List (Lit × DataW H) → Nat
  | [] => 0
  | x :: r => uptoBulkEntry x + uptoBulkEntries r
def uptoBulkEntry {H : Type} : Lit × DataW H → Nat
  | (.string bytes, d) => bytes.length + uptoBulk d + 1
  | (_, d) => uptoBulk d + 1
 end
def uptoSmall : (H : Type) → List (DataW H) → Bool := fun _ ds => decide (uptoBulkAll ds ≤ 1048576)
def OpenSpec.upto (s : _root_.Go.ChangeSpec) : _root_.Go.OpenSpec := { _root_.Go.OpenSpec.ofChange s with cond := some uptoSmall }

/-- 'laws.FnExactVerified', WHERE WHAT IT READS IS OF BULK AT MOST 1048576: true; the input reads as it did. -/
def fnExactVerifiedUptoRow : OpenClaim := { program := "ytdhjolglbcoijaadoor", sum := "b8473f756b7f7706bf2a9008f5c28102d09b1960984edab031e0ef8820eee846", func := "loop.example/g00397/laws.FnExactVerified", spec := "fnExactVerified", named := ["loop.example/g00397/impl.shaWords"], apart := false, laid := [("loop.example/g00397/impl.shaWords", laid_loop_example_g00397_impl_shaWords)], narrowed := true }
def FnExactVerifiedUptoSaid : Prop := fnExactVerifiedUptoRow.holds Tryd.pinned (OpenSpec.upto fnExactVerifiedSpec)

/-- 'laws.FnExactSegmentOk', WHERE WHAT IT READS IS OF BULK AT MOST 1048576: true; the input reads as it did. -/
def fnExactSegmentOkUptoRow : OpenClaim := { program := "ytdhjolglbcoijaadoor", sum := "b8473f756b7f7706bf2a9008f5c28102d09b1960984edab031e0ef8820eee846", func := "loop.example/g00397/laws.FnExactSegmentOk", spec := "fnExactSegmentOk", named := ["loop.example/g00397/impl.shaWords"], apart := false, laid := [("loop.example/g00397/impl.shaWords", laid_loop_example_g00397_impl_shaWords)], narrowed := true }
def FnExactSegmentOkUptoSaid : Prop := fnExactSegmentOkUptoRow.holds Tryd.pinned (OpenSpec.upto fnExactSegmentOkSpec)

/-- 'laws.FnExactSegmentText', WHERE WHAT IT READS IS OF BULK AT MOST 1048576: true; the input reads as it did. -/
def fnExactSegmentTextUptoRow : OpenClaim := { program := "ytdhjolglbcoijaadoor", sum := "b8473f756b7f7706bf2a9008f5c28102d09b1960984edab031e0ef8820eee846", func := "loop.example/g00397/laws.FnExactSegmentText", spec := "fnExactSegmentText", named := ["loop.example/g00397/impl.shaWords"], apart := false, laid := [("loop.example/g00397/impl.shaWords", laid_loop_example_g00397_impl_shaWords)], narrowed := true }
def FnExactSegmentTextUptoSaid : Prop := fnExactSegmentTextUptoRow.holds Tryd.pinned (OpenSpec.upto fnExactSegmentTextSpec)

/-- 'laws.FnExactPathOf', WHERE WHAT IT READS IS OF BULK AT MOST 1048576: true; the input reads as it did. -/
def fnExactPathOfUptoRow : OpenClaim := { program := "ytdhjolglbcoijaadoor", sum := "b8473f756b7f7706bf2a9008f5c28102d09b1960984edab031e0ef8820eee846", func := "loop.example/g00397/laws.FnExactPathOf", spec := "fnExactPathOf", recurses := true, named := ["loop.example/g00397/impl.shaWords"], apart := false, laid := [("loop.example/g00397/impl.shaWords", laid_loop_example_g00397_impl_shaWords)], narrowed := true }
def FnExactPathOfUptoSaid : Prop := fnExactPathOfUptoRow.holds Tryd.pinned (OpenSpec.upto fnExactPathOfSpec)

/-- 'laws.FnExactCutLog', WHERE WHAT IT READS IS OF BULK AT MOST 1048576: true; the input reads as it did. -/
def fnExactCutLogUptoRow : OpenClaim := { program := "ytdhjolglbcoijaadoor", sum := "b8473f756b7f7706bf2a9008f5c28102d09b1960984edab031e0ef8820eee846", func := "loop.example/g00397/laws.FnExactCutLog", spec := "fnExactCutLog", named := ["loop.example/g00397/impl.shaWords"], apart := false, laid := [("loop.example/g00397/impl.shaWords", laid_loop_example_g00397_impl_shaWords)], narrowed := true }
def FnExactCutLogUptoSaid : Prop := fnExactCutLogUptoRow.holds Tryd.pinned (OpenSpec.upto fnExactCutLogSpec)

/-- 'laws.FnExactJoinSegments', WHERE WHAT IT READS IS OF BULK AT MOST 1048576: true; the input reads as it did. -/
def fnExactJoinSegmentsUptoRow : OpenClaim := { program := "ytdhjolglbcoijaadoor", sum := "b8473f756b7f7706bf2a9008f5c28102d09b1960984edab031e0ef8820eee846", func := "loop.example/g00397/laws.FnExactJoinSegments", spec := "fnExactJoinSegments", named := ["loop.example/g00397/impl.shaWords"], apart := false, laid := [("loop.example/g00397/impl.shaWords", laid_loop_example_g00397_impl_shaWords)], narrowed := true }
def FnExactJoinSegmentsUptoSaid : Prop := fnExactJoinSegmentsUptoRow.holds Tryd.pinned (OpenSpec.upto fnExactJoinSegmentsSpec)

/-- 'laws.FnExactReadSegment', WHERE WHAT IT READS IS OF BULK AT MOST 1048576: true; the input reads as it did. -/
def fnExactReadSegmentUptoRow : OpenClaim := { program := "ytdhjolglbcoijaadoor", sum := "b8473f756b7f7706bf2a9008f5c28102d09b1960984edab031e0ef8820eee846", func := "loop.example/g00397/laws.FnExactReadSegment", spec := "fnExactReadSegment", named := ["loop.example/g00397/impl.shaWords"], apart := false, laid := [("loop.example/g00397/impl.shaWords", laid_loop_example_g00397_impl_shaWords)], narrowed := true }
def FnExactReadSegmentUptoSaid : Prop := fnExactReadSegmentUptoRow.holds Tryd.pinned (OpenSpec.upto fnExactReadSegmentSpec)

/-- 'laws.FnTreeParts', WHERE WHAT IT READS IS OF BULK AT MOST 1048576: true; the input reads as it did. -/
def fnTreePartsUptoRow : OpenClaim := { program := "ytdhjolglbcoijaadoor", sum := "b8473f756b7f7706bf2a9008f5c28102d09b1960984edab031e0ef8820eee846", func := "loop.example/g00397/laws.FnTreeParts", spec := "fnTreeParts", recurses := true, named := ["loop.example/g00397/impl.shaWords"], apart := false, laid := [("loop.example/g00397/impl.shaWords", laid_loop_example_g00397_impl_shaWords)], narrowed := true }
def FnTreePartsUptoSaid : Prop := fnTreePartsUptoRow.holds Tryd.pinned (OpenSpec.upto fnTreePartsSpec)

/-- 'laws.FnTree', WHERE WHAT IT READS IS OF BULK AT MOST 1048576: true; the input reads as it did. -/
def fnTreeUptoRow : OpenClaim := { program := "ytdhjolglbcoijaadoor", sum := "b8473f756b7f7706bf2a9008f5c28102d09b1960984edab031e0ef8820eee846", func := "loop.example/g00397/laws.FnTree", spec := "fnTree", recurses := true, named := ["loop.example/g00397/impl.shaWords"], apart := false, laid := [("loop.example/g00397/impl.shaWords", laid_loop_example_g00397_impl_shaWords)], narrowed := true }
def FnTreeUptoSaid : Prop := fnTreeUptoRow.holds Tryd.pinned (OpenSpec.upto fnTreeSpec)

/-- 'laws.FnSegmentsBound', WHERE WHAT IT READS IS OF BULK AT MOST 1048576: true; the input reads as it did. -/
def fnSegmentsBoundUptoRow : OpenClaim := { program := "ytdhjolglbcoijaadoor", sum := "b8473f756b7f7706bf2a9008f5c28102d09b1960984edab031e0ef8820eee846", func := "loop.example/g00397/laws.FnSegmentsBound", spec := "fnSegmentsBound", named := ["loop.example/g00397/impl.shaWords"], apart := false, laid := [("loop.example/g00397/impl.shaWords", laid_loop_example_g00397_impl_shaWords)], narrowed := true }
def FnSegmentsBoundUptoSaid : Prop := fnSegmentsBoundUptoRow.holds Tryd.pinned (OpenSpec.upto fnSegmentsBoundSpec)

/-- 'laws.FnChains', WHERE WHAT IT READS IS OF BULK AT MOST 1048576: true; the input reads as it did. -/
def fnChainsUptoRow : OpenClaim := { program := "ytdhjolglbcoijaadoor", sum := "b8473f756b7f7706bf2a9008f5c28102d09b1960984edab031e0ef8820eee846", func := "loop.example/g00397/laws.FnChains", spec := "fnChains", named := ["loop.example/g00397/impl.shaWords"], apart := false, laid := [("loop.example/g00397/impl.shaWords", laid_loop_example_g00397_impl_shaWords)], narrowed := true }
def FnChainsUptoSaid : Prop := fnChainsUptoRow.holds Tryd.pinned (OpenSpec.upto fnChainsSpec)

/-- 'laws.FnSegments', WHERE WHAT IT READS IS OF BULK AT MOST 1048576: true; the input reads as it did. -/
def fnSegmentsUptoRow : OpenClaim := { program := "ytdhjolglbcoijaadoor", sum := "b8473f756b7f7706bf2a9008f5c28102d09b1960984edab031e0ef8820eee846", func := "loop.example/g00397/laws.FnSegments", spec := "fnSegments", named := ["loop.example/g00397/impl.shaWords"], apart := false, laid := [("loop.example/g00397/impl.shaWords", laid_loop_example_g00397_impl_shaWords)], narrowed := true }
def FnSegmentsUptoSaid : Prop := fnSegmentsUptoRow.holds Tryd.pinned (OpenSpec.upto fnSegmentsSpec)

end Rows
end Go.Proofs.YtdhjolglbcoijaaDoor
