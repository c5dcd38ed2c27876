/-
  DERIVED. GIVEN WITH THE SEED: THE CARDS: each row of YtdlapahfmfhbjaaDoorRows.lean that lists a variable, with what it lists TIED to the program's text (the seventh form; the later family's looks); each row that meets fmt, with fmt's text TOLD by the authors' own Lean function (tested against real Go, not proved from fmt's source: count such statements apart). THE CARD IS WHAT COUNTS. Prove the row's statement (the work); the ties are given (YtdlapahfmfhbjaaDoorTie.lean); close each card by the builder's one call (the guide's Derived/Test/ToyasCard.lean, 'card_holds'). Laid BY PROGRAM, IN A SANDBOX (cutbox-door.mjs). By AI agents, Wed Nov 11 2026. No macro, syntax, notation, axiom, sorry.
-/
import Derived.Test.YtdlapahfmfhbjaaDoorRows
import GoSem.ClaimSeven
namespace Go.Proofs.YtdlapahfmfhbjaaDoor
namespace Rows

/-- THE TIED CARD OF 'laws.FnTreeTold'. -/
def fnTreeToldCard : Claim7 := { stood := { row := fnTreeToldRow, standIns := [], harness := (true, "fa0b9099e42f3be315dc93dea7eeb6b616dfd6e0f51a4126b7a18e1012786f54"), looks := false }, kinds := [], alts := [], laidByText := true, laidKinds := [.data], laidTests := true, laidLooks := .later }
def FnTreeToldCardSaid : Prop := Claim7.holds Tryd.pinned (.plain (OpenSpec.ofChange fnTreeToldSpec)) fnTreeToldCard

/-- THE TIED CARD OF 'laws.FnChainsTold'. -/
def fnChainsToldCard : Claim7 := { stood := { row := fnChainsToldRow, standIns := [], harness := (true, "fa0b9099e42f3be315dc93dea7eeb6b616dfd6e0f51a4126b7a18e1012786f54"), looks := false }, kinds := [], alts := [], laidByText := true, laidKinds := [.data], laidTests := true, laidLooks := .later }
def FnChainsToldCardSaid : Prop := Claim7.holds Tryd.pinned (.plain (OpenSpec.ofChange fnChainsToldSpec)) fnChainsToldCard

/-- THE TIED CARD OF 'laws.FnSegmentsTold'. -/
def fnSegmentsToldCard : Claim7 := { stood := { row := fnSegmentsToldRow, standIns := [], harness := (true, "fa0b9099e42f3be315dc93dea7eeb6b616dfd6e0f51a4126b7a18e1012786f54"), looks := false }, kinds := [], alts := [], laidByText := true, laidKinds := [.data], laidTests := true, laidLooks := .later }
def FnSegmentsToldCardSaid : Prop := Claim7.holds Tryd.pinned (.plain (OpenSpec.ofChange fnSegmentsToldSpec)) fnSegmentsToldCard

/-- THE SECOND FORM's CARD OF 'laws.FnTreeTold'. -/
def fnTreeToldUptoCard : Claim7 := { stood := { row := fnTreeToldUptoRow, standIns := [], harness := (true, "fa0b9099e42f3be315dc93dea7eeb6b616dfd6e0f51a4126b7a18e1012786f54"), looks := false }, kinds := [], alts := [], laidByText := true, laidKinds := [.data], laidTests := true, laidLooks := .later }
def FnTreeToldUptoCardSaid : Prop := Claim7.holds Tryd.pinned (.plain (OpenSpec.upto fnTreeToldSpec)) fnTreeToldUptoCard

/-- THE SECOND FORM's CARD OF 'laws.FnChainsTold'. -/
def fnChainsToldUptoCard : Claim7 := { stood := { row := fnChainsToldUptoRow, standIns := [], harness := (true, "fa0b9099e42f3be315dc93dea7eeb6b616dfd6e0f51a4126b7a18e1012786f54"), looks := false }, kinds := [], alts := [], laidByText := true, laidKinds := [.data], laidTests := true, laidLooks := .later }
def FnChainsToldUptoCardSaid : Prop := Claim7.holds Tryd.pinned (.plain (OpenSpec.upto fnChainsToldSpec)) fnChainsToldUptoCard

/-- THE SECOND FORM's CARD OF 'laws.FnSegmentsTold'. -/
def fnSegmentsToldUptoCard : Claim7 := { stood := { row := fnSegmentsToldUptoRow, standIns := [], harness := (true, "fa0b9099e42f3be315dc93dea7eeb6b616dfd6e0f51a4126b7a18e1012786f54"), looks := false }, kinds := [], alts := [], laidByText := true, laidKinds := [.data], laidTests := true, laidLooks := .later }
def FnSegmentsToldUptoCardSaid : Prop := Claim7.holds Tryd.pinned (.plain (OpenSpec.upto fnSegmentsToldSpec)) fnSegmentsToldUptoCard
end Rows
end Go.Proofs.YtdlapahfmfhbjaaDoor
