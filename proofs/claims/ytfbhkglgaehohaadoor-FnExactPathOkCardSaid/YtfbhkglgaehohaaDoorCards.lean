/-
  DERIVED. GIVEN WITH THE SEED: THE CARDS: each row of YtfbhkglgaehohaaDoorRows.lean that lists a variable, with what it lists TIED to the program's text (the seventh form; the later family's looks); each row that meets fmt, with fmt's text TOLD by the authors' own Lean function (tested against real Go, not proved from fmt's source: count such statements apart). THE CARD IS WHAT COUNTS. Prove the row's statement (the work); the ties are given (YtfbhkglgaehohaaDoorTie.lean); close each card by the builder's one call (the guide's Derived/Test/ToyasCard.lean, 'card_holds'). Laid BY PROGRAM, IN A SANDBOX (cutbox-door.mjs). By AI agents, Wed Nov 11 2026. No macro, syntax, notation, axiom, sorry.
-/
import Derived.Test.YtfbhkglgaehohaaDoorRows
import GoSem.ClaimSeven
namespace Go.Proofs.YtfbhkglgaehohaaDoor
namespace Rows

/-- THE TIED CARD OF 'laws.FnExactNodeOf'. -/
def fnExactNodeOfCard : Claim7 := { stood := { row := fnExactNodeOfRow, standIns := [], harness := (true, "6329d71903e3e372d43e5ccb9dc51d50cfba9dc6da3902d976e2e6f26835b4ed"), looks := false }, kinds := [], alts := [], laidByText := true, laidKinds := [.data], laidTests := true, laidLooks := .later }
def FnExactNodeOfCardSaid : Prop := Claim7.holds Tryd.pinned (.plain (OpenSpec.ofChange fnExactNodeOfSpec)) fnExactNodeOfCard

/-- THE TIED CARD OF 'laws.FnExactLeafOf'. -/
def fnExactLeafOfCard : Claim7 := { stood := { row := fnExactLeafOfRow, standIns := [], harness := (true, "6329d71903e3e372d43e5ccb9dc51d50cfba9dc6da3902d976e2e6f26835b4ed"), looks := false }, kinds := [], alts := [], laidByText := true, laidKinds := [.data], laidTests := true, laidLooks := .later }
def FnExactLeafOfCardSaid : Prop := Claim7.holds Tryd.pinned (.plain (OpenSpec.ofChange fnExactLeafOfSpec)) fnExactLeafOfCard

/-- THE TIED CARD OF 'laws.FnExactHeadFrom'. -/
def fnExactHeadFromCard : Claim7 := { stood := { row := fnExactHeadFromRow, standIns := [], harness := (true, "6329d71903e3e372d43e5ccb9dc51d50cfba9dc6da3902d976e2e6f26835b4ed"), looks := false }, kinds := [], alts := [], laidByText := true, laidKinds := [.data], laidTests := true, laidLooks := .later }
def FnExactHeadFromCardSaid : Prop := Claim7.holds Tryd.pinned (.plain (OpenSpec.ofChange fnExactHeadFromSpec)) fnExactHeadFromCard

/-- THE TIED CARD OF 'laws.FnExactHeadOf'. -/
def fnExactHeadOfCard : Claim7 := { stood := { row := fnExactHeadOfRow, standIns := [], harness := (true, "6329d71903e3e372d43e5ccb9dc51d50cfba9dc6da3902d976e2e6f26835b4ed"), looks := false }, kinds := [], alts := [], laidByText := true, laidKinds := [.data], laidTests := true, laidLooks := .later }
def FnExactHeadOfCardSaid : Prop := Claim7.holds Tryd.pinned (.plain (OpenSpec.ofChange fnExactHeadOfSpec)) fnExactHeadOfCard

/-- THE TIED CARD OF 'laws.FnExactRootOf'. -/
def fnExactRootOfCard : Claim7 := { stood := { row := fnExactRootOfRow, standIns := [], harness := (true, "6329d71903e3e372d43e5ccb9dc51d50cfba9dc6da3902d976e2e6f26835b4ed"), looks := false }, kinds := [], alts := [], laidByText := true, laidKinds := [.data], laidTests := true, laidLooks := .later }
def FnExactRootOfCardSaid : Prop := Claim7.holds Tryd.pinned (.plain (OpenSpec.ofChange fnExactRootOfSpec)) fnExactRootOfCard

/-- THE TIED CARD OF 'laws.FnExactPathOk'. -/
def fnExactPathOkCard : Claim7 := { stood := { row := fnExactPathOkRow, standIns := [], harness := (true, "6329d71903e3e372d43e5ccb9dc51d50cfba9dc6da3902d976e2e6f26835b4ed"), looks := false }, kinds := [], alts := [], laidByText := true, laidKinds := [.data], laidTests := true, laidLooks := .later }
def FnExactPathOkCardSaid : Prop := Claim7.holds Tryd.pinned (.plain (OpenSpec.ofChange fnExactPathOkSpec)) fnExactPathOkCard

/-- THE SECOND FORM's CARD OF 'laws.FnExactNodeOf'. -/
def fnExactNodeOfUptoCard : Claim7 := { stood := { row := fnExactNodeOfUptoRow, standIns := [], harness := (true, "6329d71903e3e372d43e5ccb9dc51d50cfba9dc6da3902d976e2e6f26835b4ed"), looks := false }, kinds := [], alts := [], laidByText := true, laidKinds := [.data], laidTests := true, laidLooks := .later }
def FnExactNodeOfUptoCardSaid : Prop := Claim7.holds Tryd.pinned (.plain (OpenSpec.upto fnExactNodeOfSpec)) fnExactNodeOfUptoCard

/-- THE SECOND FORM's CARD OF 'laws.FnExactLeafOf'. -/
def fnExactLeafOfUptoCard : Claim7 := { stood := { row := fnExactLeafOfUptoRow, standIns := [], harness := (true, "6329d71903e3e372d43e5ccb9dc51d50cfba9dc6da3902d976e2e6f26835b4ed"), looks := false }, kinds := [], alts := [], laidByText := true, laidKinds := [.data], laidTests := true, laidLooks := .later }
def FnExactLeafOfUptoCardSaid : Prop := Claim7.holds Tryd.pinned (.plain (OpenSpec.upto fnExactLeafOfSpec)) fnExactLeafOfUptoCard

/-- THE SECOND FORM's CARD OF 'laws.FnExactHeadFrom'. -/
def fnExactHeadFromUptoCard : Claim7 := { stood := { row := fnExactHeadFromUptoRow, standIns := [], harness := (true, "6329d71903e3e372d43e5ccb9dc51d50cfba9dc6da3902d976e2e6f26835b4ed"), looks := false }, kinds := [], alts := [], laidByText := true, laidKinds := [.data], laidTests := true, laidLooks := .later }
def FnExactHeadFromUptoCardSaid : Prop := Claim7.holds Tryd.pinned (.plain (OpenSpec.upto fnExactHeadFromSpec)) fnExactHeadFromUptoCard

/-- THE SECOND FORM's CARD OF 'laws.FnExactHeadOf'. -/
def fnExactHeadOfUptoCard : Claim7 := { stood := { row := fnExactHeadOfUptoRow, standIns := [], harness := (true, "6329d71903e3e372d43e5ccb9dc51d50cfba9dc6da3902d976e2e6f26835b4ed"), looks := false }, kinds := [], alts := [], laidByText := true, laidKinds := [.data], laidTests := true, laidLooks := .later }
def FnExactHeadOfUptoCardSaid : Prop := Claim7.holds Tryd.pinned (.plain (OpenSpec.upto fnExactHeadOfSpec)) fnExactHeadOfUptoCard

/-- THE SECOND FORM's CARD OF 'laws.FnExactRootOf'. -/
def fnExactRootOfUptoCard : Claim7 := { stood := { row := fnExactRootOfUptoRow, standIns := [], harness := (true, "6329d71903e3e372d43e5ccb9dc51d50cfba9dc6da3902d976e2e6f26835b4ed"), looks := false }, kinds := [], alts := [], laidByText := true, laidKinds := [.data], laidTests := true, laidLooks := .later }
def FnExactRootOfUptoCardSaid : Prop := Claim7.holds Tryd.pinned (.plain (OpenSpec.upto fnExactRootOfSpec)) fnExactRootOfUptoCard

/-- THE SECOND FORM's CARD OF 'laws.FnExactPathOk'. -/
def fnExactPathOkUptoCard : Claim7 := { stood := { row := fnExactPathOkUptoRow, standIns := [], harness := (true, "6329d71903e3e372d43e5ccb9dc51d50cfba9dc6da3902d976e2e6f26835b4ed"), looks := false }, kinds := [], alts := [], laidByText := true, laidKinds := [.data], laidTests := true, laidLooks := .later }
def FnExactPathOkUptoCardSaid : Prop := Claim7.holds Tryd.pinned (.plain (OpenSpec.upto fnExactPathOkSpec)) fnExactPathOkUptoCard
end Rows
end Go.Proofs.YtfbhkglgaehohaaDoor
