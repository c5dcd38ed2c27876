/-
  DERIVED. GIVEN WITH THE SEED: THE CARDS: each row of YtcbjlcgfhbfneaaGreatDoorRows.lean that lists a variable, with what it lists TIED to the program's text (the seventh form; the later family's looks); each row that meets fmt, with fmt's text TOLD by the authors' own Lean function (tested against real Go, not proved from fmt's source: count such statements apart). THE CARD IS WHAT COUNTS. Prove the row's statement (the work); the ties are given (YtcbjlcgfhbfneaaGreatDoorTie.lean); close each card by the builder's one call (the guide's Derived/Test/ToyasCard.lean, 'card_holds'). Laid BY PROGRAM, IN A SANDBOX (cutbox-door.mjs). By AI agents, Wed Nov 11 2026. No macro, syntax, notation, axiom, sorry.
-/
import Derived.Test.YtcbjlcgfhbfneaaGreatDoorRows
import GoSem.ClaimSeven
namespace Go.Proofs.YtcbjlcgfhbfneaaGreatDoor
namespace Rows

/-- THE TIED CARD OF 'laws.FnExactShowWorld'. -/
def fnExactShowWorldCard : Claim7 := { stood := { row := fnExactShowWorldRow, standIns := [], harness := (true, "c078d777d068162c37ddc4ae09b1e0f4da77429c1f20e179beaeaf7056b91439"), looks := false }, kinds := [], alts := [], laidByText := true, laidKinds := [.data], laidTests := true, laidLooks := .later }
def FnExactShowWorldCardSaid : Prop := Claim7.holds Tryz.pinned (.plain (OpenSpec.ofChange fnExactShowWorldSpec)) fnExactShowWorldCard

/-- THE SECOND FORM's CARD OF 'laws.FnExactShowWorld'. -/
def fnExactShowWorldUptoCard : Claim7 := { stood := { row := fnExactShowWorldUptoRow, standIns := [], harness := (true, "c078d777d068162c37ddc4ae09b1e0f4da77429c1f20e179beaeaf7056b91439"), looks := false }, kinds := [], alts := [], laidByText := true, laidKinds := [.data], laidTests := true, laidLooks := .later }
def FnExactShowWorldUptoCardSaid : Prop := Claim7.holds Tryz.pinned (.plain (OpenSpec.upto fnExactShowWorldSpec)) fnExactShowWorldUptoCard
end Rows
end Go.Proofs.YtcbjlcgfhbfneaaGreatDoor
