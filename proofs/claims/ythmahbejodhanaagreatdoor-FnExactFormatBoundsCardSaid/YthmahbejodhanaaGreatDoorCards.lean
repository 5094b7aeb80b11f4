/-
  DERIVED. GIVEN WITH THE SEED: THE CARDS: each row of YthmahbejodhanaaGreatDoorRows.lean that lists a variable, with what it lists TIED to the program's text (the seventh form; the later family's looks); each row that meets fmt, with fmt's text TOLD by the authors' own Lean function (tested against real Go, not proved from fmt's source: count such statements apart). THE CARD IS WHAT COUNTS. Prove the row's statement (the work); the ties are given (YthmahbejodhanaaGreatDoorTie.lean); close each card by the builder's one call (the guide's Derived/Test/ToyasCard.lean, 'card_holds'). Laid BY PROGRAM, IN A SANDBOX (cutbox-door.mjs). By AI agents, Wed Nov 11 2026. No macro, syntax, notation, axiom, sorry.
-/
import Derived.Test.YthmahbejodhanaaGreatDoorRows
import GoSem.ClaimSeven
namespace Go.Proofs.YthmahbejodhanaaGreatDoor
namespace Rows

/-- THE TIED CARD OF 'laws.FnExactFormatBounds'. -/
def fnExactFormatBoundsCard : Claim7 := { stood := { row := fnExactFormatBoundsRow, standIns := [], harness := (true, "8a048f36cf845b0aa1f5c25cbdb93845ea4ae4c5e36a8d76776487e854c382de"), looks := false }, kinds := [], alts := [], laidByText := true, laidKinds := [.data, .data, .data], laidTests := true, laidLooks := .later }
def FnExactFormatBoundsCardSaid : Prop := Claim7.holds Tryz.pinned (.plain (OpenSpec.ofChange fnExactFormatBoundsSpec)) fnExactFormatBoundsCard

/-- THE SECOND FORM's CARD OF 'laws.FnExactFormatBounds'. -/
def fnExactFormatBoundsUptoCard : Claim7 := { stood := { row := fnExactFormatBoundsUptoRow, standIns := [], harness := (true, "8a048f36cf845b0aa1f5c25cbdb93845ea4ae4c5e36a8d76776487e854c382de"), looks := false }, kinds := [], alts := [], laidByText := true, laidKinds := [.data, .data, .data], laidTests := true, laidLooks := .later }
def FnExactFormatBoundsUptoCardSaid : Prop := Claim7.holds Tryz.pinned (.plain (OpenSpec.upto fnExactFormatBoundsSpec)) fnExactFormatBoundsUptoCard
end Rows
end Go.Proofs.YthmahbejodhanaaGreatDoor
