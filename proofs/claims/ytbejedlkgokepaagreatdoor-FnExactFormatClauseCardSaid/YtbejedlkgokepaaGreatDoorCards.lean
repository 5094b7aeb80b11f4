/-
  DERIVED. GIVEN WITH THE SEED: THE CARDS: each row of YtbejedlkgokepaaGreatDoorRows.lean that lists a variable, with what it lists TIED to the program's text (the seventh form; the later family's looks); each row that meets fmt, with fmt's text TOLD by the authors' own Lean function (tested against real Go, not proved from fmt's source: count such statements apart). THE CARD IS WHAT COUNTS. Prove the row's statement (the work); the ties are given (YtbejedlkgokepaaGreatDoorTie.lean); close each card by the builder's one call (the guide's Derived/Test/ToyasCard.lean, 'card_holds'). Laid BY PROGRAM, IN A SANDBOX (cutbox-door.mjs). By AI agents, Wed Nov 11 2026. No macro, syntax, notation, axiom, sorry.
-/
import Derived.Test.YtbejedlkgokepaaGreatDoorRows
import GoSem.ClaimSeven
namespace Go.Proofs.YtbejedlkgokepaaGreatDoor
namespace Rows

/-- THE TIED CARD OF 'laws.FnExactFormatClause'. -/
def fnExactFormatClauseCard : Claim7 := { stood := { row := fnExactFormatClauseRow, standIns := [], harness := (true, "30fb2b415014662d4c4d536ce2a783ebce5ea5745e5d286d21cebc4a4647b8ce"), looks := false }, kinds := [], alts := [], laidByText := true, laidKinds := [.data, .data, .data], laidTests := true, laidLooks := .later }
def FnExactFormatClauseCardSaid : Prop := Claim7.holds Tryz.pinned (.plain (OpenSpec.ofChange fnExactFormatClauseSpec)) fnExactFormatClauseCard

/-- THE SECOND FORM's CARD OF 'laws.FnExactFormatClause'. -/
def fnExactFormatClauseUptoCard : Claim7 := { stood := { row := fnExactFormatClauseUptoRow, standIns := [], harness := (true, "30fb2b415014662d4c4d536ce2a783ebce5ea5745e5d286d21cebc4a4647b8ce"), looks := false }, kinds := [], alts := [], laidByText := true, laidKinds := [.data, .data, .data], laidTests := true, laidLooks := .later }
def FnExactFormatClauseUptoCardSaid : Prop := Claim7.holds Tryz.pinned (.plain (OpenSpec.upto fnExactFormatClauseSpec)) fnExactFormatClauseUptoCard
end Rows
end Go.Proofs.YtbejedlkgokepaaGreatDoor
