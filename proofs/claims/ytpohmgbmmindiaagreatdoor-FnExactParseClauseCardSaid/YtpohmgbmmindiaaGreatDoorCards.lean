/-
  DERIVED. GIVEN WITH THE SEED: THE CARDS: each row of YtpohmgbmmindiaaGreatDoorRows.lean that lists a variable, with what it lists TIED to the program's text (the seventh form; the later family's looks); each row that meets fmt, with fmt's text TOLD by the authors' own Lean function (tested against real Go, not proved from fmt's source: count such statements apart). THE CARD IS WHAT COUNTS. Prove the row's statement (the work); the ties are given (YtpohmgbmmindiaaGreatDoorTie.lean); close each card by the builder's one call (the guide's Derived/Test/ToyasCard.lean, 'card_holds'). Laid BY PROGRAM, IN A SANDBOX (cutbox-door.mjs). By AI agents, Wed Nov 11 2026. No macro, syntax, notation, axiom, sorry.
-/
import Derived.Test.YtpohmgbmmindiaaGreatDoorRows
import GoSem.ClaimSeven
namespace Go.Proofs.YtpohmgbmmindiaaGreatDoor
namespace Rows

/-- THE TIED CARD OF 'laws.FnExactFormatLine'. -/
def fnExactFormatLineCard : Claim7 := { stood := { row := fnExactFormatLineRow, standIns := [], harness := (true, "b9e8de9cf04964cb2fc9e2cc836cb275c2224f720ae7602916fceb37e88963c6"), looks := true }, kinds := [], alts := [], laidByText := true, laidKinds := [.data, .data, .data, .data, .pinned], laidTests := true, laidLooks := .later }
def FnExactFormatLineCardSaid : Prop := Claim7.holds Tryz.pinned (.plain (OpenSpec.ofChange fnExactFormatLineSpec)) fnExactFormatLineCard

/-- THE TIED CARD OF 'laws.FnExactFormatProof'. -/
def fnExactFormatProofCard : Claim7 := { stood := { row := fnExactFormatProofRow, standIns := [], harness := (true, "b9e8de9cf04964cb2fc9e2cc836cb275c2224f720ae7602916fceb37e88963c6"), looks := true }, kinds := [], alts := [], laidByText := true, laidKinds := [.data, .data, .data, .data, .pinned], laidTests := true, laidLooks := .later }
def FnExactFormatProofCardSaid : Prop := Claim7.holds Tryz.pinned (.plain (OpenSpec.ofChange fnExactFormatProofSpec)) fnExactFormatProofCard

/-- THE TIED CARD OF 'laws.FnExactParseClause'. -/
def fnExactParseClauseCard : Claim7 := { stood := { row := fnExactParseClauseRow, standIns := [], harness := (true, "b9e8de9cf04964cb2fc9e2cc836cb275c2224f720ae7602916fceb37e88963c6"), looks := true }, kinds := [], alts := [], laidByText := true, laidKinds := [.data, .data, .data, .sentinel, .sentinel], laidTests := true, laidLooks := .later }
def FnExactParseClauseCardSaid : Prop := Claim7.holds Tryz.pinned (.plain (OpenSpec.ofChange fnExactParseClauseSpec)) fnExactParseClauseCard

/-- THE TIED CARD OF 'laws.FnExactFormatClause'. -/
def fnExactFormatClauseCard : Claim7 := { stood := { row := fnExactFormatClauseRow, standIns := [], harness := (true, "b9e8de9cf04964cb2fc9e2cc836cb275c2224f720ae7602916fceb37e88963c6"), looks := true }, kinds := [], alts := [], laidByText := true, laidKinds := [.data, .data, .data], laidTests := true, laidLooks := .later }
def FnExactFormatClauseCardSaid : Prop := Claim7.holds Tryz.pinned (.plain (OpenSpec.ofChange fnExactFormatClauseSpec)) fnExactFormatClauseCard

/-- THE SECOND FORM's CARD OF 'laws.FnExactFormatLine'. -/
def fnExactFormatLineUptoCard : Claim7 := { stood := { row := fnExactFormatLineUptoRow, standIns := [], harness := (true, "b9e8de9cf04964cb2fc9e2cc836cb275c2224f720ae7602916fceb37e88963c6"), looks := true }, kinds := [], alts := [], laidByText := true, laidKinds := [.data, .data, .data, .data, .pinned], laidTests := true, laidLooks := .later }
def FnExactFormatLineUptoCardSaid : Prop := Claim7.holds Tryz.pinned (.plain (OpenSpec.upto fnExactFormatLineSpec)) fnExactFormatLineUptoCard

/-- THE SECOND FORM's CARD OF 'laws.FnExactFormatProof'. -/
def fnExactFormatProofUptoCard : Claim7 := { stood := { row := fnExactFormatProofUptoRow, standIns := [], harness := (true, "b9e8de9cf04964cb2fc9e2cc836cb275c2224f720ae7602916fceb37e88963c6"), looks := true }, kinds := [], alts := [], laidByText := true, laidKinds := [.data, .data, .data, .data, .pinned], laidTests := true, laidLooks := .later }
def FnExactFormatProofUptoCardSaid : Prop := Claim7.holds Tryz.pinned (.plain (OpenSpec.upto fnExactFormatProofSpec)) fnExactFormatProofUptoCard

/-- THE SECOND FORM's CARD OF 'laws.FnExactParseClause'. -/
def fnExactParseClauseUptoCard : Claim7 := { stood := { row := fnExactParseClauseUptoRow, standIns := [], harness := (true, "b9e8de9cf04964cb2fc9e2cc836cb275c2224f720ae7602916fceb37e88963c6"), looks := true }, kinds := [], alts := [], laidByText := true, laidKinds := [.data, .data, .data, .sentinel, .sentinel], laidTests := true, laidLooks := .later }
def FnExactParseClauseUptoCardSaid : Prop := Claim7.holds Tryz.pinned (.plain (OpenSpec.upto fnExactParseClauseSpec)) fnExactParseClauseUptoCard

/-- THE SECOND FORM's CARD OF 'laws.FnExactFormatClause'. -/
def fnExactFormatClauseUptoCard : Claim7 := { stood := { row := fnExactFormatClauseUptoRow, standIns := [], harness := (true, "b9e8de9cf04964cb2fc9e2cc836cb275c2224f720ae7602916fceb37e88963c6"), looks := true }, kinds := [], alts := [], laidByText := true, laidKinds := [.data, .data, .data], laidTests := true, laidLooks := .later }
def FnExactFormatClauseUptoCardSaid : Prop := Claim7.holds Tryz.pinned (.plain (OpenSpec.upto fnExactFormatClauseSpec)) fnExactFormatClauseUptoCard
end Rows
end Go.Proofs.YtpohmgbmmindiaaGreatDoor
