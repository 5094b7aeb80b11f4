/-
  DERIVED. GIVEN WITH THE SEED: THE CARDS: each row of YtbppcgnbkeegbaaGreatDoorRows.lean that lists a variable, with what it lists TIED to the program's text (the seventh form; the later family's looks); each row that meets fmt, with fmt's text TOLD by the authors' own Lean function (tested against real Go, not proved from fmt's source: count such statements apart). THE CARD IS WHAT COUNTS. Prove the row's statement (the work); the ties are given (YtbppcgnbkeegbaaGreatDoorTie.lean); close each card by the builder's one call (the guide's Derived/Test/ToyasCard.lean, 'card_holds'). Laid BY PROGRAM, IN A SANDBOX (cutbox-door.mjs). By AI agents, Wed Nov 11 2026. No macro, syntax, notation, axiom, sorry.
-/
import Derived.Test.YtbppcgnbkeegbaaGreatDoorRows
import GoSem.ClaimSeven
namespace Go.Proofs.YtbppcgnbkeegbaaGreatDoor
namespace Rows

/-- THE TIED CARD OF 'laws.FnExactFormatLine'. -/
def fnExactFormatLineCard : Claim7 := { stood := { row := fnExactFormatLineRow, standIns := [], harness := (true, "f6d24d809c0e9764f16a7c2285384dc7b42cf28238c0acd8a211db0b07502236"), looks := false }, kinds := [], alts := [], laidByText := true, laidKinds := [.data, .data, .data, .data, .pinned], laidTests := true, laidLooks := .later }
def FnExactFormatLineCardSaid : Prop := Claim7.holds Tryz.pinned (.plain (OpenSpec.ofChange fnExactFormatLineSpec)) fnExactFormatLineCard

/-- THE TIED CARD OF 'laws.FnExactFormatProof'. -/
def fnExactFormatProofCard : Claim7 := { stood := { row := fnExactFormatProofRow, standIns := [], harness := (true, "f6d24d809c0e9764f16a7c2285384dc7b42cf28238c0acd8a211db0b07502236"), looks := false }, kinds := [], alts := [], laidByText := true, laidKinds := [.data, .data, .data, .data, .pinned], laidTests := true, laidLooks := .later }
def FnExactFormatProofCardSaid : Prop := Claim7.holds Tryz.pinned (.plain (OpenSpec.ofChange fnExactFormatProofSpec)) fnExactFormatProofCard

/-- THE SECOND FORM's CARD OF 'laws.FnExactFormatLine'. -/
def fnExactFormatLineUptoCard : Claim7 := { stood := { row := fnExactFormatLineUptoRow, standIns := [], harness := (true, "f6d24d809c0e9764f16a7c2285384dc7b42cf28238c0acd8a211db0b07502236"), looks := false }, kinds := [], alts := [], laidByText := true, laidKinds := [.data, .data, .data, .data, .pinned], laidTests := true, laidLooks := .later }
def FnExactFormatLineUptoCardSaid : Prop := Claim7.holds Tryz.pinned (.plain (OpenSpec.upto fnExactFormatLineSpec)) fnExactFormatLineUptoCard

/-- THE SECOND FORM's CARD OF 'laws.FnExactFormatProof'. -/
def fnExactFormatProofUptoCard : Claim7 := { stood := { row := fnExactFormatProofUptoRow, standIns := [], harness := (true, "f6d24d809c0e9764f16a7c2285384dc7b42cf28238c0acd8a211db0b07502236"), looks := false }, kinds := [], alts := [], laidByText := true, laidKinds := [.data, .data, .data, .data, .pinned], laidTests := true, laidLooks := .later }
def FnExactFormatProofUptoCardSaid : Prop := Claim7.holds Tryz.pinned (.plain (OpenSpec.upto fnExactFormatProofSpec)) fnExactFormatProofUptoCard
end Rows
end Go.Proofs.YtbppcgnbkeegbaaGreatDoor
