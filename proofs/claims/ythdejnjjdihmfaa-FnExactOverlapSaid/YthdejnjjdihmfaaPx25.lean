/-
  PROVED: from the contract of a law's function to the law's row: arguments of one cell. Over any program. No condition beyond those that each theorem names.
-/
import Derived.Test.YthdejnjjdihmfaaPx24
namespace Go.Px
set_option linter.unusedSimpArgs false
set_option linter.unusedVariables false
open Go.RowKit
theorem PC.lits {P : Program} {f : FuncId} (vals : List Value) (ho : ∀ v ∈ vals, v.oneCell' = true) (h : PC P f (vals.map .lit) (.lit (.bool true))) (w : World) :
    Calls P f vals.toArray w fun e w' => e = .returned (.bool true) ∧ Below w.heap.size w w' := by
  refine (h.2 w (fun _ _ => False) vals (fun _ _ h => h.elim) (by simp) (fun i p v hp hv => ?_)).mono ?_
  · rw [List.getElem?_map, hv] at hp
    cases hp
    exact .lit v (ho v (List.mem_of_getElem? hv))
  · rintro e w' ⟨v, rfl, hb, pub', gs, _, _, _, hr, _⟩
    cases hr with
    | pure _ _ h => cases h; exact ⟨rfl, hb⟩
end Go.Px
