/-
  PROVED: the law FnExactFormatBounds, of its definition; and its contract. No condition.
-/
import Derived.Test.YthmahbejodhanaaGreatDoorD2
import Derived.Test.YthmahbejodhanaaGreatDoorC3
namespace Go.Px.YthmahbejodhanaaGreatDoor
set_option linter.unusedSimpArgs false
set_option linter.unusedVariables false
open Go.Px Go.Proofs
theorem w_FnExactFormatBounds_true (b0 : A0b) (h0 : D0a 9223372036854775807 b0) : w_FnExactFormatBounds b0 = some true := by
  unfold w_FnExactFormatBounds
  obtain ⟨m0, e0, q0⟩ := F1g b0 h0 1048576 (by decide) (by decide)
  rw [e0, Option.bind_some]
  by_cases c0 : m0 < 0
  · simp [c0]
  have q0 := q0.resolve_left c0
  rw [show decide (m0 < 0) = false by simpa using c0, cond_false]
  obtain ⟨v, ev1, ev2⟩ := A1k b0 q0.2
  simp only [F1j b0 q0.2, Option.bind_some, ev1, ev2, F1k]
  simp [E1d]
theorem row_FnExactFormatBounds : ∀ ps, Vals [.agg [.int, .slice (.agg [.str, .int, .slice (.agg [.int, .slice .int, .slice .int])]), .slice (.agg [.int, .int, .bool, .int]), .slice (.agg [.slice (.agg [.int, .int]), .slice (.slice .int)]), .slice .int]] ps → PC Tryz.prog 3 ps (bool true) := fun ps h => by
  have hv0 := h
  obtain ⟨x0, zs1, rfl, h0, hv1⟩ := D0m hv0
  obtain ⟨y0, rfl, b0⟩ := H1e _ h0
  obtain rfl := U0a hv1
  exact w_FnExactFormatBounds_pc y0 true (w_FnExactFormatBounds_true y0 b0)
end Go.Px.YthmahbejodhanaaGreatDoor
