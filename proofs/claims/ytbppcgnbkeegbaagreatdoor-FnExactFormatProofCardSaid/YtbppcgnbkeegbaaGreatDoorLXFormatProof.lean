/-
  PROVED: the law FnExactFormatProof, of its definition; and its contract. No condition.
-/
import Derived.Test.YtbppcgnbkeegbaaGreatDoorD1
import Derived.Test.YtbppcgnbkeegbaaGreatDoorC2
import Derived.Test.YtbppcgnbkeegbaaGreatDoorC4
namespace Go.Px.YtbppcgnbkeegbaaGreatDoor
set_option linter.unusedSimpArgs false
set_option linter.unusedVariables false
open Go.Px Go.Proofs
theorem w_FnExactFormatProof_true (b0 : TProject) (b1 : List TLine) (h0 : bTProject 9223372036854775807 b0) (h1 : b_l_eTLine 9223372036854775807 b1) : w_FnExactFormatProof b0 b1 = some true := by
  unfold w_FnExactFormatProof
  obtain ⟨m0, e0, q0⟩ := w_szProject_ok b0 h0 1048576 (by decide) (by decide)
  rw [e0, Option.bind_some]
  by_cases c0 : m0 < 0
  · simp [c0]
  have q0 := q0.resolve_left c0
  rw [show decide (m0 < 0) = false by simpa using c0, cond_false]
  obtain ⟨m1, e1, q1⟩ := w_szLineS_ok b1 h1 m0 (by omega) (by omega)
  rw [e1, Option.bind_some]
  by_cases c1 : m1 < 0
  · simp [c1]
  have q1 := q1.resolve_left c1
  rw [show decide (m1 < 0) = false by simpa using c1, cond_false]
  obtain ⟨v, ev1, ev2⟩ := core_FormatProof b0 b1 q0.2 q1.2
  simp only [w_toProject_eq b0 q0.2, w_toLineS_eq b1 q1.2, Option.bind_some, ev1, ev2, w_eqLineS_eq, w_eqProject_eq]
  simp [w_eqRule, ba_bne]
theorem row_FnExactFormatProof : ∀ ps, Vals [.agg [.int, .slice (.agg [.str, .int, .slice (.agg [.int, .slice .int, .slice .int])]), .slice (.agg [.int, .int, .bool, .int]), .slice (.agg [.slice (.agg [.int, .int]), .slice (.slice .int)]), .slice .int], .slice (.agg [.int, .agg [.int, .int, .int, .int], .slice (.agg [.int, .int, .int])])] ps → PC Tryz.prog 4 ps (bool true) := fun ps h => by
  have hv0 := h
  obtain ⟨x0, zs1, rfl, h0, hv1⟩ := vals_cons hv0
  obtain ⟨y0, rfl, b0⟩ := decb_TProject _ h0
  obtain ⟨x1, zs2, rfl, h1, hv2⟩ := vals_cons hv1
  obtain ⟨y1, rfl, b1⟩ := decb_l_eTLine _ h1
  obtain rfl := vals_nil hv2
  exact w_FnExactFormatProof_pc y0 y1 true (w_FnExactFormatProof_true y0 y1 b0 b1)
end Go.Px.YtbppcgnbkeegbaaGreatDoor
