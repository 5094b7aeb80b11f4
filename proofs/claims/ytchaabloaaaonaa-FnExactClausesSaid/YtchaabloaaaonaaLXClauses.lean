/-
  PROVED: the law FnExactClauses, of its definition; and its contract. No condition.
-/
import Derived.Test.YtchaabloaaaonaaD1
import Derived.Test.YtchaabloaaaonaaC1
namespace Go.Px.Ytchaabloaaaonaa
set_option linter.unusedSimpArgs false
set_option linter.unusedVariables false
open Go.Px Go.Proofs
theorem w_FnExactClauses_true (b0 : List TLine) (h0 : b_l_eTLine 9223372036854775807 b0) : w_FnExactClauses b0 = some true := by
  unfold w_FnExactClauses
  obtain ⟨m0, e0, q0⟩ := w_szLineS_ok b0 h0 1048576 (by decide) (by decide)
  rw [e0, Option.bind_some]
  by_cases c0 : m0 < 0
  · simp [c0]
  have q0 := q0.resolve_left c0
  rw [show decide (m0 < 0) = false by simpa using c0, cond_false]
  obtain ⟨v, ev1, ev2, hv⟩ := core_Clauses b0 q0.2
  obtain ⟨k0, ek0, lk0, uk0⟩ := w_markLineS_k_ok b0 q0.2 1 (by omega) (by omega)
  have hk : ¬ k0 < 0 := by omega
  obtain ⟨mk, y1, er1, er2, er3, er4⟩ := w_markLiteralSS_res v hv 1 (by omega) (by omega)
  have hm : ¬ mk < 0 := by omega
  simp only [w_toLineS_eq b0 q0.2, Option.bind_some, ev1, ev2, w_eqLineS_eq, w_eqLiteralSS_eq, ek0, er1, er2, decide_true, Bool.not_true, cond_false]
  simp [hk, hm]
theorem row_FnExactClauses : ∀ ps, Vals [.slice (.agg [.int, .agg [.int, .int, .int, .int], .slice (.agg [.int, .int, .int])])] ps → PC Try.prog 3 ps (bool true) := fun ps h => by
  have hv0 := h
  obtain ⟨x0, zs1, rfl, h0, hv1⟩ := vals_cons hv0
  obtain ⟨y0, rfl, b0⟩ := decb_l_eTLine _ h0
  obtain rfl := vals_nil hv1
  exact w_FnExactClauses_pc y0 true (w_FnExactClauses_true y0 b0)
end Go.Px.Ytchaabloaaaonaa
