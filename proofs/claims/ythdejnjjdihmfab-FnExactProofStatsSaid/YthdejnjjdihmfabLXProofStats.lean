/-
  PROVED: the law FnExactProofStats, of its definition; and its contract. No condition.
-/
import Derived.Test.YthdejnjjdihmfabP1
import Derived.Test.YthdejnjjdihmfabC1
namespace Go.Px.Ythdejnjjdihmfab
set_option linter.unusedSimpArgs false
set_option linter.unusedVariables false
open Go.Px Go.Proofs
theorem w_FnExactProofStats_true (b0 : List TLine) (h0 : b_l_eTLine 9223372036854775807 b0) : w_FnExactProofStats b0 = some true := by
  unfold w_FnExactProofStats
  obtain ⟨m0, e0, q0⟩ := w_szLineS_ok b0 h0 1048576 (by decide) (by decide)
  rw [e0, Option.bind_some]
  by_cases c0 : m0 < 0
  · simp [c0]
  have q0 := q0.resolve_left c0
  rw [show decide (m0 < 0) = false by simpa using c0, cond_false]
  obtain ⟨v, ev1, ev2, hv⟩ := core_ProofStats b0
  obtain ⟨k0, ek0, lk0, uk0⟩ := w_markLineS_k_ok b0 q0.2 1 (by omega) (by omega)
  have hk : ¬ k0 < 0 := by omega
  obtain ⟨mk, ys, er1, er2, er3⟩ := w_markIntS_res v hv
  have hm : ¬ mk < 0 := by omega
  simp only [w_toLineS_eq b0 q0.2, Option.bind_some, ev1, ev2, w_eqIntS_eq, w_eqLineS_eq, ek0, er1, er2, decide_true, Bool.not_true, cond_false]
  simp [hk, hm]
theorem row_FnExactProofStats : ∀ ps, Vals [.slice (.agg [.int, .agg [.int, .int, .int, .int], .slice (.agg [.int, .int, .int])])] ps → PC Try.prog 3 ps (bool true) := fun ps h => by
  have hv0 := h
  obtain ⟨x0, zs1, rfl, h0, hv1⟩ := vals_cons hv0
  obtain ⟨y0, rfl, b0⟩ := decb_l_eTLine _ h0
  obtain rfl := vals_nil hv1
  exact w_FnExactProofStats_pc y0 true (w_FnExactProofStats_true y0 b0)
end Go.Px.Ythdejnjjdihmfab
