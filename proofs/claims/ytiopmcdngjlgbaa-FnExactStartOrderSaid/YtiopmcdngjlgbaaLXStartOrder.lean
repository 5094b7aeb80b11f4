/-
  PROVED: the law FnExactStartOrder, of its definition; and its contract. No condition.
-/
import Derived.Test.YtiopmcdngjlgbaaP1
import Derived.Test.YtiopmcdngjlgbaaC1
namespace Go.Px.Ytiopmcdngjlgbaa
set_option linter.unusedSimpArgs false
set_option linter.unusedVariables false
open Go.Px Go.Proofs
theorem w_FnExactStartOrder_true (b0 : TSchedule) (h0 : bTSchedule 9223372036854775807 b0) : w_FnExactStartOrder b0 = some true := by
  unfold w_FnExactStartOrder
  obtain ⟨m0, e0, q0⟩ := w_szSchedule_ok b0 h0 1048576 (by decide) (by decide)
  rw [e0, Option.bind_some]
  by_cases c0 : m0 < 0
  · simp [c0]
  have q0 := q0.resolve_left c0
  rw [show decide (m0 < 0) = false by simpa using c0, cond_false]
  obtain ⟨v, ev1, ev2, hv⟩ := core_StartOrder b0 q0.2
  obtain ⟨k0, ek0, lk0, uk0⟩ := w_markSchedule_k_ok b0 q0.2 1 (by omega) (by omega)
  have hk : ¬ k0 < 0 := by omega
  obtain ⟨mk, y1, er1, er2, er3, er4⟩ := w_markIntS_res v hv 1 (by omega) (by omega)
  have hm : ¬ mk < 0 := by omega
  simp only [w_toSchedule_eq b0 q0.2, Option.bind_some, ev1, ev2, w_eqIntS_eq, w_eqSchedule_eq, ek0, er1, er2, decide_true, Bool.not_true, cond_false]
  simp [hk, hm]
theorem row_FnExactStartOrder : ∀ ps, Vals [.agg [.slice .int, .slice .int]] ps → PC Try.prog 3 ps (bool true) := fun ps h => by
  have hv0 := h
  obtain ⟨x0, zs1, rfl, h0, hv1⟩ := vals_cons hv0
  obtain ⟨y0, rfl, b0⟩ := decb_TSchedule _ h0
  obtain rfl := vals_nil hv1
  exact w_FnExactStartOrder_pc y0 true (w_FnExactStartOrder_true y0 b0)
end Go.Px.Ytiopmcdngjlgbaa
