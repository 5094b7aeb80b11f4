/-
  PROVED: the law FnExactNewClause, of its definition; and its contract. No condition.
-/
import Derived.Test.YtdlklmdnmoipcaaD1
import Derived.Test.YtdlklmdnmoipcaaC1
import Derived.Test.YtdlklmdnmoipcaaC2
namespace Go.Px.Ytdlklmdnmoipcaa
set_option linter.unusedSimpArgs false
set_option linter.unusedVariables false
open Go.Px Go.Proofs
theorem w_FnExactNewClause_true (b0 : List TLiteral) (h0 : b_l_eTLiteral 9223372036854775807 b0) : w_FnExactNewClause b0 = some true := by
  unfold w_FnExactNewClause
  obtain ⟨m0, e0, q0⟩ := w_szLiteralS_ok b0 h0 1048576 (by decide) (by decide)
  rw [e0, Option.bind_some]
  by_cases c0 : m0 < 0
  · simp [c0]
  have q0 := q0.resolve_left c0
  rw [show decide (m0 < 0) = false by simpa using c0, cond_false]
  obtain ⟨v, ev1, ev2, hv⟩ := core_NewClause b0 q0.2
  obtain ⟨k0, ek0, lk0, uk0⟩ := w_markLiteralS_k_ok b0 q0.2 1 (by omega) (by omega)
  have hk : ¬ k0 < 0 := by omega
  obtain ⟨mk, y1, er1, er2, er3, er4⟩ := w_markLiteralS_res v hv 1 (by omega) (by omega)
  have hm : ¬ mk < 0 := by omega
  simp only [w_toLiteralS_eq b0 q0.2, Option.bind_some, ev1, ev2, w_eqLiteralS_eq, ek0, er1, er2, decide_true, Bool.not_true, cond_false]
  simp [hk, hm]
theorem row_FnExactNewClause : ∀ ps, Vals [.slice (.agg [.int, .int, .int])] ps → PC Try.prog 3 ps (bool true) := fun ps h => by
  have hv0 := h
  obtain ⟨x0, zs1, rfl, h0, hv1⟩ := vals_cons hv0
  obtain ⟨y0, rfl, b0⟩ := decb_l_eTLiteral _ h0
  obtain rfl := vals_nil hv1
  exact w_FnExactNewClause_pc y0 true (w_FnExactNewClause_true y0 b0)
end Go.Px.Ytdlklmdnmoipcaa
