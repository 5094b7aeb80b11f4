/-
  PROVED: the law FnExactPriorityOrder, of its definition; and its contract. No condition.
-/
import Derived.Test.YtimegoembedagaaGreatD1
import Derived.Test.YtimegoembedagaaGreatC3
namespace Go.Px.YtimegoembedagaaGreat
set_option linter.unusedSimpArgs false
set_option linter.unusedVariables false
open Go.Px Go.Proofs
theorem w_FnExactPriorityOrder_true (b0 : A0d) (b1 : Int) (h0 : H0b 9223372036854775807 b0) : w_FnExactPriorityOrder b0 b1 = some true := by
  unfold w_FnExactPriorityOrder
  obtain ⟨m0, e0, q0⟩ := A1k b0 h0 1048576 (by decide) (by decide)
  rw [e0, Option.bind_some]
  by_cases c0 : m0 < 0
  · simp [c0]
  have q0 := q0.resolve_left c0
  rw [show decide (m0 < 0) = false by simpa using c0, cond_false]
  obtain ⟨v, ev1, ev2, hv⟩ := V0i b0 b1 q0.2
  obtain ⟨k0, ek0, lk0, uk0⟩ := U0m b0 q0.2 1 (by omega) (by omega)
  have hk : ¬ k0 < 0 := by omega
  obtain ⟨mk, y1, er1, er2, er3, er4⟩ := A1f v hv 1 (by omega) (by omega)
  have hm : ¬ mk < 0 := by omega
  simp only [A1h b0 q0.2, Option.bind_some, ev1, ev2, N0o, A1d, ek0, er1, er2, decide_true, Bool.not_true, cond_false]
  simp [hk, hm]
theorem row_FnExactPriorityOrder : ∀ ps, Vals [.agg [.int, .slice (.agg [.str, .int, .slice (.agg [.int, .slice .int, .slice .int])]), .slice (.agg [.int, .int, .bool, .int]), .slice (.agg [.slice (.agg [.int, .int]), .slice (.slice .int)]), .slice .int], .int] ps → PC Tryz.prog 4 ps (bool true) := fun ps h => by
  have hv0 := h
  obtain ⟨x0, zs1, rfl, h0, hv1⟩ := C0q hv0
  obtain ⟨y0, rfl, b0⟩ := B1o _ h0
  obtain ⟨x1, zs2, rfl, h1, hv2⟩ := C0q hv1
  obtain ⟨y1, rfl, b1⟩ := L0u _ h1
  obtain rfl := Q0p hv2
  exact w_FnExactPriorityOrder_pc y0 y1 true (w_FnExactPriorityOrder_true y0 y1 b0)
end Go.Px.YtimegoembedagaaGreat
