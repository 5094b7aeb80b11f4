/-
  PROVED: the law FnExactIntervals, of its definition; and its contract. No condition.
-/
import Derived.Test.YtchaabloaaaonaaGreatD1
import Derived.Test.YtchaabloaaaonaaGreatC2
namespace Go.Px.YtchaabloaaaonaaGreat
set_option linter.unusedSimpArgs false
set_option linter.unusedVariables false
open Go.Px Go.Proofs
theorem w_FnExactIntervals_true (b0 : TProject) (b1 : TDomain) (h0 : bTProject 9223372036854775807 b0) (h1 : bTDomain 9223372036854775807 b1) : w_FnExactIntervals b0 b1 = some true := by
  unfold w_FnExactIntervals
  obtain ⟨m0, e0, q0⟩ := w_szProject_ok b0 h0 1048576 (by decide) (by decide)
  rw [e0, Option.bind_some]
  by_cases c0 : m0 < 0
  · simp [c0]
  have q0 := q0.resolve_left c0
  rw [show decide (m0 < 0) = false by simpa using c0, cond_false]
  obtain ⟨m1, e1, q1⟩ := w_szDomain_ok b1 h1 m0 (by omega) (by omega)
  rw [e1, Option.bind_some]
  by_cases c1 : m1 < 0
  · simp [c1]
  have q1 := q1.resolve_left c1
  rw [show decide (m1 < 0) = false by simpa using c1, cond_false]
  obtain ⟨v, ev1, ev2, hv⟩ := core_Intervals b0 b1 q0.2 q1.2
  obtain ⟨k0, ek0, lk0, uk0⟩ := w_markProject_k_ok b0 q0.2 1 (by omega) (by omega)
  obtain ⟨k1, ek1, lk1, uk1⟩ := w_markDomain_k_ok b1 q1.2 k0 (by omega) (by omega)
  have hk : ¬ k1 < 0 := by omega
  obtain ⟨mk, y1, er1, er2, er3, er4⟩ := w_markIntSS_res v hv 1 (by omega) (by omega)
  have hm : ¬ mk < 0 := by omega
  simp only [w_toProject_eq b0 q0.2, w_toDomain_eq b1 q1.2, Option.bind_some, ev1, ev2, w_eqDomain_eq, w_eqIntSS_eq, w_eqProject_eq, ek0, ek1, er1, er2, decide_true, Bool.not_true, cond_false]
  simp [hk, hm]
theorem row_FnExactIntervals : ∀ ps, Vals [.agg [.int, .slice (.agg [.str, .int, .slice (.agg [.int, .slice .int, .slice .int])]), .slice (.agg [.int, .int, .bool, .int]), .slice (.agg [.slice (.agg [.int, .int]), .slice (.slice .int)]), .slice .int], .agg [.slice .int, .slice .int, .slice (.slice .int)]] ps → PC Tryz.prog 3 ps (bool true) := fun ps h => by
  have hv0 := h
  obtain ⟨x0, zs1, rfl, h0, hv1⟩ := vals_cons hv0
  obtain ⟨y0, rfl, b0⟩ := decb_TProject _ h0
  obtain ⟨x1, zs2, rfl, h1, hv2⟩ := vals_cons hv1
  obtain ⟨y1, rfl, b1⟩ := decb_TDomain _ h1
  obtain rfl := vals_nil hv2
  exact w_FnExactIntervals_pc y0 y1 true (w_FnExactIntervals_true y0 y1 b0 b1)
end Go.Px.YtchaabloaaaonaaGreat
