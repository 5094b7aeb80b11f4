/-
  PROVED: the law FnExactWorkBound, of its definition; and its contract. No condition.
-/
import Derived.Test.YtimegoembedagaaGreatD1
import Derived.Test.YtimegoembedagaaGreatC2
namespace Go.Px.YtimegoembedagaaGreat
set_option linter.unusedSimpArgs false
set_option linter.unusedVariables false
open Go.Px Go.Proofs
theorem w_FnExactWorkBound_true (b0 : TProject) (h0 : bTProject 9223372036854775807 b0) : w_FnExactWorkBound b0 = some true := by
  unfold w_FnExactWorkBound
  obtain ⟨m0, e0, q0⟩ := w_szProject_ok b0 h0 1048576 (by decide) (by decide)
  rw [e0, Option.bind_some]
  by_cases c0 : m0 < 0
  · simp [c0]
  have q0 := q0.resolve_left c0
  rw [show decide (m0 < 0) = false by simpa using c0, cond_false]
  obtain ⟨v, ev1, ev2⟩ := core_WorkBound b0 q0.2
  simp only [w_toProject_eq b0 q0.2, Option.bind_some, ev1, ev2, w_eqProject_eq]
  simp [ba_bne]
theorem row_FnExactWorkBound : ∀ ps, Vals [.agg [.int, .slice (.agg [.str, .int, .slice (.agg [.int, .slice .int, .slice .int])]), .slice (.agg [.int, .int, .bool, .int]), .slice (.agg [.slice (.agg [.int, .int]), .slice (.slice .int)]), .slice .int]] ps → PC Tryz.prog 3 ps (bool true) := fun ps h => by
  have hv0 := h
  obtain ⟨x0, zs1, rfl, h0, hv1⟩ := vals_cons hv0
  obtain ⟨y0, rfl, b0⟩ := decb_TProject _ h0
  obtain rfl := vals_nil hv1
  exact w_FnExactWorkBound_pc y0 true (w_FnExactWorkBound_true y0 b0)
end Go.Px.YtimegoembedagaaGreat
