/-
  PROVED: the law FnExactChooseMode, of its definition; and its contract. No condition.
-/
import Derived.Test.YtjncefleglnnjaaP1
import Derived.Test.YtjncefleglnnjaaC1
import Derived.Test.YtjncefleglnnjaaC2
import Derived.Test.YtjncefleglnnjaaC7
import Derived.Test.YtjncefleglnnjaaC14
namespace Go.Px.Ytjncefleglnnjaa
set_option linter.unusedSimpArgs false
set_option linter.unusedVariables false
open Go.Px Go.Proofs
theorem w_FnExactChooseMode_true (b0 : TProject) (b1 : Int) (b2 : Bool) (h0 : bTProject 9223372036854775807 b0) : w_FnExactChooseMode b0 b1 b2 = some true := by
  unfold w_FnExactChooseMode
  obtain ⟨m0, e0, q0⟩ := w_szProject_ok b0 h0 1048576 (by decide) (by decide)
  rw [e0, Option.bind_some]
  by_cases c0 : m0 < 0
  · simp [c0]
  have q0 := q0.resolve_left c0
  rw [show decide (m0 < 0) = false by simpa using c0, cond_false]
  obtain ⟨v, ev1, ev2⟩ := core_ChooseMode b0 b1 b2 q0.2
  simp only [w_toProject_eq b0 q0.2, Option.bind_some, ev1, ev2, w_eqProject_eq]
  simp
theorem row_FnExactChooseMode : ∀ ps, Vals [.agg [.int, .slice (.agg [.str, .int, .slice (.agg [.int, .slice .int, .slice .int])]), .slice (.agg [.int, .int, .bool, .int]), .slice (.agg [.slice (.agg [.int, .int]), .slice (.slice .int)]), .slice .int], .int, .bool] ps → PC Try.prog 4 ps (bool true) := fun ps h => by
  have hv0 := h
  obtain ⟨x0, zs1, rfl, h0, hv1⟩ := vals_cons hv0
  obtain ⟨y0, rfl, b0⟩ := decb_TProject _ h0
  obtain ⟨x1, zs2, rfl, h1, hv2⟩ := vals_cons hv1
  obtain ⟨y1, rfl, b1⟩ := decb_int _ h1
  obtain ⟨x2, zs3, rfl, h2, hv3⟩ := vals_cons hv2
  obtain ⟨y2, rfl, b2⟩ := decb_bool _ h2
  obtain rfl := vals_nil hv3
  exact w_FnExactChooseMode_pc y0 y1 y2 true (w_FnExactChooseMode_true y0 y1 y2 b0)
end Go.Px.Ytjncefleglnnjaa
