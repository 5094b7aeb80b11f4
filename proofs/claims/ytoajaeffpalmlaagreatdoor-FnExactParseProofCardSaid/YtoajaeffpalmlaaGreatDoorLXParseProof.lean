/-
  PROVED: the law FnExactParseProof, of its definition; and its contract. No condition.
-/
import Derived.Test.YtoajaeffpalmlaaGreatDoorD2
import Derived.Test.YtoajaeffpalmlaaGreatDoorC3
namespace Go.Px.YtoajaeffpalmlaaGreatDoor
set_option linter.unusedSimpArgs false
set_option linter.unusedVariables false
open Go.Px Go.Proofs
theorem w_FnExactParseProof_true (b0 : TProject) (b1 : ByteArray) (h0 : bTProject 9223372036854775807 b0) (h1 : b_str 9223372036854775807 b1) : w_FnExactParseProof b0 b1 = some true := by
  unfold w_FnExactParseProof
  by_cases c1 : (1048576 : Int) < (b1.size : Int)
  · simp [c1]
  rw [show decide ((1048576 : Int) < (b1.size : Int)) = false by simpa using c1, cond_false]
  obtain ⟨m0, e0, q0⟩ := w_szProject_ok b0 h0 1048576 (by decide) (by decide)
  rw [e0, Option.bind_some]
  by_cases c0 : m0 < 0
  · simp [c0]
  have q0 := q0.resolve_left c0
  rw [show decide (m0 < 0) = false by simpa using c0, cond_false]
  obtain ⟨v, ev1, ev2, hv⟩ := core_ParseProof b0 b1 q0.2 (by omega)
  obtain ⟨k0, ek0, lk0, uk0⟩ := w_markProject_k_ok b0 q0.2 1 (by omega) (by omega)
  have hk : ¬ k0 < 0 := by omega
  obtain ⟨mk, y1, er1, er2, er3, er4⟩ := w_markLineS_res v.1 hv 1 (by omega) (by omega)
  have hm : ¬ mk < 0 := by omega
  simp only [w_toProject_eq b0 q0.2, Option.bind_some, ev1, ev2, w_eqLineS_eq, w_eqProject_eq, ek0, er1, er2, decide_true, Bool.not_true, cond_false]
  simp [hk, hm]
theorem row_FnExactParseProof : ∀ ps, Vals [.agg [.int, .slice (.agg [.str, .int, .slice (.agg [.int, .slice .int, .slice .int])]), .slice (.agg [.int, .int, .bool, .int]), .slice (.agg [.slice (.agg [.int, .int]), .slice (.slice .int)]), .slice .int], .str] ps → PC Tryz.prog 3 ps (bool true) := fun ps h => by
  have hv0 := h
  obtain ⟨x0, zs1, rfl, h0, hv1⟩ := vals_cons hv0
  obtain ⟨y0, rfl, b0⟩ := decb_TProject _ h0
  obtain ⟨x1, zs2, rfl, h1, hv2⟩ := vals_cons hv1
  obtain ⟨y1, rfl, b1⟩ := decb_str _ h1
  obtain rfl := vals_nil hv2
  exact w_FnExactParseProof_pc y0 y1 true (w_FnExactParseProof_true y0 y1 b0 b1)
end Go.Px.YtoajaeffpalmlaaGreatDoor
