/-
  PROVED: the law FnExactResolve, of its definition; and its contract. No condition.
-/
import Derived.Test.YtdlklmdnmoipcaaD1
import Derived.Test.YtdlklmdnmoipcaaC1
import Derived.Test.YtdlklmdnmoipcaaC3
namespace Go.Px.Ytdlklmdnmoipcaa
set_option linter.unusedSimpArgs false
set_option linter.unusedVariables false
open Go.Px Go.Proofs
theorem w_FnExactResolve_true (b0 : List TLiteral) (b1 : List TLiteral) (b2 : TLiteral) (h0 : b_l_eTLiteral 9223372036854775807 b0) (h1 : b_l_eTLiteral 9223372036854775807 b1) : w_FnExactResolve b0 b1 b2 = some true := by
  unfold w_FnExactResolve
  obtain ⟨m0, e0, q0⟩ := w_szLiteralS_ok b0 h0 1048576 (by decide) (by decide)
  rw [e0, Option.bind_some]
  by_cases c0 : m0 < 0
  · simp [c0]
  have q0 := q0.resolve_left c0
  rw [show decide (m0 < 0) = false by simpa using c0, cond_false]
  obtain ⟨m1, e1, q1⟩ := w_szLiteralS_ok b1 h1 m0 (by omega) (by omega)
  rw [e1, Option.bind_some]
  by_cases c1 : m1 < 0
  · simp [c1]
  have q1 := q1.resolve_left c1
  rw [show decide (m1 < 0) = false by simpa using c1, cond_false]
  obtain ⟨v, ev1, ev2, hv⟩ := core_Resolve b0 b1 b2 q0.2 q1.2
  obtain ⟨k0, ek0, lk0, uk0⟩ := w_markLiteralS_k_ok b0 q0.2 1 (by omega) (by omega)
  obtain ⟨k1, ek1, lk1, uk1⟩ := w_markLiteralS_k_ok b1 q1.2 k0 (by omega) (by omega)
  have hk : ¬ k1 < 0 := by omega
  obtain ⟨mk, y1, er1, er2, er3, er4⟩ := w_markLiteralS_res v hv 1 (by omega) (by omega)
  have hm : ¬ mk < 0 := by omega
  simp only [w_toLiteralS_eq b0 q0.2, w_toLiteralS_eq b1 q1.2, w_toLiteral_eq b2, Option.bind_some, ev1, ev2, w_eqLiteralS_eq, w_eqLiteral_eq, ek0, ek1, er1, er2, decide_true, Bool.not_true, cond_false]
  simp [hk, hm]
theorem row_FnExactResolve : ∀ ps, Vals [.slice (.agg [.int, .int, .int]), .slice (.agg [.int, .int, .int]), .agg [.int, .int, .int]] ps → PC Try.prog 4 ps (bool true) := fun ps h => by
  have hv0 := h
  obtain ⟨x0, zs1, rfl, h0, hv1⟩ := vals_cons hv0
  obtain ⟨y0, rfl, b0⟩ := decb_l_eTLiteral _ h0
  obtain ⟨x1, zs2, rfl, h1, hv2⟩ := vals_cons hv1
  obtain ⟨y1, rfl, b1⟩ := decb_l_eTLiteral _ h1
  obtain ⟨x2, zs3, rfl, h2, hv3⟩ := vals_cons hv2
  obtain ⟨y2, rfl, b2⟩ := decb_TLiteral _ h2
  obtain rfl := vals_nil hv3
  exact w_FnExactResolve_pc y0 y1 y2 true (w_FnExactResolve_true y0 y1 y2 b0 b1)
end Go.Px.Ytdlklmdnmoipcaa
