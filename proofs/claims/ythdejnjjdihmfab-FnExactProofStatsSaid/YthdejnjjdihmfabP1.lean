/-
  PROVED: facts on the definitions that say what functions of the program compute. No condition beyond those that each theorem names.
-/
import Derived.Test.YthdejnjjdihmfabD1
namespace Go.Px.Ythdejnjjdihmfab
set_option linter.unusedSimpArgs false
set_option linter.unusedVariables false
open Go.Px
theorem idxL_lt {α : Type} {l : List α} {i : Int} (h0 : 0 ≤ i) (h1 : i < l.length) : ∃ v, idxL l i = some v := by
  have : i.toNat < l.length := by omega
  exact ⟨l[i.toNat], by unfold idxL; rw [if_pos h0]; exact List.getElem?_eq_getElem this⟩
theorem s_in_eq (n a b : Int) : s_l01In n a b = some (decide (a ≤ n ∧ n ≤ b)) := by
  unfold s_l01In
  by_cases h : a ≤ n <;> by_cases h2 : n ≤ b <;> simp [h, h2]
theorem i_within_eq' (n a b : Int) : i_within n a b = some (decide (a ≤ n ∧ n ≤ b)) := by
  unfold i_within
  by_cases h : a ≤ n <;> by_cases h2 : n ≤ b <;> simp [h, h2]
theorem s_RuleName_ne (k : Int) : ∃ v, s_RuleName k = some v ∧ (v != ByteArray.empty) = decide (0 ≤ k ∧ k ≤ 6) := by
  unfold s_RuleName
  rw [s_in_eq]
  by_cases h : 0 ≤ k ∧ k ≤ 6
  · simp only [h, and_self, decide_true, Option.bind_some, Bool.not_true, cond_false]
    have : k = 0 ∨ k = 1 ∨ k = 2 ∨ k = 3 ∨ k = 4 ∨ k = 5 ∨ k = 6 := by omega
    rcases this with rfl | rfl | rfl | rfl | rfl | rfl | rfl <;> exact ⟨_, rfl, by decide⟩
  · simp only [h, decide_false, Option.bind_some, Bool.not_false, cond_true]
    exact ⟨_, rfl, by decide⟩
theorem ps_L1 : ∀ (l : List TLine) (z : Int) (a : List Int), a.length = 8 → ∃ v, s_ProofStats_L1 l z a = some v ∧ i_ProofStats_L1 l z a = some v ∧ v.length = 8
  | [], z, a, h => ⟨a, rfl, rfl, h⟩
  | x :: xs, z, a, h => by
    simp only [s_ProofStats_L1, i_ProofStats_L1]
    by_cases h2 : x.Kind = 2
    · obtain ⟨v, hv⟩ := idxL_lt (l := a) (i := 0) (by omega) (by omega)
      simp only [h2, beq_self_eq_true, cond_true, hv, Option.bind_some, show ((2 : Int) == 1) = false from rfl, cond_false]
      exact ps_L1 xs (z + 1) _ (by simp [setL, h])
    · have h2' : (x.Kind == 2) = false := by simpa using h2
      simp only [h2', cond_false, Option.bind_some]
      by_cases h1 : x.Kind = 1
      · obtain ⟨nm, e1, e2⟩ := s_RuleName_ne x.Rule.Kind
        simp only [h1, beq_self_eq_true, cond_true, e1, Option.bind_some, e2, i_within_eq']
        by_cases hr : 0 ≤ x.Rule.Kind ∧ x.Rule.Kind ≤ 6
        · have w1 : W (1 + x.Rule.Kind) = x.Rule.Kind + 1 := by rw [W_of ⟨by omega, by omega⟩]; omega
          have w2 : W (x.Rule.Kind + 1) = x.Rule.Kind + 1 := W_of ⟨by omega, by omega⟩
          obtain ⟨v, hv⟩ := idxL_lt (l := a) (i := x.Rule.Kind + 1) (by omega) (by omega)
          simp only [hr, and_self, decide_true, cond_true, w1, w2, hv, Option.bind_some]
          exact ps_L1 xs (z + 1) _ (by simp [setL, h])
        · simp only [hr, decide_false, cond_false]
          exact ps_L1 xs (z + 1) a h
      · have h1' : (x.Kind == 1) = false := by simpa using h1
        simp only [h1', cond_false, Option.bind_some]
        exact ps_L1 xs (z + 1) a h
theorem core_ProofStats (b0 : List TLine) : ∃ v, s_ProofStats b0 = some v ∧ i_ProofStats b0 = some v ∧ v.length ≤ 1048576 := by
  obtain ⟨a, ha, hl⟩ : ∃ a : List Int, makeL 0 8 = some a ∧ a.length = 8 := ⟨List.replicate 8 0, by decide, by decide⟩
  obtain ⟨v, e1, e2, e3⟩ := ps_L1 b0 0 a hl
  exact ⟨v, by unfold s_ProofStats; rw [ha, Option.bind_some, e1]; rfl, by unfold i_ProofStats; rw [ha, Option.bind_some, e2]; rfl, by omega⟩
end Go.Px.Ythdejnjjdihmfab
