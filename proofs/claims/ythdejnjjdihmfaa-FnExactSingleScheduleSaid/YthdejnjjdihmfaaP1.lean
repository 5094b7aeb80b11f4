/-
  PROVED: facts on the definitions that say what functions of the program compute. No condition beyond those that each theorem names.
-/
import Derived.Test.YthdejnjjdihmfaaD1
namespace Go.Px.Ythdejnjjdihmfaa
set_option linter.unusedSimpArgs false
set_option linter.unusedVariables false
open Go.Px
theorem idxL_lt {α : Type} {l : List α} {i : Int} (h0 : 0 ≤ i) (h1 : i < l.length) : ∃ v, idxL l i = some v := by
  have : i.toNat < l.length := by omega
  exact ⟨l[i.toNat], by unfold idxL; rw [if_pos h0]; exact List.getElem?_eq_getElem this⟩
theorem appL_ok {α : Type} {a b : List α} (h : a.length + b.length ≤ 1099511627776) : appL a b = some (a ++ b) := by
  unfold appL; rw [if_pos h]
theorem ss_L1 (b : TDomain) (n : Nat) (hn : n ≤ 1048576) (h1 : b.MaxStart.length = n) (h2 : b.Modes.length = n) : ∀ (l : List Int) (z : Int) (a c : List Int), a.length = z.toNat → c.length = z.toNat → 0 ≤ z → z.toNat + l.length = n →
    ∃ v, s_SingleSchedule_L1 b l z a c = some v ∧ i_SingleSchedule_L1 b l z a c = some v ∧ ∀ s, v = .inr s → s = (TSchedule.mk [] [], false)
  | [], z, a, c, _, _, _, _ => ⟨_, rfl, rfl, fun s h => by cases h⟩
  | x :: xs, z, a, c, ha, hc, hz, hl => by
    simp only [List.length_cons] at hl
    obtain ⟨y, hy⟩ := idxL_lt (l := b.MaxStart) (i := z) hz (by omega)
    obtain ⟨m, hm⟩ := idxL_lt (l := b.Modes) (i := z) hz (by omega)
    simp only [s_SingleSchedule_L1, i_SingleSchedule_L1, hy, hm, Option.bind_some, int_bne]
    have e : decide (y = x) = decide (x = y) := by by_cases h : x = y <;> simp [h, eq_comm]
    rw [e]
    by_cases hxy : x = y
    · subst hxy
      simp only [decide_true, Bool.not_true, cond_false, Option.bind_some]
      by_cases hlen : (m.length : Int) = 1
      · obtain ⟨w, hw⟩ := idxL_lt (l := m) (i := 0) (by omega) (by omega)
        simp only [hlen, decide_true, Bool.not_true, cond_false, hw, Option.bind_some]
        rw [appL_ok (by simp; omega), Option.bind_some, appL_ok (by simp; omega), Option.bind_some, Option.bind_some, Option.bind_some]
        exact ss_L1 b n hn h1 h2 xs (z + 1) _ _ (by simp; omega) (by simp; omega) (by omega) (by omega)
      · simp only [hlen, decide_false, Bool.not_false, cond_true]
        exact ⟨_, rfl, rfl, fun s h => by cases h; rfl⟩
    · simp only [hxy, decide_false, Bool.not_false, cond_true, Option.bind_some]
      exact ⟨_, rfl, rfl, fun s h => by cases h; rfl⟩
theorem ss_len (b : TDomain) : ∀ (l : List Int) (z : Int) (a c : List Int) (p : List Int × List Int), s_SingleSchedule_L1 b l z a c = some (.inl p) → p.1.length = a.length + l.length ∧ p.2.length = c.length + l.length
  | [], z, a, c, p, h => by simp only [s_SingleSchedule_L1, Option.some.injEq, Sum.inl.injEq] at h; subst h; simp
  | x :: xs, z, a, c, p, h => by
    simp only [s_SingleSchedule_L1] at h
    obtain ⟨y, hy, h⟩ := Option.bind_eq_some_iff.1 h
    obtain ⟨e, he, h⟩ := Option.bind_eq_some_iff.1 h
    cases e
    · simp only [cond_false] at h
      obtain ⟨a2, ha, h⟩ := Option.bind_eq_some_iff.1 h
      obtain ⟨m, hm, h⟩ := Option.bind_eq_some_iff.1 h
      obtain ⟨w, hw, h⟩ := Option.bind_eq_some_iff.1 h
      obtain ⟨c2, hc, h⟩ := Option.bind_eq_some_iff.1 h
      have := ss_len b xs _ _ _ p h
      obtain ⟨_, rfl⟩ := appL_spec ha
      obtain ⟨_, rfl⟩ := appL_spec hc
      simp only [List.length_append, List.length_cons, List.length_nil] at this ⊢
      omega
    · simp at h
theorem core_SingleSchedule (b : TDomain) (h : bTDomain 1048576 b) : ∃ v, s_SingleSchedule b = some v ∧ i_SingleSchedule b = some v ∧ bTSchedule 1048576 v.1 := by
  have hnil : bTSchedule 1048576 (TSchedule.mk [] []) := ⟨Nat.zero_le _, Nat.zero_le _, trivial⟩
  have hb : b.MinStart.length ≤ 1048576 := h.1
  unfold s_SingleSchedule i_SingleSchedule
  simp only [int_bne, cond_some, Option.bind_some]
  have e1 : decide ((b.MaxStart.length : Int) = b.MinStart.length) = decide ((b.MinStart.length : Int) = b.MaxStart.length) := by by_cases h : (b.MaxStart.length : Int) = b.MinStart.length <;> simp [h]; omega
  have e2 : decide ((b.Modes.length : Int) = b.MinStart.length) = decide ((b.MinStart.length : Int) = b.Modes.length) := by by_cases h : (b.Modes.length : Int) = b.MinStart.length <;> simp [h]; omega
  rw [e1, e2]
  by_cases h1 : (b.MinStart.length : Int) = b.MaxStart.length
  · by_cases h2 : (b.MinStart.length : Int) = b.Modes.length
    · rw [decide_eq_true h1, decide_eq_true h2]
      simp only [Bool.not_true, cond_false]
      obtain ⟨v, e3, e4, e5⟩ := ss_L1 b b.MinStart.length hb (by omega) (by omega) b.MinStart 0 [] [] rfl rfl (by omega) (by simp)
      rw [e3, e4]
      cases v with
      | inl p =>
        have := ss_len b _ _ _ _ p e3
        exact ⟨_, rfl, rfl, by show p.1.length ≤ _; simp at this; omega, by show p.2.length ≤ _; simp at this; omega, trivial⟩
      | inr s => rw [e5 s rfl]; exact ⟨_, rfl, rfl, hnil⟩
    · rw [decide_eq_true h1, decide_eq_false h2]; exact ⟨_, rfl, rfl, hnil⟩
  · rw [decide_eq_false h1]; exact ⟨_, rfl, rfl, hnil⟩
end Go.Px.Ythdejnjjdihmfaa
