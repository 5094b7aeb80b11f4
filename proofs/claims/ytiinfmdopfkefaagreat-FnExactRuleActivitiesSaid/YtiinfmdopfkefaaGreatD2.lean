/-
  PROVED: definitions that say what functions of the program compute. No condition.
-/
import Derived.Test.YtiinfmdopfkefaaGreatD1
namespace Go.Px.YtiinfmdopfkefaaGreat
set_option linter.unusedSimpArgs false
set_option linter.unusedVariables false
open Go.Px
theorem good_res {p : TProject} (hP : s_ProjectOk p = some true) {r : TRule} (hl : p.Resources.length ≤ 1000) (h : ResR p r) : GoodR p r := by
  obtain ⟨⟨h0, h1⟩, h | h⟩ := h
  · obtain ⟨k, q1, q2⟩ := h
    simp [GoodR, s_RuleOk, hP, s_l01In_eq, k, inR_num p.Resources h0 h1 hl, q1, q2]
  · obtain ⟨k, q1, q2, q3⟩ := h
    simp [GoodR, s_RuleOk, hP, s_l01In_eq, k, inR_num p.Resources h0 h1 hl, q1, q2, q3]
theorem Candidate_ok (p : TProject) (b : TDomain) (hp : bTProject 1048576 p) (hb : bTDomain 1048576 b) (h : s_l14Ok p b = some true) : ∃ L, s_l17For p b = some L ∧ i_CandidateRules p b = some L ∧ L.length ≤ 1000 ∧ ∀ r ∈ L, GoodR p r := by
  obtain ⟨v, hv, hf⟩ := s_l14Ok_ok p (names_of hp (by omega)) b
  rw [h] at hv; cases hv
  have use := hf rfl
  have F := use.dom.proj
  have hP := usable_proj (names_of hp (by omega)) h
  have h1 := F.nact
  have h2 := F.nres
  have h3 := F.nstk
  have h4 := F.nlnk
  have l2 := use.dom.l2
  obtain ⟨P, i1, i2, i3, i4⟩ := Intervals_ok p b hp hb h
  obtain ⟨X, x1, x2, x3, x4, x5⟩ := SetOf_ok b.MaxStart (by omega)
  obtain ⟨R, r1, r2, r3⟩ := resRules p b X P (fun x hx => steps_len _ (F.ress x hx).2.1) x1 x3 x4 (by omega) (by omega) i2 i3 i4 p.Resources 0 (Int.le_refl _) rfl
  obtain ⟨T, U, u1, u2, u3, u4, u5⟩ := rules_ok p F
  have a1 := sqLoop (F := s_l17For_L1) (g := gLink) (fun _ _ => rfl) (fun _ _ _ _ => rfl) p.Links 0 [] (by simp; omega)
  have a2 := sqLoop (F := s_l17For_L2) (g := gEnd) (fun _ _ => rfl) (fun _ _ _ _ => rfl) p.Activities 0 (sq gLink 0 p.Links.length) (by simp [sq_length]; omega)
  have a3 := sqLoop (F := s_l17For_L3) (g := gStock) (fun _ _ => rfl) (fun _ _ _ _ => rfl) p.Stocks 0 (sq gLink 0 p.Links.length ++ sq gEnd 0 p.Activities.length) (by simp [sq_length]; omega)
  rw [List.nil_append] at a1
  have rr := r1 (sq gLink 0 p.Links.length ++ sq gEnd 0 p.Activities.length ++ sq gStock 0 p.Stocks.length) (by simp [sq_length]; omega)
  have uu := u5 (sq gLink 0 p.Links.length ++ sq gEnd 0 p.Activities.length ++ sq gStock 0 p.Stocks.length ++ R) (by simp [sq_length]; omega)
  refine ⟨sq gLink 0 p.Links.length ++ sq gEnd 0 p.Activities.length ++ sq gStock 0 p.Stocks.length ++ R ++ U, ?_, ?_, by simp [sq_length]; omega, fun r hr => ?_⟩
  · simp only [s_l17For, a1, a2, a3, x1, i1, rr.1, uu, Option.bind_some]
  · have s1 := segOut (sq gLink 0 p.Links.length ++ sq gEnd 0 p.Activities.length) (T ++ (U ++ sq gStock 0 p.Stocks.length)) 0 [] [] (fun r hr => by
      rcases List.mem_append.1 hr with hr | hr
      · obtain ⟨y, _, _, rfl⟩ := sq_mem hr; exact .inl rfl
      · obtain ⟨y, _, _, rfl⟩ := sq_mem hr; exact .inr (.inl rfl)) (by simp [sq_length]; omega)
    obtain ⟨z1, s1⟩ := s1
    obtain ⟨z2, s2⟩ := segNone T (U ++ sq gStock 0 p.Stocks.length) z1 ([] ++ (sq gLink 0 p.Links.length ++ sq gEnd 0 p.Activities.length)) [] u2
    obtain ⟨z3, s3⟩ := segPair U (sq gStock 0 p.Stocks.length) z2 ([] ++ (sq gLink 0 p.Links.length ++ sq gEnd 0 p.Activities.length)) [] (fun r hr => (u3 r hr).1) (by simp; omega)
    obtain ⟨z4, s4⟩ := segOut (sq gStock 0 p.Stocks.length) [] z3 ([] ++ (sq gLink 0 p.Links.length ++ sq gEnd 0 p.Activities.length)) ([] ++ U) (fun r hr => by
      obtain ⟨y, _, _, rfl⟩ := sq_mem hr; exact .inr (.inr rfl)) (by simp [sq_length]; omega)
    have s5 : i_CandidateRules_L1 (sq gLink 0 p.Links.length ++ sq gEnd 0 p.Activities.length ++ T ++ U ++ sq gStock 0 p.Stocks.length) 0 [] [] = some (sq gLink 0 p.Links.length ++ sq gEnd 0 p.Activities.length ++ sq gStock 0 p.Stocks.length, U) := by
      rw [List.append_nil] at s4
      rw [show sq gLink 0 p.Links.length ++ sq gEnd 0 p.Activities.length ++ T ++ U ++ sq gStock 0 p.Stocks.length = (sq gLink 0 p.Links.length ++ sq gEnd 0 p.Activities.length) ++ (T ++ (U ++ sq gStock 0 p.Stocks.length)) by simp, s1, s2, s3, s4]
      simp [i_CandidateRules_L1]
    simp only [i_CandidateRules, l14Ok_eq p b (modes_of hb), h, u1, s5, rr.2, Option.bind_some, Bool.not_true, cond_false]
    rw [appL_ok (by simp [sq_length]; omega), Option.bind_some]
  · rcases List.mem_append.1 hr with hr | hr
    · rcases List.mem_append.1 hr with hr | hr
      · rcases List.mem_append.1 hr with hr | hr
        · rcases List.mem_append.1 hr with hr | hr
          · obtain ⟨y, y1, y2, y3⟩ := sq_mem hr
            exact good_link hP y1 (by omega) (by omega) y3
          · obtain ⟨y, y1, y2, y3⟩ := sq_mem hr
            exact good_end hP y1 (by omega) (by omega) y3
        · obtain ⟨y, y1, y2, y3⟩ := sq_mem hr
          exact good_stock hP y1 (by omega) (by omega) y3
      · exact good_res hP (by omega) (r2 r hr)
    · exact good_pair hP (by omega) (u3 r hr)
theorem core_CandidateRules (p : TProject) (b : TDomain) (hp : bTProject 1048576 p) (hb : bTDomain 1048576 b) : ∃ v, s_CandidateRules p b = some v ∧ i_CandidateRules p b = some v ∧ v.length ≤ 1048576 := by
  obtain ⟨v, hv, hf⟩ := s_l14Ok_ok p (names_of hp (by omega)) b
  cases v with
  | false => exact ⟨[], by simp [s_CandidateRules, hv], by simp [i_CandidateRules, l14Ok_eq p b (modes_of hb), hv], by simp⟩
  | true =>
    obtain ⟨L, h1, h2, h3, _⟩ := Candidate_ok p b hp hb hv
    exact ⟨L, by simp [s_CandidateRules, hv, h1], h2, by omega⟩
theorem form_of {p : TProject} {b : TDomain} (h : s_l14Ok p b = some true) : s_DomainForm p b = some true ∧ s_DomainEmpty b = some false := by
  obtain ⟨u, hu, _⟩ := s_DomainEmpty_ok b
  simp only [s_l14Ok, hu, Option.bind_some] at h
  cases hf : s_DomainForm p b with
  | none => simp [hf] at h
  | some v =>
    rw [hf] at h
    cases v with
    | false => simp at h
    | true =>
      cases u with
      | true => simp at h
      | false => exact ⟨rfl, hu⟩
theorem refutes_good {p : TProject} {b : TDomain} {r : TRule} (hp : bTProject 1048576 p) (hb : bTDomain 1048576 b) (h : s_l14Ok p b = some true) (hr : GoodR p r) : ∃ v, s_l17Refutes p b r = some v ∧ i_Refutes p b r = some v := by
  obtain ⟨f1, f2⟩ := form_of h
  obtain ⟨v, v1, v2⟩ := core_Refutes p b r hp hb
  have hr' : s_RuleOk p r = some true := hr
  simp only [s_Refutes, f1, f2, hr', Option.bind_some, Bool.not_true, cond_false, cond_true] at v1
  refine ⟨v, ?_, v2⟩
  cases hx : s_l17Refutes p b r with
  | none => simp [hx] at v1
  | some q => simpa [hx] using v1
theorem count_L {p : TProject} {b : TDomain} (hp : bTProject 1048576 p) (hb : bTDomain 1048576 b) (h : s_l14Ok p b = some true) : ∀ (L : List TRule) (z n : Int), (∀ r ∈ L, GoodR p r) → ∃ v, s_CountRefutations_L1 p b L z n = some v ∧ i_CountRefutations_L1 p b L z n = some v
  | [], z, n, _ => ⟨n, rfl, rfl⟩
  | r :: L, z, n, hL => by
    obtain ⟨v, v1, v2⟩ := refutes_good hp hb h (hL r (List.mem_cons_self ..))
    simp only [s_CountRefutations_L1, i_CountRefutations_L1, v1, v2, Option.bind_some]
    cases v <;> exact count_L hp hb h L (z + 1) _ (fun r hr => hL r (List.mem_cons_of_mem _ hr))
theorem core_CountRefutations (p : TProject) (b : TDomain) (hp : bTProject 1048576 p) (hb : bTDomain 1048576 b) : ∃ v, s_CountRefutations p b = some v ∧ i_CountRefutations p b = some v := by
  obtain ⟨v, hv, hf⟩ := s_l14Ok_ok p (names_of hp (by omega)) b
  cases v with
  | false =>
    refine ⟨0, ?_, ?_⟩
    · simp [s_CountRefutations, s_CandidateRules, hv, s_CountRefutations_L1]
    · simp [i_CountRefutations, i_CandidateRules, l14Ok_eq p b (modes_of hb), hv, i_CountRefutations_L1]
  | true =>
    obtain ⟨L, h1, h2, h3, h4⟩ := Candidate_ok p b hp hb hv
    obtain ⟨n, n1, n2⟩ := count_L hp hb hv L 0 0 h4
    refine ⟨n, ?_, ?_⟩
    · simp [s_CountRefutations, s_CandidateRules, hv, h1, n1]
    · simp [i_CountRefutations, h2, n2]
theorem find_L {p : TProject} {b : TDomain} (hp : bTProject 1048576 p) (hb : bTDomain 1048576 b) (h : s_l14Ok p b = some true) : ∀ (L : List TRule) (z : Int), (∀ r ∈ L, GoodR p r) → ∃ v, s_FindRefutation_L1 p b L z = some v ∧ i_FindRefutation_L1 p b L z = some v
  | [], z, _ => ⟨.inl (), rfl, rfl⟩
  | r :: L, z, hL => by
    obtain ⟨v, v1, v2⟩ := refutes_good hp hb h (hL r (List.mem_cons_self ..))
    simp only [s_FindRefutation_L1, i_FindRefutation_L1, v1, v2, Option.bind_some]
    cases v with
    | true => exact ⟨_, rfl, rfl⟩
    | false => exact find_L hp hb h L (z + 1) (fun r hr => hL r (List.mem_cons_of_mem _ hr))
theorem core_FindRefutation (p : TProject) (b : TDomain) (hp : bTProject 1048576 p) (hb : bTDomain 1048576 b) : ∃ v, s_FindRefutation p b = some v ∧ i_FindRefutation p b = some v := by
  obtain ⟨v, hv, hf⟩ := s_DomainForm_ok p (names_of hp (by omega)) b
  obtain ⟨u, hu, _⟩ := s_DomainEmpty_ok b
  cases v with
  | false =>
    have hk : s_l14Ok p b = some false := by simp [s_l14Ok, hv]
    refine ⟨(TRule.mk 0 0 0 0, false), ?_, ?_⟩
    · simp [s_FindRefutation, hv]
    · simp [i_FindRefutation, DomainForm_eq p b (modes_of hb), hv, i_CandidateRules, l14Ok_eq p b (modes_of hb), hk, i_FindRefutation_L1, sumBind]
  | true =>
    cases u with
    | true =>
      refine ⟨(TRule.mk 0 0 0 0, true), ?_, ?_⟩
      · simp [s_FindRefutation, hv, hu]
      · simp [i_FindRefutation, DomainForm_eq p b (modes_of hb), DomainEmpty_eq, hv, hu]
    | false =>
      have hk : s_l14Ok p b = some true := by simp [s_l14Ok, hv, hu]
      obtain ⟨L, h1, h2, h3, h4⟩ := Candidate_ok p b hp hb hk
      obtain ⟨w, w1, w2⟩ := find_L hp hb hk L 0 h4
      simp only [s_FindRefutation, i_FindRefutation, DomainForm_eq p b (modes_of hb), DomainEmpty_eq, hv, hu, h1, h2, w1, w2, Option.bind_some, Bool.not_true, cond_true, cond_false, sumBind]
      cases w with
      | inl _ => exact ⟨_, rfl, rfl⟩
      | inr q => exact ⟨_, rfl, rfl⟩
end Go.Px.YtiinfmdopfkefaaGreat
