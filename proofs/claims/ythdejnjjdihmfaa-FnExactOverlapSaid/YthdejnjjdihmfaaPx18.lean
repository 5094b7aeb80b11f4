/-
  PROVED: a region in any order that its edges allow. Over any program. No condition beyond those that each theorem names.
-/
import Derived.Test.YthdejnjjdihmfaaPx17
namespace Go.Px
set_option linter.unusedSimpArgs false
set_option linter.unusedVariables false
open Go.RowKit

section
variable {P : Program} {N : Nat} {Q : St → Prop} {k : List Item} {all : Array Oper} {w0 : World} {pub0 : Nat → Nat → Prop}

theorem looks_op {o : Oper} {s s2 : St} (h : ∀ t ∈ o.looksAt all, s2.slot t = s.slot t) : ∀ x ∈ o.op.operands, s2.ev x = s.ev x := by
  intro x hx
  cases x with
  | tmp t =>
    refine h t ?_
    unfold Oper.looksAt
    refine List.mem_append.2 (.inl ?_)
    exact List.mem_filterMap.2 ⟨.tmp t, by simpa using hx, rfl⟩
  | _ => rfl
theorem looks_guard {o : Oper} {s s2 : St} (h : ∀ t ∈ o.looksAt all, s2.slot t = s.slot t) {g : Nat} {want : Bool} (hg : o.guard = some (g, want)) {b : Option Bool} (hy : gyield all s g b) : gyield all s2 g b := by
  obtain ⟨t, ht, hb⟩ := hy
  refine ⟨t, ht, ?_⟩
  have : s2.slot t = s.slot t := h t (by
    unfold Oper.looksAt
    refine List.mem_append.2 (.inr ?_)
    rw [hg]
    unfold gslot at ht
    simp [ht])
  rw [this]; exact hb

/-- A step hangs on what it looks at. -/
theorem AStep.local {r wr : List Nat} {o : Oper} {s s' : St} (h : AStep P N all (some (r, wr)) o s s') : ∃ p U, (∀ q ∈ U, q.1 ∈ wr) ∧ s' = ⟨(s.put o.dst p).slot, upds s.mem U⟩ ∧
    ∀ s2 : St, (∀ t ∈ o.looksAt all, s2.slot t = s.slot t) → (∀ n, n ∈ r ∨ n ∈ wr → s2.mem n = s.mem n) → AStep P N all (some (r, wr)) o s2 ⟨(s2.put o.dst p).slot, upds s2.mem U⟩ := by
  cases h with
  | op _ d op ty pos after gd p U R hg ha hd hF =>
    refine ⟨p, U, hF.2, rfl, fun s2 h1 h2 => ?_⟩
    exact .op s2 d op ty pos after gd p U R (fun g want e => looks_guard h1 (by exact e) (hg g want e)) (ha.local (looks_op h1) (fun n hn => h2 n (.inl (hF.1 n hn)))) hd hF
  | op0 _ op ty pos after gd p U R hg ha hF =>
    refine ⟨p, U, hF.2, rfl, fun s2 h1 h2 => ?_⟩
    exact .op0 s2 op ty pos after gd p U R (fun g want e => looks_guard h1 (by exact e) (hg g want e)) (ha.local (looks_op h1) (fun n hn => h2 n (.inl (hF.1 n hn)))) hF
  | call _ d fo args ats ty pos after gd f caps ps ps' r' p R U n' hg hf hps hp hc hr hU hd hF =>
    refine ⟨p, U, hF.2, rfl, fun s2 h1 h2 => ?_⟩
    have hl := looks_op h1
    refine .call s2 d fo args ats ty pos after gd f caps ps ps' r' p R U n' (fun g want e => looks_guard h1 (by exact e) (hg g want e)) ((hl fo (by simp [Op.operands, Call.operands])).trans hf)
      ((List.map_congr_left fun x hx => hl x (by simp [Op.operands, Call.operands]; exact .inr (by simpa using hx))).trans hps) (hp.local fun n hn => h2 n (.inl (hF.1 n hn))) hc hr (fun q hq => (h2 _ (.inr (hF.2 q hq))).trans (hU q hq)) hd hF
  | skip _ _ g want b hgd hy hb hd =>
    refine ⟨.tuple [], [], (fun q hq => absurd hq List.not_mem_nil), ?_, fun s2 h1 h2 => ?_⟩
    · unfold St.put; cases o.dst <;> rfl
    · have := AStep.skip (P := P) (N := N) (all := all) (F := some (r, wr)) s2 o g want b hgd (looks_guard h1 hgd hy) hb hd
      have e : s2.put o.dst (.tuple []) = ⟨(s2.put o.dst (.tuple [])).slot, upds s2.mem []⟩ := by unfold St.put; cases o.dst <;> rfl
      rw [e] at this; exact this

def disjB : Foot → Foot → Bool
  | some (ri, wi), some (rj, wj) => wi.all (fun n => !rj.contains n && !wj.contains n) && wj.all (fun n => !ri.contains n)
  | _, _ => false

theorem put_slot {s : St} {d : Option Nat} {p : PV} {t : Nat} (h : d ≠ some t) : (s.put d p).slot t = s.slot t := by
  unfold St.put
  cases d with
  | none => rfl
  | some d => exact upd_ne _ _ (fun e => h (by rw [e]))

/-- Two steps that do not touch each other change places. -/
theorem AStep.swap {Fi Fj : Foot} {oi oj : Oper} {s s1 s2 : St} (hap : oi.apart all oj = true) (hdj : disjB Fi Fj = true) (h1 : AStep P N all Fi oi s s1) (h2 : AStep P N all Fj oj s1 s2) : ∃ s', AStep P N all Fj oj s s' ∧ AStep P N all Fi oi s' s2 := by
  match Fi, Fj, hdj with
  | some (ri, wi), some (rj, wj), hdj =>
    simp only [disjB, Bool.and_eq_true, List.all_eq_true, Bool.not_eq_true', List.contains_eq_mem, decide_eq_false_iff_not] at hdj
    obtain ⟨pi, Ui, u1, rfl, l1⟩ := h1.local
    obtain ⟨pj, Uj, u2, rfl, l2⟩ := h2.local
    obtain ⟨a1, a2, a3⟩ := Oper.apart_spec hap
    have e1 := l2 s (fun t ht => (put_slot (fun e => a1 t e ht)).symm) (fun n hn => (upds_ne (fun q hq e => by
      have := hdj.1 q.1 (u1 q hq)
      rw [e] at this
      rcases hn with hn | hn
      · exact this.1 hn
      · exact this.2 hn)).symm)
    refine ⟨_, e1, ?_⟩
    have e2 := l1 ⟨(s.put oj.dst pj).slot, upds s.mem Uj⟩ (fun t ht => put_slot (fun e => a3 t e ht)) (fun n hn => upds_ne (fun q hq e => by
      have h3 := hdj.2 q.1 (u2 q hq)
      rw [e] at h3
      rcases hn with hn | hn
      · exact h3 hn
      · exact (hdj.1 n hn).2 (by rw [← e]; exact u2 q hq)))
    have e3 : (⟨((⟨(s.put oj.dst pj).slot, upds s.mem Uj⟩ : St).put oi.dst pi).slot, upds (upds s.mem Uj) Ui⟩ : St) = ⟨((⟨(s.put oi.dst pi).slot, upds s.mem Ui⟩ : St).put oj.dst pj).slot, upds (upds s.mem Ui) Uj⟩ := by
      have f1 : upds (upds s.mem Uj) Ui = upds (upds s.mem Ui) Uj := (upds_comm (fun q hq q' hq' e => (hdj.1 q.1 (u1 q hq)).2 (by rw [e]; exact u2 q' hq'))).symm
      have f2 : ((⟨(s.put oj.dst pj).slot, upds s.mem Uj⟩ : St).put oi.dst pi).slot = ((⟨(s.put oi.dst pi).slot, upds s.mem Ui⟩ : St).put oj.dst pj).slot := by
        cases hi : oi.dst with
        | none => cases hj : oj.dst <;> simp only [St.put]
        | some i =>
          cases hj : oj.dst with
          | none => simp only [St.put]
          | some j =>
            simp only [St.put]
            exact upd_comm (fun e => a2 i hi (by rw [hj, e]))
      rw [f1, f2]
    rw [e3] at e2
    exact e2

/-- All orders. -/
def AAny (P : Program) (N : Nat) (all : Array Oper) (F : Nat → Foot) (K : St → Prop) : Nat → Array Bool → St → Prop
  | 0, listed, s => Region.ready .any all listed = [] ∧ K s
  | fuel + 1, listed, s => (Region.ready .any all listed = [] → K s) ∧ ∀ i ∈ Region.ready .any all listed, ∃ o s', all[i]? = some o ∧ AStep P N all (F i) o s s' ∧ AAny P N all F K fuel (listed.setIfInBounds i true) s'

theorem AAny.sound {F : Nat → Foot} {K : St → Prop} {Q' : Exit → Act → World → Prop} (hQ : ∀ s a w, K s → Rel N w0 pub0 s a w → Q' .normal a w) : ∀ (fuel : Nat) (listed : Array Bool) (s : St) (a : Act) (w : World), AAny P N all F K fuel listed s → Rel N w0 pub0 s a w → wpAny P .any all Q' fuel listed a w
  | 0, _, s, a, w, h, hR => ⟨h.1, hQ s a w h.2 hR⟩
  | fuel + 1, listed, s, a, w, h, hR => ⟨fun h0 => hQ s a w (h.1 h0) hR, fun i hi => by
    obtain ⟨o, s', ho, hs, hn⟩ := h.2 i hi
    have := hs.sound (P := P) (K := wpAny P .any all Q' fuel (listed.setIfInBounds i true)) (Q' := Q') (fun a w hR' => AAny.sound hQ fuel _ s' a w hn hR') hR
    unfold wpOp
    simp only [ho]
    rcases this with ⟨h1, h2⟩ | ⟨h1, h2⟩
    · rw [if_pos h1]; exact .inl h2
    · rw [if_neg (by rw [h1]; simp)]; exact h2⟩

theorem AAny.first {F : Nat → Foot} {K : St → Prop} {i : Nat} {oi : Oper} (hi : all[i]? = some oi) : ∀ (fuel : Nat) (listed : Array Bool) (s s1 : St),
    (∀ j oj, all[j]? = some oj → j ≠ i → listed.getD j true = false → (∀ e ∈ oj.after, Region.binds .any e = true → e.on ≠ i) → oi.apart all oj = true ∧ disjB (F i) (F j) = true) →
    i ∈ Region.ready .any all listed → AStep P N all (F i) oi s s1 → AAny P N all F K fuel (listed.setIfInBounds i true) s1 → AAny P N all F K (fuel + 1) listed s := by
  intro fuel
  induction fuel with
  | zero =>
    intro listed s s1 _ hr hy H
    refine ⟨fun h => (by rw [h] at hr; cases hr), fun j hj => ?_⟩
    by_cases hji : j = i
    · subst hji; exact ⟨oi, s1, hi, hy, H⟩
    · have := ready_mono hj hji
      rw [H.1] at this
      cases this
  | succ fuel ih =>
    intro listed s s1 hfree hr hy H
    refine ⟨fun h => (by rw [h] at hr; cases hr), fun j hj => ?_⟩
    by_cases hji : j = i
    · subst hji; exact ⟨oi, s1, hi, hy, H⟩
    · obtain ⟨oj, s2, hoj, hs2, H2⟩ := H.2 j (ready_mono hj hji)
      obtain ⟨hjun, oj', hoj', hall⟩ := mem_ready.1 hj
      rw [hoj] at hoj'; cases hoj'
      have hnot : ∀ e ∈ oj.after, Region.binds .any e = true → e.on ≠ i := fun e he hb heq => by
        have h1 := hall e he hb
        have h0 := (mem_ready.1 hr).1
        rw [heq] at h1
        rcases Nat.lt_or_ge i listed.size with h' | h'
        · simp [h'] at h0 h1; rw [h0] at h1; cases h1
        · simp [Array.getElem?_eq_none h'] at h1
      obtain ⟨ha, hd⟩ := hfree j oj hoj hji hjun hnot
      obtain ⟨s', hj', hi'⟩ := AStep.swap ha hd hy hs2
      have hfree' : ∀ k ok, all[k]? = some ok → k ≠ i → (listed.setIfInBounds j true).getD k true = false → (∀ e ∈ ok.after, Region.binds .any e = true → e.on ≠ i) → oi.apart all ok = true ∧ disjB (F i) (F k) = true := fun k ok hk hki hun hno => by
        refine hfree k ok hk hki ?_ hno
        by_cases hjk : j = k
        · subst hjk; exact hjun
        · rw [getD_set_ne true hjk] at hun; exact hun
      refine ⟨oj, s', hoj, hj', ih (listed.setIfInBounds j true) s' s2 hfree' (ready_mono hr (Ne.symm hji)) hi' ?_⟩
      rw [Array.setIfInBounds_comm _ _ hji]
      exact H2

/-- No two operations that are free of each other turn, or turn and read, one name. -/
def footFrom (all : Array Oper) (F : Nat → Foot) : Nat → Nat → Array Bool → Bool
  | 0, _, _ => true
  | fuel + 1, k, listed =>
    ((List.range all.size).all fun j => j == k || listed.getD j true || ((all[j]?).map fun o => o.after.any fun e => Region.binds .any e && e.on == k).getD true || disjB (F k) (F j)) && footFrom all F fuel (k + 1) (listed.setIfInBounds k true)

theorem AAny.lex {F : Nat → Foot} {K : St → Prop} : ∀ (l : List Oper) (i : Nat) (listed : Array Bool) (s : St), (∀ j, l[j]? = all[i + j]?) → Region.lexFrom .any all l.length i listed = true → footFrom all F l.length i listed = true → SLx P N all F i l s K → AAny P N all F K l.length listed s
  | [], _, _, s, _, hB, _, h => ⟨by simpa [Region.lexFrom] using hB, h⟩
  | o :: l, i, listed, s, hl, hB, hF, h => by
    have h0 : all[i]? = some o := by simpa using (hl 0).symm
    simp only [List.length_cons, Region.lexFrom, Bool.and_eq_true] at hB
    simp only [List.length_cons, footFrom, Bool.and_eq_true, List.all_eq_true] at hF
    obtain ⟨⟨hr, hf⟩, hB'⟩ := hB
    obtain ⟨s', hs, hK⟩ := h
    refine AAny.first h0 l.length listed s s' (fun j oj hj hji hun hno => ⟨Region.free_spec h0 hf j oj hj hji hun hno, ?_⟩) (by simpa using hr) hs
      (AAny.lex l (i + 1) _ _ (fun j => by have := hl (j + 1); simpa [Nat.add_assoc, Nat.add_comm 1 j] using this) hB' hF.2 hK)
    have hlt : j < all.size := (Array.getElem?_eq_some_iff.1 hj).1
    have := hF.1 j (List.mem_range.2 hlt)
    simp only [Bool.or_eq_true, beq_iff_eq, hj, Option.map_some, Option.getD_some] at this
    rcases this with ((h1 | h1) | h1) | h1
    · exact absurd h1 hji
    · rw [hun] at h1; cases h1
    · simp only [Array.any_eq_true, Bool.and_eq_true, beq_iff_eq] at h1
      obtain ⟨x, hx, hb, he⟩ := h1
      exact absurd he (hno _ (Array.getElem_mem hx) hb)
    · exact h1

/-- A REGION THAT DRAWS ITS ORDER: one lexical run, and what it touches does not clash. -/
theorem Run.draw {id : Nat} {l : List Oper} {s : St} (F : Nat → Foot) (hm : P.follows .mixedOrders = true) (hB : Region.lexB .any l.toArray = true) (hF : footFrom l.toArray F l.length 0 (Array.replicate l.length false) = true)
    (h : SLx P N l.toArray F 0 l s (Run P N Q k)) : Run P N Q (.code (.region id l.toArray true) :: k) s := fun w0 pub0 a w hR => by
  simp only [Region.lexB, Bool.and_eq_true] at hB
  refine wp_region_any hm ?_
  obtain ⟨pub, V, c1, c2, hrel⟩ := hR
  have hR' : Rel N w0 pub0 s a { w with drawn := w.drawn + 1 } := ⟨pub, V, c1, c2, hrel.world ((Below.refl _ _).drew)⟩
  refine AAny.sound (F := F) (K := Run P N Q k) (fun s a w hs hR => hs w0 pub0 a w hR) _ _ s a _ ?_ hR'
  have := AAny.lex (all := l.toArray) l 0 (Array.replicate l.length false) s (by simp) (by simpa using hB.2) hF h
  simpa using this
end
end Go.Px
