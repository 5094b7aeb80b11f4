/-
  PROVED: what operations do to a pure state: those that make or write memory. Over any program. No condition beyond those that each theorem names.
-/
import Derived.Test.YthdejnjjdihmfaaPx7
namespace Go.Px
set_option linter.unusedSimpArgs false
set_option linter.unusedVariables false
open Go.RowKit

/-- A type's zero value, as cells. -/
def zeroPV (P : Program) (t : TypeId) : Option (List PV) :=
  match P.info? t with
  | some i => match i.zero with
    | some z => if z.cells.toList.all Value.oneCell' then some (z.cells.toList.map constCell) else none
    | none => none
  | none => none

/-- What can be kept in a variable: nothing stale. -/
inductive Cur (m : Nat → PV) : PV → Prop where
  | plain (p : PV) (h : p.plain = true) : Cur m p
  | own (n k : Nat) (x : Bool) (e sz : Nat) (l : List PV) (hm : m n = .obj x e sz l) (hk : k = l.length) : Cur m (.own n k)
  | lptr (n off : Nat) : Cur m (.lptr n off)
  | agg (cs : List PV) : Cur m (.agg cs)

theorem splice_get {α : Type} (l v : List α) (o j : Nat) (h : o + v.length ≤ l.length) : (l.take o ++ v ++ l.drop (o + v.length))[j]? = if j < o then l[j]? else if j < o + v.length then v[j - o]? else l[j]? := by
  have ho : (l.take o).length = o := by simp; omega
  by_cases h1 : j < o
  · rw [if_pos h1, List.append_assoc, List.getElem?_append_left (by omega), List.getElem?_take_of_lt h1]
  · rw [if_neg h1]
    by_cases h2 : j < o + v.length
    · rw [if_pos h2, List.append_assoc, List.getElem?_append_right (by omega), ho, List.getElem?_append_left (by omega)]
    · rw [if_neg h2, List.getElem?_append_right (by simp; omega), List.getElem?_drop]
      congr 1; simp; omega

section
variable {P : Program} {N : Nat} {w0 w w' : World} {pub pub' : Nat → Nat → Prop} {V : Nat → Value} {s : St} {a : Act}

theorem zeroPV_spec {t : TypeId} {cs : List PV} (h : zeroPV P t = some cs) : ∃ z : Value, (zeroValue t).run P w = .ok z w ∧ z.cells.size = cs.length ∧
    ∀ (j : Nat) c, cs[j]? = some c → (z.cells.getD j Go.undef).oneCell' = true ∧ ∀ m, RV pub w V m c (z.cells.getD j Go.undef) := by
  unfold zeroPV at h
  split at h <;> try cases h
  rename_i i hi
  split at h <;> try cases h
  rename_i z hz
  split at h <;> cases h
  rename_i hall
  refine ⟨z, by simp [zeroValue, typeInfo, hi, hz], by simp, fun j c hj => ?_⟩
  simp only [List.getElem?_map, Option.map_eq_some_iff, Array.getElem?_toList] at hj
  obtain ⟨u, hu, rfl⟩ := hj
  have : z.cells.getD j Go.undef = u := by simp [hu]
  rw [this]
  exact ⟨List.all_eq_true.1 hall u (by rw [Array.mem_toList_iff]; exact Array.mem_of_getElem? hu), fun m => constCell_rep pub w V m u⟩

theorem MemOk.slice_val {B : Nat} {m : Nat → PV} {v : Value} {x : Bool} {e sz : Nat} {l : List PV} (h : MemOk pub w V m B v (.obj x e sz l)) : v.oneCell' = true ∧ ∀ arr, v ≠ .agg arr := by
  cases h with
  | obj _ _ _ _ xs hsz hl how hp hq hc =>
    rcases how.2 with ⟨rfl, h0⟩ | ⟨g, cap, cur, rfl, _⟩ <;> exact ⟨rfl, fun _ h => by cases h⟩

theorem Cur.cells {p : PV} (hc : Cur s.mem p) (h : Rel0 N w0 pub V s a w) {v : Value} (hv : RV pub w V s.mem p v) :
    v.cells.size = p.cells.length ∧ ∀ (j : Nat) c, p.cells[j]? = some c → (v.cells.getD j Go.undef).oneCell' = true ∧ RV pub w V s.mem c (v.cells.getD j Go.undef) := by
  have one : ∀ {q : PV} {u : Value}, RV pub w V s.mem q u → u.oneCell' = true → (∀ arr, u ≠ .agg arr) → q.cells = [q] → u.cells.size = q.cells.length ∧ ∀ (j : Nat) c, q.cells[j]? = some c → (u.cells.getD j Go.undef).oneCell' = true ∧ RV pub w V s.mem c (u.cells.getD j Go.undef) := by
    intro q u hq h1 h2 hcells
    have hu : u.cells = #[u] := by cases u <;> first | rfl | exact absurd rfl (h2 _)
    rw [hu, hcells]
    refine ⟨rfl, fun j c hj => ?_⟩
    have hj0 : j = 0 := by have := (List.getElem?_eq_some_iff.1 hj).1; simpa using this
    subst hj0; simp at hj; subst hj; exact ⟨h1, hq⟩
  cases hc with
  | plain _ hp =>
    have hr := hv.plain hp
    have h1 : v.oneCell' = true := hr.cell (by cases p <;> first | rfl | cases hp)
    exact one hv h1 (fun arr e => by subst e; cases h1) (by cases p <;> first | rfl | cases hp)
  | own n k x e sz l hm hk =>
    obtain ⟨x', e', sz', l', hm', _, hv'⟩ := hv.own_inv
    rw [hm] at hm'; cases hm'
    have hmn := h.mem n
    rw [hm] at hmn
    have := hmn.slice_val
    rw [← hv' hk] at this
    exact one hv this.1 this.2 rfl
  | lptr n off =>
    obtain ⟨x', cs', b, hm', hb, rfl⟩ := hv.lptr_inv
    exact one hv rfl (fun _ h => by cases h) rfl
  | agg cs =>
    obtain ⟨arr, rfl, hs, hc⟩ := hv.agg_inv
    exact ⟨hs, hc⟩

/-- A new variable. -/
theorem Rel0.newBlk (h : Rel0 N w0 pub V s a w) (n : Nat) (hn : s.mem n = .undef) (arr : Array Value) (T : TypeId) (cs : List PV) (hs : arr.size = cs.length)
    (hc : ∀ (j : Nat) c, cs[j]? = some c → (arr.getD j Go.undef).oneCell' = true ∧ RV pub w V s.mem c (arr.getD j Go.undef)) :
    Rel0 N w0 pub (updV V n (.pointer (some ⟨w.heap.size, 0, none⟩))) { s with mem := upd s.mem n (.blk true cs) } a (w.alloc (.cells arr T (0, 0))) := by
  refine h.new n hn _ _ ((Below.refl _ _).alloc (Nat.le_refl _) _) (fun e => by cases e) (fun g hg => by simp [blockOf] at hg; omega) (fun t => ?_)
  exact .blk true cs w.heap.size arr T rfl h.below.size (heap_alloc_new w _) hs (fun o ho => absurd (h.pubLt _ _ ho) (by omega)) (fun h => by cases h) (fun j c hj => ⟨(hc j c hj).1, t.rv (hc j c hj).2⟩) (fun h => by cases h)

/-- A new slice of the call's own. -/
theorem Rel0.newObj (h : Rel0 N w0 pub V s a w) (n : Nat) (hn : s.mem n = .undef) (x : Bool) (e sz : Nat) (l : List PV) (v : Value) (xs : List Value) (hb : Below w.heap.size w w') (hsz : 0 < sz)
    (hl : ∀ e ∈ l, e.cells.length = sz) (how : w'.ownsRow w.heap.size e sz v l.length xs)
    (hc : ∀ (i : Nat) c, (flat l)[i]? = some c → (xs.getD i Go.undef).oneCell' = true ∧ Rep pub w c (xs.getD i Go.undef)) :
    ∃ pub', (∀ b o, pub b o → pub' b o) ∧ (∀ b o, pub' b o → pub b o ∨ w.heap.size ≤ b) ∧ Rel0 N w0 pub' (updV V n v) { s with mem := upd s.mem n (.obj x e sz l) } a w' := by
  have hge : ∀ g, v.ownBlock = some g → w.heap.size ≤ g ∧ g < w'.heap.size := fun g hg => how.lt g hg
  have hbo : blockOf v = v.ownBlock := by
    rcases how.2 with ⟨rfl, _⟩ | ⟨g, cap, cur, rfl, _⟩ <;> rfl
  have how0 : w'.ownsRow w0.heap.size e sz v l.length xs := ⟨how.1, how.2.imp id fun ⟨g, cap, cur, h1, h2, h3⟩ => ⟨g, cap, cur, h1, Nat.le_trans h.below.size h2, h3⟩⟩
  refine ⟨fun b o => pub b o ∨ (x = false ∧ v.ownBlock = some b ∧ o < l.length * sz), fun b o h => .inl h, fun b o ho => ho.imp id fun h => (hge b h.2.1).1, ?_⟩
  have hrel := h.world hb
  have hr2 : Rel0 N w0 pub (updV V n v) { s with mem := upd s.mem n (.obj true e sz l) } a w' := by
    refine h.new n hn v _ hb (fun e => by cases e) (fun g hg => (hge g (hbo ▸ hg)).1) (fun t => ?_)
    exact .obj true e sz l xs hsz hl how0 (fun g o hg ho => absurd (h.pubLt _ _ ho) (by have := (hge g hg).1; omega)) (fun h => by cases h) (fun i c hi => ⟨(hc i c hi).1, t.rep (hc i c hi).2⟩)
  cases x with
  | true =>
    have : (fun b o => pub b o ∨ (true = false ∧ v.ownBlock = some b ∧ o < l.length * sz)) = pub := by
      funext b o; simp
    rw [this]; exact hr2
  | false =>
    have hm2 : upd s.mem n (.obj true e sz l) n = .obj true e sz l := upd_same _ _ _
    have h3 := hr2.touch (pub' := fun b o => pub b o ∨ (false = false ∧ v.ownBlock = some b ∧ o < l.length * sz)) (w' := w') n (by simp [upd_same]) v (.obj false e sz l) (fun e => by cases e) (Nat.le_refl _) rfl rfl rfl (fun _ _ _ => rfl) (fun b o h => .inl h)
      (fun b o ho => ho.imp id fun h => by rw [hbo]; exact h.2.1) (fun b hb' => (hge b (hbo ▸ hb')).2) (fun _ _ _ => rfl) (.inl (by rw [updV_same]))
      (fun q u hq => by
        cases hq with
        | own k j _ x' e' sz' l' hm hk hh =>
          by_cases hkn : k = n
          · subst hkn
            simp only [upd_same] at hm; cases hm
            exact .own k j u false e sz l (by simp [upd_same]) hk (fun e => by rw [updV_same]; exact (hh e).trans (updV_same _ _ _))
          · exact .own k j u x' e' sz' l' (by simp only [upd_ne _ _ hkn] at hm ⊢; exact hm) hk (fun e => by rw [updV_ne _ _ hkn]; exact hh e)
        | lptr k off x' cs b hm hv =>
          have hkn : k ≠ n := fun e => by subst e; simp only [upd_same] at hm; cases hm
          exact .lptr k off x' cs b (by simp only [upd_ne _ _ hkn] at hm ⊢; exact hm) (by rw [updV_ne _ _ hkn]; exact hv)
        | eptr k j i off _ x' e' sz' l' hm hk hh =>
          by_cases hkn : k = n
          · subst hkn
            simp only [upd_same] at hm; cases hm
            exact .eptr k j i off u false e sz l (by simp [upd_same]) hk (fun e => by rw [updV_same]; simpa [updV_same] using hh e)
          · exact .eptr k j i off u x' e' sz' l' (by simp only [upd_ne _ _ hkn] at hm ⊢; exact hm) hk (fun e => by rw [updV_ne _ _ hkn]; exact hh e))
      (fun t => .obj false e sz l xs hsz hl how0 (fun g o hg ho => ⟨rfl, by
          rcases ho with ho | ho
          · exact absurd (h.pubLt _ _ ho) (by have := (hge g hg).1; omega)
          · exact ho.2.2⟩) (fun _ g o hg ho => .inr ⟨rfl, hg, ho⟩) (fun i c hi => ⟨(hc i c hi).1, t.rep ((hc i c hi).2.mono (fun _ _ h => h) (fun b o ho => hb.cell (p := ⟨b, o, none⟩) (h.pubLt b o ho)))⟩))
    have e1 : updV (updV V n v) n v = updV V n v := by funext k; by_cases hk : k = n <;> simp [updV, hk]
    have e2 : upd (upd s.mem n (.obj true e sz l)) n (.obj false e sz l) = upd s.mem n (.obj false e sz l) := by funext k; by_cases hk : k = n <;> simp [upd, hk]
    rw [e1] at h3
    rw [← e2]
    exact h3
end
end Go.Px
