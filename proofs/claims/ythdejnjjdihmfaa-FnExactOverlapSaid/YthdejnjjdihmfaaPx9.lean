/-
  PROVED: what operations do to a pure state: stores and appends. Over any program. No condition beyond those that each theorem names.
-/
import Derived.Test.YthdejnjjdihmfaaPx8
import Derived.Laws.AppendOwnNone
namespace Go.Px
set_option linter.unusedSimpArgs false
set_option linter.unusedVariables false
open Go.RowKit

theorem updV_self (V : Nat → Value) (n : Nat) : updV V n (V n) = V := by funext k; by_cases h : k = n <;> simp [updV, h]

section
variable {P : Program} {N : Nat} {w0 w w' : World} {pub pub' : Nat → Nat → Prop} {V : Nat → Value} {s : St} {a : Act}

theorem refs_blk {m : Nat → PV} {n : Nat} {x x' : Bool} {cs cs' : List PV} (hm : m n = .blk x cs) {q : PV} {u : Value} (h : RefOk V m q u) : RefOk V (upd m n (.blk x' cs')) q u := by
  cases h with
  | own k j _ y e sz l hk h1 h2 =>
    have hne : k ≠ n := fun e => by subst e; rw [hm] at hk; cases hk
    exact .own k j u y e sz l (by rw [upd_ne _ _ hne]; exact hk) h1 h2
  | lptr k off y c b hk hv =>
    by_cases hne : k = n
    · subst hne; exact .lptr k off x' cs' b (upd_same _ _ _) hv
    · exact .lptr k off y c b (by rw [upd_ne _ _ hne]; exact hk) hv
  | eptr k j i off _ y e sz l hk h1 h2 =>
    have hne : k ≠ n := fun e => by subst e; rw [hm] at hk; cases hk
    exact .eptr k j i off u y e sz l (by rw [upd_ne _ _ hne]; exact hk) h1 h2

theorem refs_obj {m : Nat → PV} {n : Nat} {x x' : Bool} {e sz : Nat} {l l' : List PV} {v : Value} (hm : m n = .obj x e sz l) (hle : l.length ≤ l'.length) (hv : l'.length = l.length → v = V n) {q : PV} {u : Value}
    (h : RefOk V m q u) : RefOk (updV V n v) (upd m n (.obj x' e sz l')) q u := by
  cases h with
  | own k j _ y e' sz' l0 hk h1 h2 =>
    by_cases hne : k = n
    · subst hne
      rw [hm] at hk; cases hk
      exact .own k j u x' e sz l' (upd_same _ _ _) (by omega) (fun e => by rw [updV_same, hv (by omega)]; exact h2 (by omega))
    · exact .own k j u y e' sz' l0 (by rw [upd_ne _ _ hne]; exact hk) h1 (fun e => by rw [updV_ne _ _ hne]; exact h2 e)
  | lptr k off y c b hk hvv =>
    have hne : k ≠ n := fun e => by subst e; rw [hm] at hk; cases hk
    exact .lptr k off y c b (by rw [upd_ne _ _ hne]; exact hk) (by rw [updV_ne _ _ hne]; exact hvv)
  | eptr k j i off _ y e' sz' l0 hk h1 h2 =>
    by_cases hne : k = n
    · subst hne
      rw [hm] at hk; cases hk
      refine .eptr k j i off u x' e sz l' (upd_same _ _ _) (by omega) (fun e => ?_)
      rw [updV_same, hv (by omega)]
      have h3 := h2 (by omega)
      rw [show l'.length = l.length by omega]
      exact h3
    · exact .eptr k j i off u y e' sz' l0 (by rw [upd_ne _ _ hne]; exact hk) h1 (fun e => by rw [updV_ne _ _ hne]; exact h2 e)

theorem setRow_below (w : World) (g : Nat) (cs : Array Value) : (w.setRow g cs).os = w.os ∧ (w.setRow g cs).tape = w.tape ∧ (w.setRow g cs).output = w.output ∧ (w.setRow g cs).heap.size = w.heap.size := ⟨rfl, rfl, rfl, by simp⟩

/-- Storing into a variable of the call's own. -/
theorem Rel0.storeBlk (h : Rel0 N w0 pub V s a w) {n off : Nat} {cs : List PV} (hm : s.mem n = .blk true cs) {b : Nat} (hb : V n = .pointer (some ⟨b, 0, none⟩)) {t : TypeId} {g : Bool} {sz : Nat} (ht : shp P t = some (g, sz))
    {p : PV} {v : Value} (hcur : Cur s.mem p) (hv : RV pub w V s.mem p v) (hsz : p.cells.length = sz) (hfit : off + sz ≤ cs.length) :
    ∃ w', (storeVar t ⟨b, off, none⟩ v).run P w = .ok () w' ∧ Rel0 N w0 pub V { s with mem := upd s.mem n (.blk true (cs.take off ++ p.cells ++ cs.drop (off + sz))) } a w' := by
  obtain ⟨hc1, hc2⟩ := hcur.cells h hv
  have hmn := h.mem n
  rw [hm, hb] at hmn
  cases hmn with
  | blk _ _ g' arr T hvv hB hg hs hp hq hc hr =>
    simp only [Value.pointer.injEq, Option.some.injEq, Addr.mk.injEq, and_true] at hvv
    subst hvv
    have h1 : ∀ u ∈ v.cells.toList, u.oneCell' = true := fun u hu => by
      obtain ⟨j, hj⟩ := List.mem_iff_getElem?.1 hu
      have hlt : j < v.cells.size := by have := (List.getElem?_eq_some_iff.1 hj).1; simpa using this
      have := (hc2 j _ (List.getElem?_eq_getElem (by omega))).1
      rw [Array.getElem?_toList] at hj
      simpa [hj] using this
    have hlen : v.cells.toList.length = sz := by simp [hc1, hsz]
    have hst := run_storeCells_at P b off T v.cells.toList 0 arr w hg (by rw [hlen]; omega) h1
    simp only [Nat.add_zero] at hst
    refine ⟨_, by
      unfold storeVar
      have hne : ¬ (v.cells.size ≠ sz) := by omega
      simp only [Sem.run_bind, shp_size ht w, Result.andThen_ok, hne, if_false]
      exact hst, ?_⟩
    have hsp := fun j => splice_get arr.toList v.cells.toList off j (by rw [hlen]; simp; omega)
    have hsp2 := fun j => splice_get cs p.cells off j (by omega)
    rw [hlen] at *
    rw [hsz] at hsp2
    have hrel := h.touch (pub' := pub) (w' := w.setRow b (arr.toList.take off ++ v.cells.toList ++ arr.toList.drop (off + sz)).toArray) n (by rw [hm]; intro e; cases e) (V n) (.blk true (cs.take off ++ p.cells ++ cs.drop (off + sz))) (fun e => by cases e)
      (by simp) rfl rfl rfl (fun k _ hk => setRow_other w b k _ (fun e => hk (by rw [hb, e]; rfl))) (fun _ _ h => h) (fun _ _ h => .inl h)
      (fun k hk => by rw [hb] at hk; simp [blockOf] at hk; subst hk; simp; exact (Array.getElem?_eq_some_iff.1 hg).1)
      (fun k o ho => World.cell?_of_block (a := ⟨k, o, none⟩) (setRow_other w b k _ (fun e => by subst e; have := hp o ho; cases this)))
      (.inl rfl) (fun q u hq => by rw [updV_self]; exact refs_blk hm hq)
      (fun t => by
        refine .blk true _ b _ T hb hB (setRow_heap w b arr _ T (0, 0) hg) (by simp [hc1, hsz]; omega) hp (fun h => by cases h) (fun j c hj => ?_) (fun h => by cases h)
        rw [hsp2 j] at hj
        have hget : ∀ (L : List Value), L.toArray.getD j Go.undef = (L[j]?).getD Go.undef := fun L => by simp
        rw [hget, hsp j]
        by_cases h1 : j < off
        · rw [if_pos h1] at hj ⊢
          have := hc j c hj
          rw [Array.getElem?_toList]
          exact ⟨by simpa using this.1, t.rv (by simpa using this.2)⟩
        · rw [if_neg h1] at hj ⊢
          by_cases h2 : j < off + sz
          · rw [if_pos h2] at hj ⊢
            have := hc2 (j - off) c hj
            rw [Array.getElem?_toList]
            exact ⟨by simpa using this.1, t.rv (by simpa using this.2)⟩
          · rw [if_neg h2] at hj ⊢
            have := hc j c hj
            rw [Array.getElem?_toList]
            exact ⟨by simpa using this.1, t.rv (by simpa using this.2)⟩)
    rw [updV_self] at hrel
    exact hrel

theorem flat_set {sz : Nat} : ∀ {l : List PV}, (∀ e ∈ l, e.cells.length = sz) → ∀ (i : Nat) (el el' : PV), l[i]? = some el → el'.cells.length = sz → flat (l.set i el') = (flat l).take (i * sz) ++ el'.cells ++ (flat l).drop (i * sz + sz)
  | [], _, i, el, el', hi, _ => by simp at hi
  | y :: l, h, 0, el, el', hi, he => by
    have hy := h y (List.mem_cons_self ..)
    simp [flat_cons, ← hy]
  | y :: l, h, i + 1, el, el', hi, he => by
    have hy := h y (List.mem_cons_self ..)
    have ih := flat_set (fun e he => h e (List.mem_cons_of_mem _ he)) i el el' (by simpa using hi) he
    have t1 : (y.cells ++ flat l).take (i * sz + sz) = y.cells ++ (flat l).take (i * sz) := by
      rw [List.take_append, List.take_of_length_le (by omega)]; congr 2; omega
    have t2 : (y.cells ++ flat l).drop (i * sz + sz + sz) = (flat l).drop (i * sz + sz) := by
      rw [List.drop_append, List.drop_eq_nil_of_le (by omega), List.nil_append]; congr 1; omega
    rw [List.set_cons_succ, flat_cons, ih, flat_cons, Nat.add_mul, Nat.one_mul, t1, t2]
    simp

/-- An element of which some cells are replaced. -/
def setEl (el : PV) (off : Nat) (p : PV) : PV :=
  match el with
  | .agg cs => .agg (cs.take off ++ p.cells ++ cs.drop (off + p.cells.length))
  | _ => p

theorem setEl_cells {el : PV} {off : Nat} {p : PV} (h : off + p.cells.length ≤ el.cells.length) (hp : 0 < p.cells.length) : (setEl el off p).cells = el.cells.take off ++ p.cells ++ el.cells.drop (off + p.cells.length) := by
  unfold setEl
  split
  · rfl
  · rename_i hne
    have h1 : el.cells = [el] := by cases el <;> first | rfl | exact absurd rfl (hne _)
    rw [h1] at h ⊢
    simp at h
    have h2 : off = 0 := by omega
    have h3 : p.cells.length = 1 := by omega
    rw [h2, h3]; simp

theorem take_splice {α : Type} (l v : List α) (o n : Nat) (h : o + v.length ≤ n) (hn : n ≤ l.length) : (l.take o ++ v ++ l.drop (o + v.length)).take n = (l.take n).take o ++ v ++ (l.take n).drop (o + v.length) := by
  have ho : (l.take o).length = o := by simp; omega
  rw [List.append_assoc, List.take_append, List.take_append, ho]
  rw [List.take_of_length_le (l := l.take o) (by omega), List.take_of_length_le (l := v) (by omega), List.take_take, Nat.min_eq_left (by omega : o ≤ n)]
  rw [List.drop_take, List.append_assoc]
  congr 3; omega

/-- Storing into an element of a slice of the call's own that nobody else sees. -/
theorem Rel0.storeObj (h : Rel0 N w0 pub V s a w) {n : Nat} {e sz' : Nat} {l : List PV} (hm : s.mem n = .obj true e sz' l) {i off : Nat} {el : PV} (hi : l[i]? = some el) {g cap : Nat} (hb : V n = .slice (some ⟨g, 0, none⟩) l.length cap)
    {t : TypeId} {ag : Bool} {sz : Nat} (ht : shp P t = some (ag, sz)) {p : PV} {v : Value} (hv : Rep pub w p v) (hsz : p.cells.length = sz) (h0 : 0 < sz) (hfit : off + sz ≤ sz')
    (hcells : v.cells.size = sz ∧ ∀ (j : Nat) c, p.cells[j]? = some c → (v.cells.getD j Go.undef).oneCell' = true ∧ Rep pub w c (v.cells.getD j Go.undef)) :
    ∃ w', (storeVar t ⟨g, i * sz' + off, none⟩ v).run P w = .ok () w' ∧ Rel0 N w0 pub V { s with mem := upd s.mem n (.obj true e sz' (l.set i (setEl el off p))) } a w' := by
  obtain ⟨hc1, hc2⟩ := hcells
  have hmn := h.mem n
  rw [hm] at hmn
  have hil : i < l.length := (List.getElem?_eq_some_iff.1 hi).1
  cases hmn with
  | obj _ _ _ _ xs hs0 hl how hp hq hc =>
    have hown := how
    rw [hb] at hown
    rcases how.2 with ⟨hv0, h0'⟩ | ⟨g', cap', cur, hv0, hB, hh, hnc, hcm, hcs, htake⟩
    · omega
    · rw [hb] at hv0
      simp only [Value.slice.injEq, Option.some.injEq, Addr.mk.injEq, and_true, true_and] at hv0
      obtain ⟨rfl, rfl⟩ := hv0
      have hel := hl el (List.mem_of_getElem? hi)
      have hle : (i + 1) * sz' ≤ l.length * sz' := Nat.mul_le_mul_right _ hil
      rw [Nat.add_mul, Nat.one_mul] at hle
      have hcap : l.length * sz' ≤ cap * sz' := Nat.mul_le_mul_right _ hnc
      have h1 : ∀ u ∈ v.cells.toList, u.oneCell' = true := fun u hu => by
        obtain ⟨j, hj⟩ := List.mem_iff_getElem?.1 hu
        have hlt : j < v.cells.size := by have := (List.getElem?_eq_some_iff.1 hj).1; simpa using this
        have := (hc2 j _ (List.getElem?_eq_getElem (by omega))).1
        rw [Array.getElem?_toList] at hj
        simpa [hj] using this
      have hlen : v.cells.toList.length = sz := by simp [hc1]
      have hcl : cur.toList.length = cap * sz' := by simp [hcs]
      have hst := run_storeCells_at P g (i * sz' + off) e v.cells.toList 0 cur w hh (by rw [hlen]; omega) h1
      simp only [Nat.add_zero] at hst
      refine ⟨_, by
        unfold storeVar
        have hne : ¬ (v.cells.size ≠ sz) := by omega
        simp only [Sem.run_bind, shp_size ht w, Result.andThen_ok, hne, if_false]
        exact hst, ?_⟩
      have hfl := flat_length hl
      have hsel : (setEl el off p).cells.length = sz' := by rw [setEl_cells (by omega) (by omega)]; simp; omega
      have hnewl : ∀ e' ∈ l.set i (setEl el off p), e'.cells.length = sz' := fun e' he' => by
        rcases List.mem_or_eq_of_mem_set he' with h | h
        · exact hl e' h
        · rw [h]; exact hsel
      have hflat : flat (l.set i (setEl el off p)) = (flat l).take (i * sz' + off) ++ p.cells ++ (flat l).drop (i * sz' + off + sz) := by
        rw [flat_set hl i el _ hi hsel, setEl_cells (by omega) (by omega), hsz]
        have hel2 : el.cells = ((flat l).drop (i * sz')).take sz' := by
          apply List.ext_getElem?
          intro j
          by_cases hj : j < sz'
          · rw [List.getElem?_take_of_lt hj, List.getElem?_drop]
            exact (List.getElem?_eq_getElem (by omega)).trans (flat_get hl hi (List.getElem?_eq_getElem (by omega))).symm
          · rw [List.getElem?_eq_none (by omega), List.getElem?_eq_none (by simp; omega)]
        rw [hel2, List.take_take, Nat.min_eq_left (by omega), List.drop_take, List.drop_drop]
        have e1 : (flat l).take (i * sz' + off) = (flat l).take (i * sz') ++ ((flat l).drop (i * sz')).take off := by rw [List.take_add]
        have e2 : (flat l).drop (i * sz' + off + sz) = ((flat l).drop (i * sz' + (off + sz))).take (sz' - (off + sz)) ++ (flat l).drop (i * sz' + sz') := by
          have e3 := (List.take_append_drop (sz' - (off + sz)) ((flat l).drop (i * sz' + (off + sz)))).symm
          rw [List.drop_drop, show i * sz' + (off + sz) + (sz' - (off + sz)) = i * sz' + sz' by omega] at e3
          rw [show i * sz' + off + sz = i * sz' + (off + sz) by omega]
          exact e3
        rw [e1, e2]; simp
      have hxs := how.1
      have hnewx : ((cur.toList.take (i * sz' + off) ++ v.cells.toList ++ cur.toList.drop (i * sz' + off + v.cells.toList.length))).take (l.length * sz') = xs.take (i * sz' + off) ++ v.cells.toList ++ xs.drop (i * sz' + off + v.cells.toList.length) := by
        have := take_splice cur.toList v.cells.toList (i * sz' + off) (l.length * sz') (by omega) (by omega)
        rw [this, htake]
      have hrel := h.touch (pub' := pub) (w' := w.setRow g (cur.toList.take (i * sz' + off) ++ v.cells.toList ++ cur.toList.drop (i * sz' + off + v.cells.toList.length)).toArray) n (by rw [hm]; intro e; cases e) (V n) (.obj true e sz' (l.set i (setEl el off p))) (fun e => by cases e)
        (by simp) rfl rfl rfl (fun k _ hk => setRow_other w g k _ (fun e => hk (by rw [hb, e]; rfl))) (fun _ _ h => h) (fun _ _ h => .inl h)
        (fun k hk => by rw [hb] at hk; simp [blockOf] at hk; subst hk; simp; exact (Array.getElem?_eq_some_iff.1 hh).1)
        (fun k o ho => World.cell?_of_block (a := ⟨k, o, none⟩) (setRow_other w g k _ (fun e => by subst e; have := (hp k o (by rw [hb]; rfl) ho).1; cases this)))
        (.inl rfl) (fun q u hq => refs_obj hm (by simp) (fun _ => rfl) hq)
        (fun t => by
          refine .obj true e sz' _ (xs.take (i * sz' + off) ++ v.cells.toList ++ xs.drop (i * sz' + off + v.cells.toList.length)) hs0 hnewl ⟨by simp only [List.length_append, List.length_take, List.length_drop, List.length_set, hlen]; omega, .inr ⟨g, cap, _, by rw [hb]; simp, hB, setRow_heap w g cur _ e (0, 0) hh, by simpa using hnc, hcm, by simp only [List.size_toArray, List.length_append, List.length_take, List.length_drop, hlen, hcl]; omega, ?_⟩⟩ (fun g' o hg' ho => ?_) (fun h => by cases h) (fun k c hk => ?_)
          · simp only [List.length_set]; exact hnewx
          · have := (hp g' o hg' ho).1; cases this
          · rw [hflat] at hk
            have hs2 := splice_get (flat l) p.cells (i * sz' + off) k (by omega)
            rw [hsz] at hs2
            rw [hs2] at hk
            have hs1 := splice_get xs v.cells.toList (i * sz' + off) k (by omega)
            have hget : ∀ (L : List Value), L.getD k Go.undef = (L[k]?).getD Go.undef := fun L => by simp
            rw [hget, hs1]
            by_cases h1 : k < i * sz' + off
            · rw [if_pos h1] at hk ⊢
              have := hc k c hk
              exact ⟨by simpa using this.1, t.rep (by simpa using this.2)⟩
            · rw [if_neg h1] at hk ⊢
              by_cases h2 : k < i * sz' + off + sz
              · rw [if_pos h2] at hk
                rw [if_pos (by omega)]
                have := hc2 (k - (i * sz' + off)) c hk
                rw [Array.getElem?_toList]
                exact ⟨by simpa using this.1, t.rep (by simpa using this.2)⟩
              · rw [if_neg h2] at hk
                rw [if_neg (by omega)]
                have := hc k c hk
                exact ⟨by simpa using this.1, t.rep (by simpa using this.2)⟩)
      rw [updV_self] at hrel
      exact hrel
end
end Go.Px
