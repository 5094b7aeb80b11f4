/-
  PROVED: how a pure state is kept when the world turns. Over any program. No condition beyond those that each theorem names.
-/
import Derived.Test.YthdejnjjdihmfaaPx1
namespace Go.Px
set_option linter.unusedSimpArgs false
set_option linter.unusedVariables false
open Go.RowKit

def upd (m : Nat → PV) (n : Nat) (p : PV) : Nat → PV := fun k => if k = n then p else m k
theorem upd_same (m : Nat → PV) (n : Nat) (p : PV) : upd m n p n = p := by simp [upd]
theorem upd_ne (m : Nat → PV) {n k : Nat} (p : PV) (h : k ≠ n) : upd m n p k = m k := by simp [upd, h]
def updV (V : Nat → Value) (n : Nat) (v : Value) : Nat → Value := fun k => if k = n then v else V k
theorem updV_same (V : Nat → Value) (n : Nat) (v : Value) : updV V n v n = v := by simp [updV]
theorem updV_ne (V : Nat → Value) {n k : Nat} (v : Value) (h : k ≠ n) : updV V n v k = V k := by simp [updV, h]

theorem RV.mono {pub pub' : Nat → Nat → Prop} {w w' : World} {V V' : Nat → Value} {m m' : Nat → PV} (hp : ∀ b o, pub b o → pub' b o) (hw : ∀ b o, pub b o → w'.cell? ⟨b, o, none⟩ = w.cell? ⟨b, o, none⟩)
    (hr : ∀ p v, RefOk V m p v → RefOk V' m' p v) {p : PV} {v : Value} (h : RV pub w V m p v) : RV pub' w' V' m' p v := by
  induction h with
  | undef v => exact .undef v
  | pure h => exact .pure (h.mono hp hw)
  | ref h => exact .ref (hr _ _ h)
  | agg cs arr hs hd _ ih => exact .agg cs arr hs hd ih
  | tuple cs arr hs _ ih => exact .tuple cs arr hs ih

/-- A turn of the world that leaves all names but those touched as they were. -/
structure Tr (pub : Nat → Nat → Prop) (w : World) (V : Nat → Value) (m : Nat → PV) (pub' : Nat → Nat → Prop) (w' : World) (V' : Nat → Value) (m' : Nat → PV) (T : Nat → Prop) : Prop where
  pubs : ∀ b o, pub b o → pub' b o
  cells : ∀ b o, pub b o → w'.cell? ⟨b, o, none⟩ = w.cell? ⟨b, o, none⟩
  refs : ∀ p v, RefOk V m p v → RefOk V' m' p v
  same : ∀ n, ¬ T n → m n ≠ .undef → V' n = V n
  memSame : ∀ n, ¬ T n → m' n = m n
  blocks : ∀ n g, ¬ T n → m n ≠ .undef → blockOf (V n) = some g → w'.heap[g]? = w.heap[g]? ∧ ∀ o, pub' g o → pub g o

section
variable {pub pub' : Nat → Nat → Prop} {w w' : World} {V V' : Nat → Value} {m m' : Nat → PV} {T : Nat → Prop} {B : Nat}

theorem Tr.rv (t : Tr pub w V m pub' w' V' m' T) {p : PV} {v : Value} (h : RV pub w V m p v) : RV pub' w' V' m' p v := h.mono t.pubs t.cells t.refs
theorem Tr.rep (t : Tr pub w V m pub' w' V' m' T) {p : PV} {v : Value} (h : Rep pub w p v) : Rep pub' w' p v := h.mono t.pubs t.cells

theorem ownsRow_of_block {e sz n : Nat} {v : Value} {xs : List Value} (h : w.ownsRow B e sz v n xs) (hb : ∀ g, v.ownBlock = some g → w'.heap[g]? = w.heap[g]?) : w'.ownsRow B e sz v n xs := by
  obtain ⟨h1, h2⟩ := h
  refine ⟨h1, ?_⟩
  rcases h2 with h2 | ⟨g, cap, cur, rfl, hg, hh, r⟩
  · exact .inl h2
  · exact .inr ⟨g, cap, cur, rfl, hg, (hb g rfl).trans hh, r⟩

theorem ownBlock_blockOf {v : Value} {g : Nat} (h : v.ownBlock = some g) : blockOf v = some g := by
  unfold Value.ownBlock at h
  split at h
  · simpa [blockOf] using h
  · cases h

theorem Tr.memOk (t : Tr pub w V m pub' w' V' m' T) {n : Nat} (hT : ¬ T n) (h : MemOk pub w V m B (V n) (m n)) : MemOk pub' w' V' m' B (V' n) (m' n) := by
  rw [t.memSame n hT]
  by_cases hu : m n = .undef
  · rw [hu]; exact .undef
  rw [t.same n hT hu]
  have hb := fun g => t.blocks n g hT hu
  generalize V n = v at *
  generalize hmn : m n = p at *
  cases h with
  | undef => exact .undef
  | blk x cs g arr T' hv hB hg hs hp hq hc hr =>
    subst hv
    obtain ⟨h1, h2⟩ := hb g rfl
    exact .blk x cs g arr T' rfl hB (h1.trans hg) hs (fun o ho => hp o (h2 o ho)) (fun hx o ho => t.pubs _ _ (hq hx o ho)) (fun j c hj => ⟨(hc j c hj).1, t.rv (hc j c hj).2⟩) (fun hx j c hj => t.rep (hr hx j c hj))
  | obj x e sz l xs hsz hl how hp hq hc =>
    have hbb : ∀ g, v.ownBlock = some g → w'.heap[g]? = w.heap[g]? ∧ ∀ o, pub' g o → pub g o := fun g hg => hb g (ownBlock_blockOf hg)
    exact .obj x e sz l xs hsz hl (ownsRow_of_block how fun g hg => (hbb g hg).1) (fun g o hg ho => hp g o hg ((hbb g hg).2 o ho)) (fun hx g o hg ho => t.pubs _ _ (hq hx g o hg ho)) (fun i c hi => ⟨(hc i c hi).1, t.rep (hc i c hi).2⟩)

/-- The frame and the world behind a turn: what is left to show is told of the touched names, of the new value and of the world. -/
theorem Rel0.turn {N : Nat} {w0 : World} {s : St} {a : Act} (h : Rel0 N w0 pub V s a w) (t : Tr pub w V s.mem pub' w' V' m' T) (hb : Below w0.heap.size w w') (hlt : ∀ b o, pub' b o → b < w'.heap.size)
    (hT : ∀ n, T n → MemOk pub' w' V' m' w0.heap.size (V' n) (m' n))
    (hap : ∀ n k g, n ≠ k → m' n ≠ .undef → m' k ≠ .undef → blockOf (V' n) = some g → blockOf (V' k) = some g → False) : Rel0 N w0 pub' V' { s with mem := m' } a w' :=
  ⟨h.defers, h.size, h.below.trans hb, hlt, fun k => t.rv (h.slots k), fun n => by
    by_cases hn : T n
    · exact hT n hn
    · exact t.memOk hn (h.mem n), fun n k g h1 h2 h3 h4 => Classical.byContradiction fun hne => hap n k g hne h1 h2 h3 h4⟩

/-- A slot is written. -/
theorem Rel0.put {N : Nat} {w0 : World} {s : St} {a : Act} (h : Rel0 N w0 pub V s a w) (d : Nat) {p : PV} {v : Value} (hd : d < N) (hv : RV pub w V s.mem p v) :
    Rel0 N w0 pub V { s with slot := upd s.slot d p } (a.put (some d) v) w := by
  refine ⟨h.defers, by simpa [Act.put] using h.size, h.below, h.pubLt, fun t => ?_, h.mem, h.apart⟩
  have hN := h.size
  by_cases ht : t = d
  · subst ht
    simp only [upd_same]
    have : (a.put (some t) v).tmps.getD t Go.undef = v := by
      simp [Act.put, hN, hd]
    rw [this]; exact hv
  · simp only [upd_ne _ _ ht]
    have : (a.put (some d) v).tmps.getD t Go.undef = a.tmps.getD t Go.undef := by
      simp [Act.put, Array.getElem?_setIfInBounds_ne (Ne.symm ht)]
    rw [this]; exact h.slots t
end
end Go.Px
