/-
  PROVED: the operations that leave the memory as it is, proved. Over any program. No condition beyond those that each theorem names.
-/
import Derived.Test.YthdejnjjdihmfaaPx5
namespace Go.Px
set_option linter.unusedSimpArgs false
set_option linter.unusedVariables false
open Go.RowKit

def PV.plain : PV → Bool
  | .lit _ => true | .err => true | .nils => true | .slice _ => true | .fn _ _ => true | .cptr _ _ => true | _ => false

/-- Operands as pure values: what is of the call's own must have been published. -/
inductive PurL (m : Nat → PV) : List PV → List PV → List Nat → Prop where
  | nil : PurL m [] [] []
  | plain (p : PV) (ps ps' : List PV) (R : List Nat) (hp : p.plain = true) (h : PurL m ps ps' R) : PurL m (p :: ps) (p :: ps') R
  | own (n k e sz : Nat) (l ps ps' : List PV) (R : List Nat) (hm : m n = .obj false e sz l) (hk : k = l.length) (h : PurL m ps ps' R) : PurL m (.own n k :: ps) (.slice l :: ps') (n :: R)
  | lptr (n off : Nat) (cs ps ps' : List PV) (R : List Nat) (hm : m n = .blk false cs) (h : PurL m ps ps' R) : PurL m (.lptr n off :: ps) (.cptr cs off :: ps') (n :: R)
  | agg (cs cs' ps ps' : List PV) (R R' : List Nat) (hc : PurL m cs cs' R) (h : PurL m ps ps' R') : PurL m (.agg cs :: ps) (.agg cs' :: ps') (R ++ R')

theorem PurL.length {m : Nat → PV} {ps ps' : List PV} {R : List Nat} (h : PurL m ps ps' R) : ps'.length = ps.length := by
  induction h <;> simp_all

section
variable {P : Program} {N : Nat} {w0 w w' : World} {pub pub' : Nat → Nat → Prop} {V : Nat → Value} {s : St} {a : Act}

theorem RV.plain {m : Nat → PV} {p : PV} {v : Value} (h : RV pub w V m p v) (hp : p.plain = true) : Rep pub w p v := by
  cases h with
  | undef => cases hp
  | pure h => exact h
  | ref h => cases h <;> cases hp
  | agg => cases hp
  | tuple => cases hp

theorem Rep.slice_own {m : Nat → PV} {B : Nat} {v : Value} {e sz : Nat} {l : List PV} (h : MemOk pub w V m B v (.obj false e sz l)) : Rep pub w (.slice l) v := by
  cases h with
  | obj _ _ _ _ xs hsz hl how hp hq hc =>
    rcases how.2 with ⟨rfl, h0⟩ | ⟨g, cap, cur, rfl, hB, hh, hnc, hcm, hcs, htake⟩
    · have : l = [] := List.eq_nil_of_length_eq_zero h0
      subst this; exact .slice0 none 0
    · have hfl := flat_length hl
      refine .slice g 0 cap sz l (fun i => xs.getD i Go.undef) hl hnc (fun i c hi => ?_) (fun i c hi => (hc i c hi).2)
      have hlt : i < l.length * sz := by rw [← hfl]; exact (List.getElem?_eq_some_iff.1 hi).1
      have hxl : i < xs.length := by rw [how.1]; exact hlt
      refine ⟨by rw [Nat.zero_add]; exact hq rfl g i rfl hlt, ?_, (hc i c hi).1⟩
      have hx := how.cells (g := g) rfl i (xs[i]) (List.getElem?_eq_getElem hxl)
      rw [Addr.add_lit] at hx
      rw [hx]
      simp [hxl]

theorem Rep.cptr_blk {m : Nat → PV} {B n : Nat} {b off : Nat} {cs : List PV} (h : MemOk pub w V m B (V n) (.blk false cs)) (hv : V n = .pointer (some ⟨b, 0, none⟩)) : Rep pub w (.cptr cs off) (.pointer (some ⟨b, off, none⟩)) := by
  generalize V n = v at *
  subst hv
  cases h with
  | blk _ _ g arr T hv hB hg hs hp hq hc hr =>
    simp only [Value.pointer.injEq, Option.some.injEq, Addr.mk.injEq, true_and, and_true] at hv
    subst hv
    have := Rep.cptr (pub := pub) (w := w) b 0 off cs (fun j => arr.getD j Go.undef) (fun j c hj => ?_) (fun j c hj => hr rfl j c hj)
    · simpa using this
    · have hlt : j < arr.size := by rw [hs]; exact (List.getElem?_eq_some_iff.1 hj).1
      refine ⟨by rw [Nat.zero_add]; exact hq rfl j hlt, ?_, (hc j c hj).1⟩
      rw [Nat.zero_add, cell_of_row w b j arr T (0, 0) hg]
      simp [hlt]

theorem PurL.rep (h : Rel0 N w0 pub V s a w) {ps ps' : List PV} {R : List Nat} (hp : PurL s.mem ps ps' R) : ∀ (i : Nat) p p' v, ps[i]? = some p → ps'[i]? = some p' → RV pub w V s.mem p v → Rep pub w p' v := by
  induction hp with
  | nil => intro i p p' v h1; simp at h1
  | plain q ps ps' R hq _ ih =>
    intro i p p' v h1 h2 hv
    cases i with
    | zero => simp at h1 h2; subst h1; subst h2; exact hv.plain hq
    | succ i => exact ih i p p' v (by simpa using h1) (by simpa using h2) hv
  | own n k e sz l ps ps' R hm hk _ ih =>
    intro i p p' v h1 h2 hv
    cases i with
    | zero =>
      simp at h1 h2; subst h1; subst h2
      obtain ⟨x', e', sz', l', hm', _, hv'⟩ := hv.own_inv
      rw [hm] at hm'; cases hm'
      rw [hv' hk]
      exact Rep.slice_own (by have := h.mem n; rwa [hm] at this)
    | succ i => exact ih i p p' v (by simpa using h1) (by simpa using h2) hv
  | lptr n off cs ps ps' R hm _ ih =>
    intro i p p' v h1 h2 hv
    cases i with
    | zero =>
      simp at h1 h2; subst h1; subst h2
      obtain ⟨x', cs', b, hm', hb, rfl⟩ := hv.lptr_inv
      exact Rep.cptr_blk (by have := h.mem n; rwa [hm] at this) hb
    | succ i => exact ih i p p' v (by simpa using h1) (by simpa using h2) hv
  | agg cs cs' ps ps' R R' hcs _ ihc ih =>
    intro i p p' v h1 h2 hv
    cases i with
    | zero =>
      simp at h1 h2; subst h1; subst h2
      obtain ⟨arr, rfl, hs, hc⟩ := hv.agg_inv
      have hl := hcs.length
      refine .agg cs' arr (hs.trans hl.symm) (fun j c hj => ?_) (fun j c hj => ?_)
      all_goals
        have hlt : j < cs.length := by rw [← hl]; exact (List.getElem?_eq_some_iff.1 hj).1
      · exact (hc j _ (List.getElem?_eq_getElem hlt)).1
      · exact ihc j _ c _ (List.getElem?_eq_getElem hlt) hj (hc j _ (List.getElem?_eq_getElem hlt)).2
    | succ i => exact ih i p p' v (by simpa using h1) (by simpa using h2) hv

/-- What a sound step gives. -/
def Snd (P : Program) (N : Nat) (w0 : World) (pub0 : Nat → Nat → Prop) (s : St) (a : Act) (w : World) (op : Op) (p : PV) (m' : Nat → PV) : Prop :=
  ∃ v w', (∀ dst ty pos after guard, (execOp a.eval ⟨dst, op, ty, pos, after, guard⟩).run P w = .ok (.value v) w' ∨ ((execOp a.eval ⟨dst, op, ty, pos, after, guard⟩).run P w = .ok .skip w' ∧ v = Go.undef)) ∧
    ∃ pub V, (∀ b o, pub0 b o → pub b o) ∧ (∀ b o, pub b o → pub0 b o ∨ w0.heap.size ≤ b) ∧ Rel0 N w0 pub V { s with mem := m' } a w' ∧ RV pub w' V m' p v

theorem Snd.of_same {pub0 : Nat → Nat → Prop} {op : Op} {p : PV} (c1 : ∀ b o, pub0 b o → pub b o) (c2 : ∀ b o, pub b o → pub0 b o ∨ w0.heap.size ≤ b) (h : Rel0 N w0 pub V s a w) (v : Value) (hv : RV pub w V s.mem p v)
    (hr : ∀ dst ty pos after guard, (execOp a.eval ⟨dst, op, ty, pos, after, guard⟩).run P w = .ok (.value v) w) : Snd P N w0 pub0 s a w op p s.mem :=
  ⟨v, w, fun d t p f g => .inl (hr d t p f g), pub, V, c1, c2, h, hv⟩

/-- One cell's value. -/
def PV.isCell : PV → Bool
  | .lit _ => true | .err => true | .nils => true | .slice _ => true | .fn _ _ => true | .cptr _ _ => true | .own _ _ => true | .lptr _ _ => true | .eptr _ _ _ _ => true | _ => false

theorem Rep.cell {p : PV} {v : Value} (h : Rep pub w p v) (hp : p.isCell = true) : v.oneCell' = true := by
  cases h <;> first | assumption | rfl | cases hp

theorem run_str_add (P : Program) (w : World) (t : TypeId) (x y : Operand) (b c : ByteArray) (h : b.size + c.size ≤ 9223372036854775807) : (do eqGuard .add t x y (.string b) (.string c); binOp .add t (.string b) (.string c) : Sem Value).run P w = .ok (.string (b ++ c)) w := by
  have h2 : ¬ (((b.size + c.size : Nat) : Int) > IntKind.i64.max) := by rw [IntKind.max_i64]; omega
  have e : binOp .add t (.string b) (.string c) = Op.stringOp .add b c := rfl
  rw [eqGuard_add, e, Op.stringOp]
  simp only [h2, if_false]
  rfl
theorem run_str_eql (P : Program) (w : World) (t : TypeId) (x y : Operand) (b c : ByteArray) : (do eqGuard .eql t x y (.string b) (.string c); binOp .eql t (.string b) (.string c) : Sem Value).run P w = .ok (.bool (b == c)) w := by
  have e : binOp .eql t (.string b) (.string c) = Op.stringOp .eql b c := rfl
  rw [eqGuard_at_string, e, beq_toListBytes]; rfl
theorem run_str_neq (P : Program) (w : World) (t : TypeId) (x y : Operand) (b c : ByteArray) : (do eqGuard .neq t x y (.string b) (.string c); binOp .neq t (.string b) (.string c) : Sem Value).run P w = .ok (.bool (b != c)) w := by
  have e : binOp .neq t (.string b) (.string c) = Op.stringOp .neq b c := rfl
  rw [eqGuard_at_string, e, bne, beq_toListBytes]; rfl

theorem run_bin (op : BinOp) (t : TypeId) (x y : Operand) {p q r : PV} {u v : Value} {m : Nat → PV} (hx : RV pub w V m p u) (hy : RV pub w V m q v)
    (hk : sameKind p q = true) (hr : binPV op p q = some r) (hs : ∀ b c, p = .lit (.string b) → q = .lit (.string c) → op = .add → b.size + c.size ≤ 9223372036854775807) :
    ∃ z, (do eqGuard op t x y u v; binOp op t u v : Sem Value).run P w = .ok z w ∧ Rep pub w r z := by
  unfold binPV at hr
  split at hr <;> try cases hr
  case h_1 k a k' b => obtain ⟨rfl, _⟩ := hx.lit_inv; obtain ⟨rfl, _⟩ := hy.lit_inv; simp [sameKind] at hk; subst hk; exact ⟨_, by simp [go_sem, Op.intArith], .lit _ rfl⟩
  case h_2 k a k' b => obtain ⟨rfl, _⟩ := hx.lit_inv; obtain ⟨rfl, _⟩ := hy.lit_inv; simp [sameKind] at hk; subst hk; exact ⟨_, by simp [go_sem, Op.intArith], .lit _ rfl⟩
  case h_3 k a k' b => obtain ⟨rfl, _⟩ := hx.lit_inv; obtain ⟨rfl, _⟩ := hy.lit_inv; simp [sameKind] at hk; subst hk; exact ⟨_, by simp [go_sem, Op.intArith], .lit _ rfl⟩
  case h_4 k a k' b => obtain ⟨rfl, _⟩ := hx.lit_inv; obtain ⟨rfl, _⟩ := hy.lit_inv; simp [sameKind] at hk; subst hk; exact ⟨_, by simp [go_sem, Op.intCmp], .lit _ rfl⟩
  case h_5 k a k' b => obtain ⟨rfl, _⟩ := hx.lit_inv; obtain ⟨rfl, _⟩ := hy.lit_inv; simp [sameKind] at hk; subst hk; exact ⟨_, by simp [go_sem, Op.intCmp], .lit _ rfl⟩
  case h_6 k a k' b => obtain ⟨rfl, _⟩ := hx.lit_inv; obtain ⟨rfl, _⟩ := hy.lit_inv; simp [sameKind] at hk; subst hk; exact ⟨_, by simp [go_sem, Op.intCmp], .lit _ rfl⟩
  case h_7 k a k' b => obtain ⟨rfl, _⟩ := hx.lit_inv; obtain ⟨rfl, _⟩ := hy.lit_inv; simp [sameKind] at hk; subst hk; exact ⟨_, by simp [go_sem, Op.intCmp], .lit _ rfl⟩
  case h_8 k a k' b => obtain ⟨rfl, _⟩ := hx.lit_inv; obtain ⟨rfl, _⟩ := hy.lit_inv; simp [sameKind] at hk; subst hk; exact ⟨_, by simp [go_sem, Op.intCmp], .lit _ rfl⟩
  case h_9 k a k' b => obtain ⟨rfl, _⟩ := hx.lit_inv; obtain ⟨rfl, _⟩ := hy.lit_inv; simp [sameKind] at hk; subst hk; exact ⟨_, by simp [go_sem, Op.intCmp], .lit _ rfl⟩
  case h_10 b c => obtain ⟨rfl, _⟩ := hx.lit_inv; obtain ⟨rfl, _⟩ := hy.lit_inv; exact ⟨_, run_str_add P w t x y b c (hs b c rfl rfl rfl), .lit _ rfl⟩
  case h_11 b c => obtain ⟨rfl, _⟩ := hx.lit_inv; obtain ⟨rfl, _⟩ := hy.lit_inv; exact ⟨_, run_str_eql P w t x y b c, .lit _ rfl⟩
  case h_12 b c => obtain ⟨rfl, _⟩ := hx.lit_inv; obtain ⟨rfl, _⟩ := hy.lit_inv; exact ⟨_, run_str_neq P w t x y b c, .lit _ rfl⟩
end
end Go.Px
