/-
  PROVED: what the operations do to a pure state: the plain ones, and those that read. Over any program. No condition beyond those that each theorem names.
-/
import Derived.Test.YthdejnjjdihmfaaPx2
namespace Go.Px
set_option linter.unusedSimpArgs false
set_option linter.unusedVariables false
open Go.RowKit

section inv
variable {pub : Nat → Nat → Prop} {w : World} {V : Nat → Value} {m : Nat → PV}

theorem RV.lit_inv {u v : Value} (h : RV pub w V m (.lit u) v) : v = u ∧ u.oneCell' = true := by
  cases h with
  | pure h => cases h with | lit _ h => exact ⟨rfl, h⟩
  | ref h => cases h
theorem RV.nils_inv {v : Value} (h : RV pub w V m .nils v) : v = .slice none 0 0 := by
  cases h with
  | pure h => cases h; rfl
  | ref h => cases h
theorem RV.err_inv {v : Value} (h : RV pub w V m .err v) : ∃ t u, v = .iface t u := by
  cases h with
  | pure h => cases h; exact ⟨_, _, rfl⟩
  | ref h => cases h
theorem RV.slice_inv {l : List PV} {v : Value} (h : RV pub w V m (.slice l) v) : Rep pub w (.slice l) v := by
  cases h with
  | pure h => exact h
  | ref h => cases h
theorem RV.fn_inv {f : FuncId} {cs : List PV} {v : Value} (h : RV pub w V m (.fn f cs) v) : ∃ arr : Array Value, v = .func (.func f) #[] arr ∧ arr.size = cs.length ∧ ∀ (j : Nat) c, cs[j]? = some c → Rep pub w c (arr.getD j Go.undef) := by
  cases h with
  | pure h => cases h with | fn _ _ arr hs hc => exact ⟨arr, rfl, hs, hc⟩
  | ref h => cases h
theorem RV.cptr_inv {cs : List PV} {off : Nat} {v : Value} (h : RV pub w V m (.cptr cs off) v) : ∃ (b o : Nat) (W : Nat → Value), v = .pointer (some ⟨b, o + off, none⟩) ∧
    (∀ (j : Nat) c, cs[j]? = some c → pub b (o + j) ∧ w.cell? ⟨b, o + j, none⟩ = some (W j) ∧ (W j).oneCell' = true) ∧ ∀ (j : Nat) c, cs[j]? = some c → Rep pub w c (W j) := by
  cases h with
  | pure h => cases h with | cptr b o _ _ W hd hc => exact ⟨b, o, W, rfl, hd, hc⟩
  | ref h => cases h
theorem RV.lptr_inv {n off : Nat} {v : Value} (h : RV pub w V m (.lptr n off) v) : ∃ x cs b, m n = .blk x cs ∧ V n = .pointer (some ⟨b, 0, none⟩) ∧ v = .pointer (some ⟨b, off, none⟩) := by
  cases h with
  | pure h => cases h
  | ref h => cases h with | lptr _ _ x cs b hm hv => exact ⟨x, cs, b, hm, hv, rfl⟩
theorem RV.own_inv {n k : Nat} {v : Value} (h : RV pub w V m (.own n k) v) : ∃ x e sz l, m n = .obj x e sz l ∧ k ≤ l.length ∧ (k = l.length → v = V n) := by
  cases h with
  | pure h => cases h
  | ref h => cases h with | own _ _ _ x e sz l hm hk h => exact ⟨x, e, sz, l, hm, hk, h⟩
theorem RV.eptr_inv {n k i off : Nat} {v : Value} (h : RV pub w V m (.eptr n k i off) v) : ∃ x e sz l, m n = .obj x e sz l ∧ k ≤ l.length ∧ (k = l.length → ∃ g cap, V n = .slice (some ⟨g, 0, none⟩) l.length cap ∧ v = .pointer (some ⟨g, i * sz + off, none⟩)) := by
  cases h with
  | pure h => cases h
  | ref h => cases h with | eptr _ _ _ _ _ x e sz l hm hk h => exact ⟨x, e, sz, l, hm, hk, h⟩
theorem RV.agg_inv {cs : List PV} {v : Value} (h : RV pub w V m (.agg cs) v) : ∃ arr : Array Value, v = .agg arr ∧ arr.size = cs.length ∧ ∀ (j : Nat) c, cs[j]? = some c → (arr.getD j Go.undef).oneCell' = true ∧ RV pub w V m c (arr.getD j Go.undef) := by
  cases h with
  | pure h => cases h with | agg _ arr hs hd hc => exact ⟨arr, rfl, hs, fun j c hj => ⟨hd j c hj, .pure (hc j c hj)⟩⟩
  | ref h => cases h
  | agg _ arr hs hd hc => exact ⟨arr, rfl, hs, fun j c hj => ⟨hd j c hj, hc j c hj⟩⟩
theorem RV.tuple_inv {cs : List PV} {v : Value} (h : RV pub w V m (.tuple cs) v) : ∃ arr : Array Value, v = .tuple arr ∧ arr.size = cs.length ∧ ∀ (j : Nat) c, cs[j]? = some c → RV pub w V m c (arr.getD j Go.undef) := by
  cases h with
  | pure h => cases h with | tuple _ arr hs hc => exact ⟨arr, rfl, hs, fun j c hj => .pure (hc j c hj)⟩
  | ref h => cases h
  | tuple _ arr hs hc => exact ⟨arr, rfl, hs, hc⟩
end inv

/-! ### Types -/
/-- Is it a struct or an array, and its cells. -/
def shp (P : Program) (t : TypeId) : Option (Bool × Nat) :=
  match P.underlying t, P.info? t with
  | some d, some i => some ((match d with | .struct _ => true | .array _ _ => true | _ => false), i.size)
  | _, _ => none
theorem shp_agg {P : Program} {t : TypeId} {g : Bool} {n : Nat} (h : shp P t = some (g, n)) (w : World) : (isAgg t).run P w = .ok g w := by
  unfold shp at h
  split at h
  · rename_i d i hd hi
    cases h
    unfold isAgg
    rw [Sem.run_bind, run_underlying hd w]
    cases d <;> rfl
  · cases h
theorem shp_size {P : Program} {t : TypeId} {g : Bool} {n : Nat} (h : shp P t = some (g, n)) (w : World) : (sizeOf t).run P w = .ok n w := by
  unfold shp at h
  split at h
  · rename_i d i hd hi
    cases h
    simp [sizeOf, typeInfo, hi]
  · cases h
/-- A field's first cell; its type has cells. -/
def fldOff (P : Program) (t f : Nat) : Option Nat :=
  match P.underlying t with
  | some (.struct fs) => match fs[f]? with
    | some f => match P.info? f.type with
      | some i => if i.size = 0 then none else some f.offset
      | none => none
    | none => none
  | _ => none
/-- A slice's element type, its cells and bytes. -/
def eltOf (P : Program) (t : TypeId) : Option (TypeId × Nat × Nat) :=
  match P.underlying t with
  | some (.slice e) => match P.info? e with
    | some i => some (e, i.size, i.bytes)
    | none => none
  | _ => none
theorem eltOf_spec {P : Program} {t e sz by' : Nat} (h : eltOf P t = some (e, sz, by')) : P.underlying t = some (.slice e) ∧ ∃ i, P.info? e = some i ∧ i.size = sz ∧ i.bytes = by' := by
  unfold eltOf at h
  split at h
  · rename_i e' hu
    split at h
    · rename_i i hi
      cases h
      exact ⟨hu, i, hi, rfl, rfl⟩
    · cases h
  · cases h

/-! ### Constants and operands -/
def constCell : Value → PV
  | .slice none 0 0 => .nils
  | v => if v.oneCell' then .lit v else .undef
def constPV : Value → PV
  | .agg arr => .agg (arr.toList.map constCell)
  | v => constCell v
theorem constCell_rep (pub : Nat → Nat → Prop) (w : World) (V : Nat → Value) (m : Nat → PV) (v : Value) : RV pub w V m (constCell v) v := by
  unfold constCell
  split
  · exact .pure .nils
  · split
    · rename_i h; exact .pure (.lit _ h)
    · exact .undef _
def constOk : Value → Bool
  | .agg arr => arr.toList.all Value.oneCell'
  | _ => true
theorem constPV_rep (pub : Nat → Nat → Prop) (w : World) (V : Nat → Value) (m : Nat → PV) (v : Value) (h : constOk v = true) : RV pub w V m (constPV v) v := by
  unfold constPV
  split
  · rename_i arr
    refine .agg _ _ (by simp) (fun j c hj => ?_) (fun j c hj => ?_)
    all_goals
      simp only [List.getElem?_map, Option.map_eq_some_iff, Array.getElem?_toList] at hj
      obtain ⟨u, hu, rfl⟩ := hj
    · have : arr.getD j Go.undef = u := by simp [hu]
      rw [this]
      simp only [constOk, List.all_eq_true] at h
      exact h u (by rw [Array.mem_toList_iff]; exact Array.mem_of_getElem? hu)
    · have : arr.getD j Go.undef = u := by simp [hu]
      rw [this]; exact constCell_rep pub w V m u
  · exact constCell_rep pub w V m v
def St.ev (s : St) : Operand → PV
  | .tmp t => s.slot t
  | .const v => if constOk v then constPV v else .undef
  | .func f => .fn f []
  | .global _ => .undef
theorem Rel0.ev {N : Nat} {w0 : World} {pub : Nat → Nat → Prop} {V : Nat → Value} {s : St} {a : Act} {w : World} (h : Rel0 N w0 pub V s a w) (x : Operand) : RV pub w V s.mem (s.ev x) (a.eval x) := by
  cases x with
  | tmp t => exact h.slots t
  | const v =>
    simp only [St.ev, Act.eval]
    split
    · rename_i hc; exact constPV_rep _ _ _ _ v hc
    · exact .undef _
  | func f => exact .pure (.fn f [] #[] rfl (fun j c hj => by simp at hj))
  | global g => exact .undef _

/-! ### Loads -/
theorem run_load_cells {P : Program} {w : World} {t : TypeId} {g : Bool} {n : Nat} (ht : shp P t = some (g, n)) (b o : Nat) (W : Nat → Value) (hg : g = false → n = 1) (hc : ∀ j, j < n → w.cell? ⟨b, o + j, none⟩ = some (W j)) :
    (loadVar t ⟨b, o, none⟩).run P w = .ok (if g then .agg (List.map W (List.range n)).toArray else W 0) w := by
  have add : ∀ j, (⟨b, o, none⟩ : Addr).add j = ⟨b, o + j, none⟩ := fun j => by unfold Addr.add; split <;> simp_all
  unfold loadVar
  rw [Sem.run_bind, shp_agg ht w]
  cases g with
  | false =>
    have := hg rfl; subst this
    have h0 := hc 0 (by omega)
    simp only [Nat.add_zero] at h0
    simp [h0]
  | true =>
    have hl := run_loadCells (P := P) (w := w) ⟨b, o, none⟩ n W (fun j hj => by rw [add]; exact hc j hj)
    simp [shp_size ht w, hl]

/-- What a load of 'n' cells from 'off' on gives, of cells that are known. -/
def loadPV (g : Bool) (n off : Nat) (cs : List PV) : Option PV :=
  if g then (if off + n ≤ cs.length then some (.agg ((cs.drop off).take n)) else none) else cs[off]?

end Go.Px
