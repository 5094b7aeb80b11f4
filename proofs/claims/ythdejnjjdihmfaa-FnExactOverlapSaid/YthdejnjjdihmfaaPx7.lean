/-
  PROVED: what operations do to a pure state: the rules, and that they are sound (first half: no memory is written). Over any program. No condition beyond those that each theorem names.
-/
import Derived.Test.YthdejnjjdihmfaaPx6
namespace Go.Px
set_option linter.unusedSimpArgs false
set_option linter.unusedVariables false
open Go.RowKit

section
variable {P : Program} {N : Nat} {w0 w w' : World} {pub : Nat → Nat → Prop} {V : Nat → Value} {s : St} {a : Act}

theorem run_value {x : Sem Value} {z : Value} (h : x.run P w = .ok z w') : (do pure (.value (← x)) : Sem Next).run P w = .ok (.value z) w' := by
  rw [Sem.run_bind, h]; rfl
theorem run_skip {x : Sem Unit} (h : x.run P w = .ok () w') : (do x; pure .skip : Sem Next).run P w = .ok .skip w' := by
  rw [Sem.run_bind, h]; rfl

theorem run_un (op : UnOp) {p r : PV} {u : Value} {m : Nat → PV} (hx : RV pub w V m p u) (hr : unPV op p = some r) : ∃ z, (Op.unary op u).run P w = .ok z w ∧ Rep pub w r z := by
  unfold unPV at hr
  split at hr <;> try cases hr
  · obtain ⟨rfl, _⟩ := hx.lit_inv; exact ⟨_, rfl, .lit _ rfl⟩
  · obtain ⟨rfl, _⟩ := hx.lit_inv; exact ⟨_, rfl, .lit _ rfl⟩

theorem take_drop_get {α : Type} (l : List α) (o n j : Nat) (c : α) (h : ((l.drop o).take n)[j]? = some c) : l[o + j]? = some c ∧ j < n := by
  have hj := (List.getElem?_eq_some_iff.1 h).1
  have hn : j < n := by simp only [List.length_take] at hj; omega
  rw [List.getElem?_take_of_lt hn, List.getElem?_drop] at h
  exact ⟨h, hn⟩

/-- A load out of known cells. -/
theorem run_loadPV {m : Nat → PV} {t : TypeId} {g : Bool} {sz : Nat} (ht : shp P t = some (g, sz)) (hg : g = true ∨ sz = 1) (b o off : Nat) (cs : List PV) (W : Nat → Value)
    (hc : ∀ (j : Nat) c, cs[j]? = some c → w.cell? ⟨b, o + j, none⟩ = some (W j) ∧ (W j).oneCell' = true ∧ RV pub w V m c (W j)) {r : PV} (hr : loadPV g sz off cs = some r) :
    ∃ v, (loadVar t ⟨b, o + off, none⟩).run P w = .ok v w ∧ RV pub w V m r v := by
  unfold loadPV at hr
  cases g with
  | false =>
    have h1 : sz = 1 := hg.resolve_left (by simp)
    subst h1
    simp only [Bool.false_eq_true, if_false] at hr
    have := hc off r hr
    refine ⟨W off, ?_, this.2.2⟩
    have h0 : ∀ j, j < 1 → w.cell? ⟨b, o + off + j, none⟩ = some (W (off + j)) := fun j hj => by
      have hj0 : j = 0 := by omega
      subst hj0; exact this.1
    exact run_load_cells ht b (o + off) (fun j => W (off + j)) (fun _ => rfl) h0
  | true =>
    simp only [if_true] at hr
    split at hr <;> cases hr
    rename_i hle
    have hget : ∀ j, j < sz → ∃ c, cs[off + j]? = some c := fun j hj => ⟨cs[off + j], List.getElem?_eq_getElem (by omega)⟩
    refine ⟨_, run_load_cells ht b (o + off) (fun j => W (off + j)) (fun h => by cases h) (fun j hj => ?_), ?_⟩
    · obtain ⟨c, hcj⟩ := hget j hj
      have := (hc _ c hcj).1
      rw [← Nat.add_assoc] at this; exact this
    · simp only [if_true]
      refine .agg _ _ (by simp; omega) (fun j c hj => ?_) (fun j c hj => ?_)
      all_goals
        obtain ⟨h1, h2⟩ := take_drop_get _ _ _ _ _ hj
        have hW : (List.map (fun j => W (off + j)) (List.range sz)).toArray.getD j Go.undef = W (off + j) := by
          simp [h2]
        rw [hW]
      · exact (hc _ c h1).2.1
      · exact (hc _ c h1).2.2

theorem run_fieldAt {t f off : Nat} (hf : fldOff P t f = some off) (b o : Nat) : (Instr.fieldAt t (.pointer (some ⟨b, o, none⟩)) f).run P w = .ok (.pointer (some ⟨b, o + off, none⟩)) w := by
  unfold fldOff at hf
  split at hf <;> try cases hf
  rename_i fs hu
  split at hf <;> try cases hf
  rename_i f' hf'
  split at hf <;> try cases hf
  rename_i i hi
  split at hf <;> cases hf
  rename_i hne
  have add : (⟨b, o, none⟩ : Addr).add f'.offset = ⟨b, o + f'.offset, none⟩ := by unfold Addr.add; split <;> simp_all
  unfold Instr.fieldAt
  simp [run_underlying hu, hf', Instr.sureAddr, fieldPlace, sizeOf, typeInfo, hi, hne, add]

theorem run_indexAt {t e sz by' : Nat} (he : eltOf P t = some (e, sz, by')) (k : IntKind) (i : Int) (b o n c : Nat) (h0 : 0 ≤ i) (h1 : i < n) :
    (Instr.indexAt t (.slice (some ⟨b, o, none⟩) n c) (.int k i)).run P w = .ok (.pointer (some ⟨b, o + i.toNat * sz, none⟩)) w := by
  obtain ⟨hu, j, hj, h2, _⟩ := eltOf_spec he
  subst h2
  have add : (⟨b, o, none⟩ : Addr).add (i.toNat * j.size) = ⟨b, o + i.toNat * j.size, none⟩ := by unfold Addr.add; split <;> simp_all
  unfold Instr.indexAt
  simp [run_underlying hu, asIntOf, h0, h1, sizeOf, typeInfo, hj, add]

/-- The element type of an array, its length and the element's cells. -/
def arrOf (P : Program) (t : TypeId) : Option (Nat × Nat) :=
  match P.underlying t with
  | some (.array n e) => match P.info? e with
    | some i => some (n, i.size)
    | none => none
  | _ => none
theorem run_indexArr {t n sz : Nat} (he : arrOf P t = some (n, sz)) (k : IntKind) (i : Int) (b o : Nat) (h0 : 0 ≤ i) (h1 : i < n) :
    (Instr.indexAt t (.pointer (some ⟨b, o, none⟩)) (.int k i)).run P w = .ok (.pointer (some ⟨b, o + i.toNat * sz, none⟩)) w := by
  unfold arrOf at he
  split at he <;> try cases he
  rename_i n' e hu
  split at he <;> try cases he
  rename_i j hj
  have add : (⟨b, o, none⟩ : Addr).add (i.toNat * j.size) = ⟨b, o + i.toNat * j.size, none⟩ := by unfold Addr.add; split <;> simp_all
  unfold Instr.indexAt
  simp [run_underlying hu, asIntOf, Instr.sureAddr, h0, h1, sizeOf, typeInfo, hj, add]

/-- The elements of a slice of the call's own, as cells. -/
theorem MemOk.elem {B : Nat} {m : Nat → PV} {v : Value} {x : Bool} {e sz : Nat} {l : List PV} (h : MemOk pub w V m B v (.obj x e sz l)) {i : Nat} {el : PV} (hi : l[i]? = some el) :
    ∃ g cap, v = .slice (some ⟨g, 0, none⟩) l.length cap ∧ el.cells.length = sz ∧ ∀ (j : Nat) c, el.cells[j]? = some c → ∃ u, w.cell? ⟨g, i * sz + j, none⟩ = some u ∧ u.oneCell' = true ∧ Rep pub w c u ∧ (x = false → pub g (i * sz + j)) := by
  cases h with
  | obj _ _ _ _ xs hsz hl how hp hq hc =>
    have hil : i < l.length := (List.getElem?_eq_some_iff.1 hi).1
    rcases how.2 with ⟨rfl, h0⟩ | ⟨g, cap, cur, rfl, hB, hh, hnc, hcm, hcs, htake⟩
    · omega
    · have hel := hl el (List.mem_of_getElem? hi)
      refine ⟨g, cap, rfl, hel, fun j c hj => ?_⟩
      have hjl : j < sz := by rw [← hel]; exact (List.getElem?_eq_some_iff.1 hj).1
      have hf := flat_get hl hi hj
      have hlt : i * sz + j < l.length * sz := by
        have h1 : (i + 1) * sz ≤ l.length * sz := Nat.mul_le_mul_right _ hil
        rw [Nat.add_mul] at h1; omega
      have hxl : i * sz + j < xs.length := by rw [how.1]; exact hlt
      have hx := how.cells (g := g) rfl (i * sz + j) (xs[i * sz + j]) (List.getElem?_eq_getElem hxl)
      rw [Addr.add_lit, Nat.zero_add] at hx
      have hcc := hc _ c hf
      have hget : xs.getD (i * sz + j) Go.undef = xs[i * sz + j] := by simp [hxl]
      rw [hget] at hcc
      exact ⟨_, hx, hcc.1, hcc.2, fun hx => hq hx g _ rfl hlt⟩
end
end Go.Px
