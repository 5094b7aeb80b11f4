/-
  PROVED: small facts that walks use. No condition beyond those that each theorem names.
-/
import Derived.Test.YthdejnjjdihmfaaPx23
namespace Go.Px
set_option linter.unusedSimpArgs false
set_option linter.unusedVariables false
open Go.RowKit
abbrev int (n : Int) : PV := .lit (.int .i64 n)
abbrev bool (b : Bool) : PV := .lit (.bool b)
abbrev str (b : ByteArray) : PV := .lit (.string b)
abbrev W (n : Int) : Int := IntKind.i64.wrap n
theorem idx_map {α : Type} (f : α → PV) {L : List α} {i : Nat} (h : i < L.length) : (L.map f)[((i : Nat) : Int).toNat]? = some (f L[i]) := by simp [h]
theorem idx_mapI {α : Type} (f : α → PV) {L : List α} {i : Int} (h0 : 0 ≤ i) (h : i < L.length) : (L.map f)[i.toNat]? = some (f (L[i.toNat]'(by omega))) := by
  rw [List.getElem?_map, List.getElem?_eq_getElem (by omega)]; rfl
theorem drop_cons {α : Type} {L : List α} {i : Nat} (h : i < L.length) : L.drop i = L[i] :: L.drop (i + 1) := List.drop_eq_getElem_cons h
theorem ba_eq_self (b : ByteArray) : (b == b) = true := by rw [beq_toListBytes]; simp
theorem ba_ne_self (b : ByteArray) : (b != b) = false := by rw [bne, ba_eq_self]; rfl
theorem loadK_at {n : Nat} {v : PV} : ∀ {off : Nat} {cs : List PV}, cs[off]? = some v → loadK false n off cs = some v
  | 0, c :: cs, h => by simpa [loadK, dropK] using h
  | 0, [], h => by simp at h
  | off + 1, c :: cs, h => loadK_at (n := n) (off := off) (cs := cs) (by simpa using h)
  | off + 1, [], h => by simp at h
end Go.Px
