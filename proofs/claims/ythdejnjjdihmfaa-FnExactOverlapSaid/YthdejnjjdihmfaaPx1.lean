/-
  PROVED: pure values for Go values, and what it says that a value of the model represents one. Over any program. No condition beyond those that each theorem names.
-/
import Derived.WalkKit
namespace Go.Px
set_option linter.unusedSimpArgs false
set_option linter.unusedVariables false
open Go.RowKit

/-- A pure value. 'lit': a value of one cell as it stands. 'slice': a slice whose visible cells nobody changes any more. 'agg': a struct's or array's cells. 'cptr': a pointer into cells that nobody changes any more.
    'own', 'lptr', 'eptr': references to memory of the running call itself, by name: a slice of its own, a variable of its own, an element of a slice of its own. 'blk', 'obj': what such a name holds. 'fresh': a result that the caller owns. -/
inductive PV where
  | undef
  | lit (v : Value)
  | err
  | nils
  | slice (l : List PV)
  | agg (cs : List PV)
  | tuple (vs : List PV)
  | fn (f : FuncId) (caps : List PV)
  | cptr (cs : List PV) (off : Nat)
  | own (n k : Nat)
  | lptr (n off : Nat)
  | eptr (n k i off : Nat)
  | blk (x : Bool) (cs : List PV)
  | obj (x : Bool) (e sz : Nat) (l : List PV)
  | fresh (x : Bool) (e sz : Nat) (l : List PV)

def PV.cells : PV → List PV
  | .agg cs => cs
  | v => [v]

def flat (l : List PV) : List PV := l.flatMap PV.cells

@[simp] theorem flat_nil : flat [] = [] := rfl
@[simp] theorem flat_cons (x : PV) (l : List PV) : flat (x :: l) = x.cells ++ flat l := rfl
@[simp] theorem flat_append (a b : List PV) : flat (a ++ b) = flat a ++ flat b := by simp [flat]

theorem flat_length {sz : Nat} : ∀ {l : List PV}, (∀ e ∈ l, e.cells.length = sz) → (flat l).length = l.length * sz
  | [], _ => by simp
  | x :: l, h => by
    rw [flat_cons, List.length_append, flat_length (fun e he => h e (List.mem_cons_of_mem _ he)), h x (List.mem_cons_self ..), List.length_cons, Nat.add_mul]; omega

theorem flat_get {sz : Nat} : ∀ {l : List PV}, (∀ e ∈ l, e.cells.length = sz) → ∀ {i : Nat} {e : PV}, l[i]? = some e → ∀ {j : Nat} {c : PV}, e.cells[j]? = some c → (flat l)[i * sz + j]? = some c
  | [], _, i, e, hi, _, _, _ => by simp at hi
  | x :: l, h, 0, e, hi, j, c, hj => by
    simp at hi; subst hi
    have : j < x.cells.length := (List.getElem?_eq_some_iff.1 hj).1
    rw [flat_cons, List.getElem?_append_left (by omega)]; simpa using hj
  | x :: l, h, i + 1, e, hi, j, c, hj => by
    have hx := h x (List.mem_cons_self ..)
    rw [flat_cons, List.getElem?_append_right (by rw [hx, Nat.add_mul]; omega), hx]
    have : (i + 1) * sz + j - sz = i * sz + j := by rw [Nat.add_mul]; omega
    rw [this]
    exact flat_get (fun e he => h e (List.mem_cons_of_mem _ he)) (by simpa using hi) hj

/-- Each flat cell belongs to an element. -/
theorem flat_at {sz : Nat} : ∀ {l : List PV}, (∀ e ∈ l, e.cells.length = sz) → ∀ {k : Nat} {c : PV}, (flat l)[k]? = some c → ∃ i e j, l[i]? = some e ∧ e.cells[j]? = some c ∧ k = i * sz + j ∧ j < sz
  | [], _, k, c, hk => by simp at hk
  | x :: l, h, k, c, hk => by
    have hx := h x (List.mem_cons_self ..)
    rw [flat_cons] at hk
    by_cases hlt : k < x.cells.length
    · rw [List.getElem?_append_left hlt] at hk
      exact ⟨0, x, k, rfl, hk, by simp, by omega⟩
    · rw [List.getElem?_append_right (by omega)] at hk
      obtain ⟨i, e, j, h1, h2, h3, h4⟩ := flat_at (fun e he => h e (List.mem_cons_of_mem _ he)) hk
      exact ⟨i + 1, e, j, by simpa using h1, h2, by rw [Nat.add_mul]; omega, h4⟩

/-- A value that represents a pure value, through cells that are 'pub'. -/
inductive Rep (pub : Nat → Nat → Prop) (w : World) : PV → Value → Prop where
  | lit (v : Value) (h : v.oneCell' = true) : Rep pub w (.lit v) v
  | err (t : TypeId) (v : Value) : Rep pub w .err (.iface t v)
  | nils : Rep pub w .nils (.slice none 0 0)
  | slice0 (a : Option Addr) (cap : Nat) : Rep pub w (.slice []) (.slice a 0 cap)
  | slice (b o cap sz : Nat) (l : List PV) (V : Nat → Value) (hsz : ∀ e ∈ l, e.cells.length = sz) (hcap : l.length ≤ cap)
      (hd : ∀ i c, (flat l)[i]? = some c → pub b (o + i) ∧ w.cell? ⟨b, o + i, none⟩ = some (V i) ∧ (V i).oneCell' = true) (hc : ∀ i c, (flat l)[i]? = some c → Rep pub w c (V i)) : Rep pub w (.slice l) (.slice (some ⟨b, o, none⟩) l.length cap)
  | agg (cs : List PV) (arr : Array Value) (hs : arr.size = cs.length) (hd : ∀ (j : Nat) c, cs[j]? = some c → (arr.getD j undef).oneCell' = true) (hc : ∀ (j : Nat) c, cs[j]? = some c → Rep pub w c (arr.getD j undef)) : Rep pub w (.agg cs) (.agg arr)
  | tuple (cs : List PV) (arr : Array Value) (hs : arr.size = cs.length) (hc : ∀ (j : Nat) c, cs[j]? = some c → Rep pub w c (arr.getD j undef)) : Rep pub w (.tuple cs) (.tuple arr)
  | fn (f : FuncId) (cs : List PV) (arr : Array Value) (hs : arr.size = cs.length) (hc : ∀ (j : Nat) c, cs[j]? = some c → Rep pub w c (arr.getD j undef)) : Rep pub w (.fn f cs) (.func (.func f) #[] arr)
  | cptr (b o off : Nat) (cs : List PV) (V : Nat → Value) (hd : ∀ (j : Nat) c, cs[j]? = some c → pub b (o + j) ∧ w.cell? ⟨b, o + j, none⟩ = some (V j) ∧ (V j).oneCell' = true) (hc : ∀ (j : Nat) c, cs[j]? = some c → Rep pub w c (V j)) :
      Rep pub w (.cptr cs off) (.pointer (some ⟨b, o + off, none⟩))

theorem Rep.mono {pub pub' : Nat → Nat → Prop} {w w' : World} (hp : ∀ b o, pub b o → pub' b o) (hw : ∀ b o, pub b o → w'.cell? ⟨b, o, none⟩ = w.cell? ⟨b, o, none⟩) {p : PV} {v : Value} (h : Rep pub w p v) : Rep pub' w' p v := by
  induction h with
  | lit v h => exact .lit v h
  | err t v => exact .err t v
  | nils => exact .nils
  | slice0 a cap => exact .slice0 a cap
  | slice b o cap sz l V hsz hcap hd hc ih => exact .slice b o cap sz l V hsz hcap (fun i c hi => ⟨hp _ _ (hd i c hi).1, (hw _ _ (hd i c hi).1).trans (hd i c hi).2.1, (hd i c hi).2.2⟩) ih
  | agg cs arr hs hd hc ih => exact .agg cs arr hs hd ih
  | tuple cs arr hs hc ih => exact .tuple cs arr hs ih
  | fn f cs arr hs hc ih => exact .fn f cs arr hs ih
  | cptr b o off cs V hd hc ih => exact .cptr b o off cs V (fun j c hj => ⟨hp _ _ (hd j c hj).1, (hw _ _ (hd j c hj).1).trans (hd j c hj).2.1, (hd j c hj).2.2⟩) ih

/-- A pure state: what the slots hold, and what the running call's own memory holds, by name. -/
structure St where
  slot : Nat → PV
  mem : Nat → PV

/-- What a reference says of a value: 'V' gives each name its pointer, or its slice. -/
inductive RefOk (V : Nat → Value) (mem : Nat → PV) : PV → Value → Prop where
  | own (n k : Nat) (v : Value) (x : Bool) (e sz : Nat) (l : List PV) (hm : mem n = .obj x e sz l) (hk : k ≤ l.length) (h : k = l.length → v = V n) : RefOk V mem (.own n k) v
  | lptr (n off : Nat) (x : Bool) (cs : List PV) (b : Nat) (hm : mem n = .blk x cs) (hv : V n = .pointer (some ⟨b, 0, none⟩)) : RefOk V mem (.lptr n off) (.pointer (some ⟨b, off, none⟩))
  | eptr (n k i off : Nat) (v : Value) (x : Bool) (e sz : Nat) (l : List PV) (hm : mem n = .obj x e sz l) (hk : k ≤ l.length)
      (h : k = l.length → ∃ g cap, V n = .slice (some ⟨g, 0, none⟩) l.length cap ∧ v = .pointer (some ⟨g, i * sz + off, none⟩)) : RefOk V mem (.eptr n k i off) v

/-- A value that represents what a slot, or a variable of the call's own, holds. -/
inductive RV (pub : Nat → Nat → Prop) (w : World) (V : Nat → Value) (mem : Nat → PV) : PV → Value → Prop where
  | undef (v : Value) : RV pub w V mem .undef v
  | pure {p : PV} {v : Value} (h : Rep pub w p v) : RV pub w V mem p v
  | ref {p : PV} {v : Value} (h : RefOk V mem p v) : RV pub w V mem p v
  | agg (cs : List PV) (arr : Array Value) (hs : arr.size = cs.length) (hd : ∀ (j : Nat) c, cs[j]? = some c → (arr.getD j Go.undef).oneCell' = true) (hc : ∀ (j : Nat) c, cs[j]? = some c → RV pub w V mem c (arr.getD j Go.undef)) : RV pub w V mem (.agg cs) (.agg arr)
  | tuple (cs : List PV) (arr : Array Value) (hs : arr.size = cs.length) (hc : ∀ (j : Nat) c, cs[j]? = some c → RV pub w V mem c (arr.getD j Go.undef)) : RV pub w V mem (.tuple cs) (.tuple arr)

/-- What a name of the call's own holds, as the memory has it. -/
inductive MemOk (pub : Nat → Nat → Prop) (w : World) (V : Nat → Value) (mem : Nat → PV) (B : Nat) (v : Value) : PV → Prop where
  | undef : MemOk pub w V mem B v .undef
  | blk (x : Bool) (cs : List PV) (g : Nat) (arr : Array Value) (T : TypeId) (hv : v = .pointer (some ⟨g, 0, none⟩)) (hB : B ≤ g) (hg : w.heap[g]? = some (.cells arr T (0, 0))) (hs : arr.size = cs.length)
      (hp : ∀ o, pub g o → x = false) (hq : x = false → ∀ o, o < arr.size → pub g o) (hc : ∀ (j : Nat) c, cs[j]? = some c → (arr.getD j Go.undef).oneCell' = true ∧ RV pub w V mem c (arr.getD j Go.undef))
      (hr : x = false → ∀ (j : Nat) c, cs[j]? = some c → Rep pub w c (arr.getD j Go.undef)) : MemOk pub w V mem B v (.blk x cs)
  | obj (x : Bool) (e sz : Nat) (l : List PV) (xs : List Value) (hsz : 0 < sz) (hl : ∀ e ∈ l, e.cells.length = sz) (how : w.ownsRow B e sz v l.length xs)
      (hp : ∀ g o, v.ownBlock = some g → pub g o → x = false ∧ o < l.length * sz) (hq : x = false → ∀ g o, v.ownBlock = some g → o < l.length * sz → pub g o)
      (hc : ∀ (i : Nat) c, (flat l)[i]? = some c → (xs.getD i Go.undef).oneCell' = true ∧ Rep pub w c (xs.getD i Go.undef)) : MemOk pub w V mem B v (.obj x e sz l)

/-- The block of a name. -/
def blockOf : Value → Option Nat
  | .slice (some a) _ _ => some a.block
  | .pointer (some a) => some a.block
  | _ => none

/-- A frame and a world as a pure state says. 'w0': the world when the call began. -/
structure Rel0 (N : Nat) (w0 : World) (pub : Nat → Nat → Prop) (V : Nat → Value) (s : St) (a : Act) (w : World) : Prop where
  defers : a.defers = []
  size : a.tmps.size = N
  below : Below w0.heap.size w0 w
  pubLt : ∀ b o, pub b o → b < w.heap.size
  slots : ∀ t, RV pub w V s.mem (s.slot t) (a.tmps.getD t Go.undef)
  mem : ∀ n, MemOk pub w V s.mem w0.heap.size (V n) (s.mem n)
  apart : ∀ n m g, s.mem n ≠ .undef → s.mem m ≠ .undef → blockOf (V n) = some g → blockOf (V m) = some g → n = m

def Rel (N : Nat) (w0 : World) (pub0 : Nat → Nat → Prop) (s : St) (a : Act) (w : World) : Prop :=
  ∃ pub V, (∀ b o, pub0 b o → pub b o) ∧ (∀ b o, pub b o → pub0 b o ∨ w0.heap.size ≤ b) ∧ Rel0 N w0 pub V s a w

end Go.Px
