/-
  PROVED: general facts on pure values, contracts of functions, steps of programs and loops over lists, over any program. No condition beyond those that each theorem names.
-/
import Derived.Deep.LoopGhost
import Derived.Laws.AppendOwnNone
import Derived.Lib.ConvBytes
import Derived.Lib.ItoaNum
import Derived.WalkKit
import Derived.WalkLawsBesides
namespace Go.Px
set_option linter.unusedSimpArgs false
set_option linter.unusedVariables false
open Go.RowKit

inductive PV where
 | undef
 | lit (v : Value)
 | err (b : Bool)
 | nils
 | slice (l : List PV)
 | agg (cs : List PV)
 | tuple (vs : List PV)
 | fn (f : FuncId) (caps : List PV)
 | cptr (cs : List PV) (off : Nat)
 | own (n k : Nat)
 | lptr (n off : Nat)
 | eptr (n k i off : Nat)
 | osl (n k i j : Nat)
 | blk (x : Bool) (cs : List PV)
 | obj (x : Bool) (e sz : Nat) (l : List PV)
 | fresh (x : Bool) (e sz : Nat) (l : List PV)
 | yng (c : Nat) (p : PV)
 | ysk (c : Nat) (p : PV)
 | yreg (s own : Bool)

def PV.cells : PV → List PV
 | .agg cs => cs
 | v => [v]

def flat (l : List PV) : List PV := l.flatMap PV.cells

@[simp] theorem flat_nil : flat [] = [] := rfl
@[simp] theorem flat_cons (x : PV) (l : List PV) : flat (x :: l) = x.cells ++ flat l := rfl
@[simp] theorem flat_append (a b : List PV) : flat (a ++ b) = flat a ++ flat b := by simp [flat]

theorem flat_length {sz : Nat} : ∀ {l : List PV}, (∀ e ∈ l, e.cells.length = sz) → (flat l).length = l.length * sz
 | [], _ => by simp
 | x :: l, h => by
  rw [flat_cons, List.length_append, flat_length (fun e he => h e (List.mem_cons_of_mem _ he)), h x (List.mem_cons_self ..), List.length_cons, Nat.add_mul]; omega

theorem flat_get {sz : Nat} : ∀ {l : List PV}, (∀ e ∈ l, e.cells.length = sz) → ∀ {i : Nat} {e : PV}, l[i]? = some e → ∀ {j : Nat} {c : PV}, e.cells[j]? = some c → (flat l)[i * sz + j]? = some c
 | [], _, i, e, hi, _, _, _ => by simp at hi
 | x :: l, h, 0, e, hi, j, c, hj => by
  simp at hi; subst hi
  have : j < x.cells.length := (List.getElem?_eq_some_iff.1 hj).1
  rw [flat_cons, List.getElem?_append_left (by omega)]; simpa using hj
 | x :: l, h, i + 1, e, hi, j, c, hj => by
  have hx := h x (List.mem_cons_self ..)
  rw [flat_cons, List.getElem?_append_right (by rw [hx, Nat.add_mul]; omega), hx]
  have : (i + 1) * sz + j - sz = i * sz + j := by rw [Nat.add_mul]; omega
  rw [this]
  exact flat_get (fun e he => h e (List.mem_cons_of_mem _ he)) (by simpa using hi) hj

theorem flat_at {sz : Nat} : ∀ {l : List PV}, (∀ e ∈ l, e.cells.length = sz) → ∀ {k : Nat} {c : PV}, (flat l)[k]? = some c → ∃ i e j, l[i]? = some e ∧ e.cells[j]? = some c ∧ k = i * sz + j ∧ j < sz
 | [], _, k, c, hk => by simp at hk
 | x :: l, h, k, c, hk => by
  have hx := h x (List.mem_cons_self ..)
  rw [flat_cons] at hk
  by_cases hlt : k < x.cells.length
  ·rw [List.getElem?_append_left hlt] at hk
   exact ⟨0, x, k, rfl, hk, by simp, by omega⟩
  ·rw [List.getElem?_append_right (by omega)] at hk
   obtain ⟨i, e, j, h1, h2, h3, h4⟩ := flat_at (fun e he => h e (List.mem_cons_of_mem _ he)) hk
   exact ⟨i + 1, e, j, by simpa using h1, h2, by rw [Nat.add_mul]; omega, h4⟩

inductive Rep (pub : Nat → Nat → Prop) (w : World) : PV → Value → Prop where
 | lit (v : Value) (h : v.oneCell' = true) : Rep pub w (.lit v) v
 | err (t : TypeId) (v : Value) : Rep pub w (.err true) (.iface t v)
 | noErr : Rep pub w (.err false) .nilIface
 | nils : Rep pub w .nils (.slice none 0 0)
 | slice0 (a : Option Addr) (cap : Nat) : Rep pub w (.slice []) (.slice a 0 cap)
 | slice (b o cap sz : Nat) (l : List PV) (V : Nat → Value) (hsz : ∀ e ∈ l, e.cells.length = sz) (hcap : l.length ≤ cap) (hmx : l.length ≤ 9223372036854775807)
   (hd : ∀ i c, (flat l)[i]? = some c → pub b (o + i) ∧ w.cell? ⟨b, o + i, none⟩ = some (V i) ∧ (V i).oneCell' = true) (hc : ∀ i c, (flat l)[i]? = some c → Rep pub w c (V i)) : Rep pub w (.slice l) (.slice (some ⟨b, o, none⟩) l.length cap)
 | agg (cs : List PV) (arr : Array Value) (hs : arr.size = cs.length) (hd : ∀ (j : Nat) c, cs[j]? = some c → (arr.getD j undef).oneCell' = true) (hc : ∀ (j : Nat) c, cs[j]? = some c → Rep pub w c (arr.getD j undef)) : Rep pub w (.agg cs) (.agg arr)
 | tuple (cs : List PV) (arr : Array Value) (hs : arr.size = cs.length) (hc : ∀ (j : Nat) c, cs[j]? = some c → Rep pub w c (arr.getD j undef)) : Rep pub w (.tuple cs) (.tuple arr)
 | fn (f : FuncId) (cs : List PV) (arr : Array Value) (hs : arr.size = cs.length) (hc : ∀ (j : Nat) c, cs[j]? = some c → Rep pub w c (arr.getD j undef)) : Rep pub w (.fn f cs) (.func (.func f) #[] arr)
 | cptr (b o off : Nat) (cs : List PV) (V : Nat → Value) (hd : ∀ (j : Nat) c, cs[j]? = some c → pub b (o + j) ∧ w.cell? ⟨b, o + j, none⟩ = some (V j) ∧ (V j).oneCell' = true) (hc : ∀ (j : Nat) c, cs[j]? = some c → Rep pub w c (V j)) :
   Rep pub w (.cptr cs off) (.pointer (some ⟨b, o + off, none⟩))

theorem Rep.mono {pub pub' : Nat → Nat → Prop} {w w' : World} (hp : ∀ b o, pub b o → pub' b o) (hw : ∀ b o, pub b o → w'.cell? ⟨b, o, none⟩ = w.cell? ⟨b, o, none⟩) {p : PV} {v : Value} (h : Rep pub w p v) : Rep pub' w' p v := by
 induction h with
 | lit v h => exact .lit v h
 | err t v => exact .err t v
 | noErr => exact .noErr
 | nils => exact .nils
 | slice0 a cap => exact .slice0 a cap
 | slice b o cap sz l V hsz hcap hmx hd hc ih => exact .slice b o cap sz l V hsz hcap hmx (fun i c hi => ⟨hp _ _ (hd i c hi).1, (hw _ _ (hd i c hi).1).trans (hd i c hi).2.1, (hd i c hi).2.2⟩) ih
 | agg cs arr hs hd hc ih => exact .agg cs arr hs hd ih
 | tuple cs arr hs hc ih => exact .tuple cs arr hs ih
 | fn f cs arr hs hc ih => exact .fn f cs arr hs ih
 | cptr b o off cs V hd hc ih => exact .cptr b o off cs V (fun j c hj => ⟨hp _ _ (hd j c hj).1, (hw _ _ (hd j c hj).1).trans (hd j c hj).2.1, (hd j c hj).2.2⟩) ih

def scalarV : Value → Bool
 | .int _ _ => true | .bool _ => true | .string _ => true | _ => false
inductive SRep (R : Nat → Prop) (w : World) : PV → Value → Prop where
 | lit (u v : Value) (h : v.oneCell' = true) (hs : v = u ∨ (scalarV u = true ∧ scalarV v = true)) : SRep R w (.lit u) v
 | err (b : Bool) (v : Value) : SRep R w (.err b) v
 | tuple (cs : List PV) (v : Value) : SRep R w (.tuple cs) v
 | fn (f : FuncId) (cs : List PV) (v : Value) : SRep R w (.fn f cs) v
 | nils : SRep R w .nils (.slice none 0 0)
 | slice0 (a : Option Addr) (cap : Nat) : SRep R w (.slice []) (.slice a 0 cap)
 | slice (b o cap sz : Nat) (l : List PV) (V : Nat → Value) (hsz : ∀ e ∈ l, e.cells.length = sz) (hcap : l.length ≤ cap) (hmx : l.length ≤ 9223372036854775807)
   (hd : ∀ i c, (flat l)[i]? = some c → (R b ∧ w.frozen? ⟨b, o + i, none⟩ = false) ∧ w.cell? ⟨b, o + i, none⟩ = some (V i) ∧ (V i).oneCell' = true) (hc : ∀ i c, (flat l)[i]? = some c → SRep R w c (V i)) : SRep R w (.slice l) (.slice (some ⟨b, o, none⟩) l.length cap)
 | agg (cs : List PV) (arr : Array Value) (hs : arr.size = cs.length) (hd : ∀ (j : Nat) c, cs[j]? = some c → (arr.getD j undef).oneCell' = true) (hc : ∀ (j : Nat) c, cs[j]? = some c → SRep R w c (arr.getD j undef)) : SRep R w (.agg cs) (.agg arr)
 | cptr (b o off : Nat) (cs : List PV) (V : Nat → Value) (hd : ∀ (j : Nat) c, cs[j]? = some c → (R b ∧ w.frozen? ⟨b, o + j, none⟩ = false) ∧ w.cell? ⟨b, o + j, none⟩ = some (V j) ∧ (V j).oneCell' = true) (hc : ∀ (j : Nat) c, cs[j]? = some c → SRep R w c (V j)) :
   SRep R w (.cptr cs off) (.pointer (some ⟨b, o + off, none⟩))
def SkW (R : Nat → Prop) (w w' : World) : Prop := (∀ b o, R b → w'.frozen? ⟨b, o, none⟩ = w.frozen? ⟨b, o, none⟩) ∧ ∀ b o v, R b → w.cell? ⟨b, o, none⟩ = some v → ∃ v', w'.cell? ⟨b, o, none⟩ = some v' ∧ (v' = v ∨ (scalarV v = true ∧ scalarV v' = true ∧ v'.oneCell' = true))
theorem SkW.refl (R : Nat → Prop) (w : World) : SkW R w w := ⟨fun _ _ _ => rfl, fun _ _ v _ h => ⟨v, h, .inl rfl⟩⟩
theorem SkW.trans {R : Nat → Prop} {a b c : World} (h : SkW R a b) (k : SkW R b c) : SkW R a c := ⟨fun b o hb => (k.1 b o hb).trans (h.1 b o hb), fun g o v hR hv => by
 obtain ⟨v1, h1, h2⟩ := h.2 g o v hR hv
 obtain ⟨v2, h3, h4⟩ := k.2 g o v1 hR h1
 refine ⟨v2, h3, ?_⟩
 rcases h4 with rfl | ⟨h5, h6, h7⟩
 ·exact h2
 ·rcases h2 with rfl | ⟨h8, h9, _⟩
  ·exact .inr ⟨h5, h6, h7⟩
  ·exact .inr ⟨h8, h6, h7⟩⟩
theorem SkW.same {R : Nat → Prop} {w w' : World} (h : ∀ b, R b → w'.heap[b]? = w.heap[b]?) : SkW R w w' := ⟨fun b o hb => by
 unfold World.frozen?
 simp only [h b hb], fun b o v hR hv => ⟨v, by
 unfold World.cell? at hv ⊢
 simp only [h b hR]
 exact hv, .inl rfl⟩⟩
def regB (v : Value) (b : Nat) : Prop := ∃ lo hi : Nat, v = .agg #[.int .i64 lo, .int .i64 hi] ∧ lo ≤ b ∧ b < hi
def regP (own : Bool) (w : World) (v : Value) (b o : Nat) : Prop := regB v b ∧ (own = true → w.frozen? ⟨b, o, none⟩ = false)

structure St where
 slot : Nat → PV
 mem : Nat → PV

inductive RefOk (V : Nat → Value) (mem : Nat → PV) : PV → Value → Prop where
 | own (n k : Nat) (v : Value) (x : Bool) (e sz : Nat) (l : List PV) (hm : mem n = .obj x e sz l) (hk : k ≤ l.length) (h : k = l.length → v = V n) : RefOk V mem (.own n k) v
 | lptr (n off : Nat) (x : Bool) (cs : List PV) (b : Nat) (hm : mem n = .blk x cs) (hv : V n = .pointer (some ⟨b, 0, none⟩)) : RefOk V mem (.lptr n off) (.pointer (some ⟨b, off, none⟩))
 | eptr (n k i off : Nat) (v : Value) (x : Bool) (e sz : Nat) (l : List PV) (hm : mem n = .obj x e sz l) (hk : k ≤ l.length)
   (h : k = l.length → ∃ g cap, V n = .slice (some ⟨g, 0, none⟩) l.length cap ∧ v = .pointer (some ⟨g, i * sz + off, none⟩)) : RefOk V mem (.eptr n k i off) v
 | osl (n k i j : Nat) (v : Value) (x : Bool) (e sz : Nat) (l : List PV) (hm : mem n = .obj x e sz l) (hk : k ≤ l.length) (hij : i ≤ j ∧ j ≤ k)
   (h : k = l.length → ∃ g cap, V n = .slice (some ⟨g, 0, none⟩) l.length cap ∧ v = .slice (some ⟨g, (if cap = i then 0 else i * sz), none⟩) (j - i) (cap - i)) : RefOk V mem (.osl n k i j) v

inductive RV (pub : Nat → Nat → Prop) (w : World) (V : Nat → Value) (mem : Nat → PV) : PV → Value → Prop where
 | undef (v : Value) : RV pub w V mem .undef v
 | pure {p : PV} {v : Value} (h : Rep pub w p v) : RV pub w V mem p v
 | ref {p : PV} {v : Value} (h : RefOk V mem p v) : RV pub w V mem p v
 | agg (cs : List PV) (arr : Array Value) (hs : arr.size = cs.length) (hd : ∀ (j : Nat) c, cs[j]? = some c → (arr.getD j Go.undef).oneCell' = true) (hc : ∀ (j : Nat) c, cs[j]? = some c → RV pub w V mem c (arr.getD j Go.undef)) : RV pub w V mem (.agg cs) (.agg arr)
 | tuple (cs : List PV) (arr : Array Value) (hs : arr.size = cs.length) (hc : ∀ (j : Nat) c, cs[j]? = some c → RV pub w V mem c (arr.getD j Go.undef)) : RV pub w V mem (.tuple cs) (.tuple arr)
 | yng (c : Nat) (p : PV) (v : Value) (own : Bool) (hm : mem c = .yreg false own) (h : Rep (regP own w (V c)) w p v) : RV pub w V mem (.yng c p) v
 | ysk (c : Nat) (p : PV) (v : Value) (own : Bool) (hm : mem c = .yreg true own) (h : SRep (regB (V c)) w p v) : RV pub w V mem (.ysk c p) v

def tyOf (e : Nat) : Nat := if 1099511627776 ≤ e then e - 1099511627776 else e
def frOk (e n : Nat) (fr : Nat × Nat) : Prop := fr = (0, 0) ∨ (1099511627776 ≤ e ∧ n ≤ fr.1)
theorem frOk.size {e n m : Nat} {fr : Nat × Nat} (h : frOk e n fr) (hm : m = n) : frOk e m fr := hm ▸ h
theorem not_frozen {w : World} {g T e o : Nat} {cur : Array Value} {fr : Nat × Nat} (hh : w.heap[g]? = some (.cells cur T fr)) (hf : frOk e cur.size fr) (ho : o < cur.size) : w.frozen? ⟨g, o, none⟩ = false := by
 obtain ⟨lo, hi⟩ := fr
 simp only [World.frozen?, hh]
 rcases hf with h | ⟨_, h⟩
 ·cases h; simp
 ·have : ¬ lo ≤ o := by simp only at h; omega
  simp [this]
def rowG (w : World) (e sz : Nat) (v : Value) (n : Nat) (xs : List Value) : Prop := xs.length = n * sz ∧ ((v = .slice none 0 0 ∧ n = 0) ∨ ∃ g cap cur, v = .slice (some ⟨g, 0, none⟩) n cap ∧ 0 ≤ g ∧ (∃ fr, w.heap[g]? = some (.cells cur (tyOf e) fr) ∧ frOk e cur.size fr) ∧ n ≤ cap ∧ cap ≤ maxLen ∧ cur.size = cap * sz ∧ cur.toList.take (n * sz) = xs)
theorem rowG.of {w : World} {base e sz n : Nat} {v : Value} {xs : List Value} (h : w.ownsRow base e sz v n xs) (he : e < 1099511627776) : rowG w e sz v n xs :=
 ⟨h.1, h.2.imp id fun ⟨g, cap, cur, h1, h2, h3, h4⟩ => ⟨g, cap, cur, h1, Nat.zero_le _, ⟨(0, 0), by rw [tyOf, if_neg (by omega)]; exact h3, .inl rfl⟩, h4⟩⟩
theorem rowG.plain {w : World} {e sz n : Nat} {v : Value} {xs : List Value} (h : rowG w e sz v n xs) (he : e < 1099511627776) : w.ownsRow 0 e sz v n xs :=
 ⟨h.1, h.2.imp id fun ⟨g, cap, cur, h1, h2, ⟨fr, h3, hf⟩, h4⟩ => ⟨g, cap, cur, h1, h2, by
  rcases hf with rfl | ⟨hf, _⟩
  ·rw [tyOf, if_neg (by omega)] at h3; exact h3
  ·omega, h4⟩⟩
theorem rowG.cells {w : World} {e sz n : Nat} {v : Value} {xs : List Value} (h : rowG w e sz v n xs) {g : Nat} (hg : v.ownBlock = some g) : ∀ (j : Nat) u, xs[j]? = some u → w.cell? ((⟨g, 0, none⟩ : Addr).add j) = some u := by
 intro j u hu
 rcases h.2 with ⟨rfl, _⟩ | ⟨g', cap, cur, rfl, _, ⟨fr, hh, _⟩, hnc, hcm, hcs, htake⟩
 ·cases hg
 ·simp [Value.ownBlock] at hg
  subst hg
  have ha : ((⟨g', 0, none⟩ : Addr).add j) = ⟨g', j, none⟩ := by unfold Addr.add; split <;> simp_all
  rw [ha]
  simp only [World.cell?, hh]
  rw [← htake, List.getElem?_take] at hu
  split at hu
  ·simpa using hu
  ·cases hu
def ownsRowB (w : World) (B : Nat → Prop) (e : TypeId) (sz : Nat) (v : Value) (n : Nat) (xs : List Value) : Prop := rowG w e sz v n xs ∧ ∀ g, v.ownBlock = some g → B g

structure Base0 where
 w : World
 own : Nat → Prop
 fix : Nat → Value

def Base0.O (w0 : Base0) (b : Nat) : Prop := w0.w.heap.size ≤ b ∨ w0.own b

structure BelowB (w0 : Base0) (w w' : World) : Prop where
 os : w'.os = w.os
 tape : w'.tape = w.tape
 output : w'.output = w.output
 size : w.heap.size ≤ w'.heap.size
 block : ∀ k, ¬ w0.O k → w'.heap[k]? = w.heap[k]?
theorem BelowB.refl (w0 : Base0) (w : World) : BelowB w0 w w := ⟨rfl, rfl, rfl, Nat.le_refl _, fun _ _ => rfl⟩
theorem BelowB.trans {w0 : Base0} {a b c : World} (h : BelowB w0 a b) (k : BelowB w0 b c) : BelowB w0 a c :=
 ⟨k.os.trans h.os, k.tape.trans h.tape, k.output.trans h.output, Nat.le_trans h.size k.size, fun i hi => (k.block i hi).trans (h.block i hi)⟩
theorem BelowB.of {w0 : Base0} {w w' : World} (hs : w0.w.heap.size ≤ w.heap.size) (h : Below w.heap.size w w') : BelowB w0 w w' :=
 ⟨h.os, h.tape, h.output, h.size, fun k hk => h.block k (by
  have : ¬ w0.w.heap.size ≤ k := fun e => hk (.inl e)
  omega)⟩

inductive MemOk (pub : Nat → Nat → Prop) (w : World) (V : Nat → Value) (mem : Nat → PV) (B : Nat → Prop) (v : Value) : PV → Prop where
 | undef : MemOk pub w V mem B v .undef
 | yreg (s own : Bool) (lo hi : Nat) (hv : v = .agg #[.int .i64 lo, .int .i64 hi]) (hh : hi ≤ w.heap.size) (hp : ∀ b o, lo ≤ b → b < hi → ¬ pub b o) (hB : ∀ b, lo ≤ b → b < hi → own = true → B b) : MemOk pub w V mem B v (.yreg s own)
 | blk (x : Bool) (cs : List PV) (g : Nat) (arr : Array Value) (T : TypeId) (hv : v = .pointer (some ⟨g, 0, none⟩)) (hB : B g) (hg : w.heap[g]? = some (.cells arr T (0, 0))) (hs : arr.size = cs.length)
   (hp : ∀ o, pub g o → x = false) (hq : x = false → ∀ o, o < arr.size → pub g o) (hc : ∀ (j : Nat) c, cs[j]? = some c → (arr.getD j Go.undef).oneCell' = true ∧ RV pub w V mem c (arr.getD j Go.undef))
   (hr : x = false → ∀ (j : Nat) c, cs[j]? = some c → Rep pub w c (arr.getD j Go.undef)) : MemOk pub w V mem B v (.blk x cs)
 | obj (x : Bool) (e sz : Nat) (l : List PV) (xs : List Value) (hsz : 0 < sz) (hmx : l.length ≤ 9223372036854775807) (hl : ∀ e ∈ l, e.cells.length = sz) (how : ownsRowB w B e sz v l.length xs)
   (hp : ∀ g o, v.ownBlock = some g → pub g o → x = false ∧ o < l.length * sz) (hq : x = false → ∀ g o, v.ownBlock = some g → o < l.length * sz → pub g o)
   (hc : ∀ (i : Nat) c, (flat l)[i]? = some c → (xs.getD i Go.undef).oneCell' = true ∧ Rep pub w c (xs.getD i Go.undef)) : MemOk pub w V mem B v (.obj x e sz l)

def blockOf : Value → Option Nat
 | .slice (some a) _ _ => some a.block
 | .pointer (some a) => some a.block
 | _ => none

def inB (v : Value) (g : Nat) : Prop := blockOf v = some g ∨ regB v g
theorem inB_slice {a : Option Addr} {n c g : Nat} (h : inB (.slice a n c) g) : blockOf (.slice a n c) = some g := by
 rcases h with h | ⟨lo, hi, h, _⟩
 ·exact h
 ·cases h
theorem inB_pointer {a : Option Addr} {g : Nat} (h : inB (.pointer a) g) : blockOf (.pointer a) = some g := by
 rcases h with h | ⟨lo, hi, h, _⟩
 ·exact h
 ·cases h

structure GP (P : Program) (w : World) : Prop where
 tab : ∀ g, P.globalNamed "internal/strconv.uint64pow10" = some g → w.var? P "internal/strconv.uint64pow10" = some (Lib.pow10Tab.map fun z => Value.int .u64 z).toArray
 maxLen : ∀ g, P.globalNamed "internal/bytealg.MaxLen" = some g → ∃ m, w.cell? ⟨g, 0, none⟩ = some (.int .i64 m)
 errS : ∀ g, P.globalNamed "strconv.ErrSyntax" = some g → ∃ tp q, w.var? P "strconv.ErrSyntax" = some #[.iface tp q]
 errR : ∀ g, P.globalNamed "strconv.ErrRange" = some g → ∃ tp q, w.var? P "strconv.ErrRange" = some #[.iface tp q]
theorem var_same {P : Program} {w w' : World} {name : String} {cs : Array Value} (hb : ∀ k, k < w.heap.size → w'.heap[k]? = w.heap[k]?) (h1 : w.var? P name = some cs) : w'.var? P name = some cs := by
 cases hg : P.globalNamed name with
 | none => simp [World.var?, hg] at h1
 | some g =>
  have hlt : g < w.heap.size := by
   apply Classical.byContradiction
   intro hge
   have : w.heap[g]? = none := Array.getElem?_eq_none (by omega)
   simp [World.var?, hg, this] at h1
  simp only [World.var?, hg, Option.bind_some, hb g hlt] at h1 ⊢
  exact h1
theorem cell_same {w w' : World} {g o : Nat} {v : Value} (hb : ∀ k, k < w.heap.size → w'.heap[k]? = w.heap[k]?) (h1 : w.cell? ⟨g, o, none⟩ = some v) : w'.cell? ⟨g, o, none⟩ = some v := by
 have hlt : g < w.heap.size := by
  apply Classical.byContradiction
  intro hge
  have : w.heap[g]? = none := Array.getElem?_eq_none (by omega)
  simp [World.cell?, this] at h1
 simp only [World.cell?, hb g hlt] at h1 ⊢
 exact h1
theorem GP.same {P : Program} {w w' : World} (h : GP P w) (hb : ∀ k, k < w.heap.size → w'.heap[k]? = w.heap[k]?) : GP P w' :=
 ⟨fun g hg => var_same hb (h.tab g hg), fun g hg => let ⟨m, e⟩ := h.maxLen g hg; ⟨m, cell_same hb e⟩, fun g hg => let ⟨m, q, e⟩ := h.errS g hg; ⟨m, q, var_same hb e⟩, fun g hg => let ⟨m, q, e⟩ := h.errR g hg; ⟨m, q, var_same hb e⟩⟩
theorem GP.noVars {P : Program} {w : World} (h1 : P.globalNamed "internal/strconv.uint64pow10" = none) (h2 : P.globalNamed "internal/bytealg.MaxLen" = none) (h3 : P.globalNamed "strconv.ErrSyntax" = none) (h4 : P.globalNamed "strconv.ErrRange" = none) : GP P w :=
 ⟨fun g hg => (by rw [h1] at hg; cases hg), fun g hg => (by rw [h2] at hg; cases hg), fun g hg => (by rw [h3] at hg; cases hg), fun g hg => (by rw [h4] at hg; cases hg)⟩
structure Base (P : Program) extends Base0 where
 good : ∀ w' : World, (∀ k, ¬ toBase0.O k → w'.heap[k]? = w.heap[k]?) → GP P w'
instance {P : Program} : CoeOut (Base P) Base0 := ⟨Base.toBase0⟩
theorem Base.gp {P : Program} {w0 : Base P} {w : World} (h : BelowB w0 w0.w w) : GP P w := w0.good w h.block

structure Rel0 {P : Program} (N : Nat) (w0 : Base P) (pub : Nat → Nat → Prop) (V : Nat → Value) (s : St) (a : Act) (w : World) : Prop where
 defers : a.defers = []
 size : a.tmps.size = N
 below : BelowB w0 w0.w w
 fixed : ∀ n, n % 64 = 63 → V n = w0.fix n
 pubLt : ∀ b o, pub b o → b < w.heap.size
 slots : ∀ t, RV pub w V s.mem (s.slot t) (a.tmps.getD t Go.undef)
 mem : ∀ n, MemOk pub w V s.mem w0.O (V n) (s.mem n)
 apart : ∀ n m g, s.mem n ≠ .undef → s.mem m ≠ .undef → inB (V n) g → inB (V m) g → n = m
 soft : ∀ b o, pub b o → w0.w.heap.size ≤ b → w.frozen? ⟨b, o, none⟩ = false
 skel : ∀ n own, n % 64 = 63 → s.mem n = .yreg true own → SkW (regB (V n)) w0.w w

def Rel {P : Program} (N : Nat) (w0 : Base P) (pub0 : Nat → Nat → Prop) (s : St) (a : Act) (w : World) : Prop :=
 ∃ pub V, (∀ b o, pub0 b o → pub b o) ∧ (∀ b o, pub b o → pub0 b o ∨ w0.O b) ∧ Rel0 N w0 pub V s a w

end Go.Px
namespace Go.Px
set_option linter.unusedSimpArgs false
set_option linter.unusedVariables false
open Go.RowKit

def upd (m : Nat → PV) (n : Nat) (p : PV) : Nat → PV := fun k => if k = n then p else m k
theorem upd_same (m : Nat → PV) (n : Nat) (p : PV) : upd m n p n = p := by simp [upd]
theorem upd_ne (m : Nat → PV) {n k : Nat} (p : PV) (h : k ≠ n) : upd m n p k = m k := by simp [upd, h]
def updV (V : Nat → Value) (n : Nat) (v : Value) : Nat → Value := fun k => if k = n then v else V k
theorem updV_same (V : Nat → Value) (n : Nat) (v : Value) : updV V n v n = v := by simp [updV]
theorem updV_ne (V : Nat → Value) {n k : Nat} (v : Value) (h : k ≠ n) : updV V n v k = V k := by simp [updV, h]

theorem cellOB' {w w' : World} {b o : Nat} (h : w'.heap[b]? = w.heap[b]?) : w'.cell? ⟨b, o, none⟩ = w.cell? ⟨b, o, none⟩ := by
 unfold World.cell?
 simp only [h]
theorem frozenOB' {w w' : World} {b o : Nat} (h : w'.heap[b]? = w.heap[b]?) : w'.frozen? ⟨b, o, none⟩ = w.frozen? ⟨b, o, none⟩ := by
 unfold World.frozen?
 simp only [h]
theorem SRep.mono {R : Nat → Prop} {w w' : World} (hw : SkW R w w') {p : PV} {v : Value} (h : SRep R w p v) : SRep R w' p v := by
 have keep : ∀ (c : PV) (u u' : Value), SRep R w c u → SRep R w' c u → (u' = u ∨ (scalarV u = true ∧ scalarV u' = true ∧ u'.oneCell' = true)) → SRep R w' c u' := by
  intro c u u' h0 h h2
  rcases h2 with rfl | ⟨h3, h4, h5⟩
  ·exact h
  ·cases h with
   | lit x _ _ hx =>
    rcases hx with rfl | ⟨hx, _⟩
    ·exact .lit _ u' h5 (.inr ⟨h3, h4⟩)
    ·exact .lit x u' h5 (.inr ⟨hx, h4⟩)
   | err b => exact .err b u'
   | tuple cs => exact .tuple cs u'
   | fn f cs => exact .fn f cs u'
   | _ => cases h3
 induction h with
 | lit u v h hs => exact .lit u v h hs
 | err b v => exact .err b v
 | tuple cs v => exact .tuple cs v
 | fn f cs v => exact .fn f cs v
 | nils => exact .nils
 | slice0 a cap => exact .slice0 a cap
 | slice b o cap sz l V hsz hcap hmx hd hc ih =>
  have hx : ∀ i c, (flat l)[i]? = some c → ∃ v', w'.cell? ⟨b, o + i, none⟩ = some v' ∧ (v' = V i ∨ (scalarV (V i) = true ∧ scalarV v' = true ∧ v'.oneCell' = true)) := fun i c hi => hw.2 b (o + i) (V i) (hd i c hi).1.1 (hd i c hi).2.1
  refine .slice b o cap sz l (fun i => (w'.cell? ⟨b, o + i, none⟩).getD Go.undef) hsz hcap hmx (fun i c hi => ?_) (fun i c hi => ?_)
  ·obtain ⟨v', h1, h2⟩ := hx i c hi
   refine ⟨⟨(hd i c hi).1.1, (hw.1 b (o + i) (hd i c hi).1.1).trans (hd i c hi).1.2⟩, by simp [h1], ?_⟩
   simp only [h1, Option.getD_some]
   rcases h2 with rfl | ⟨_, _, h5⟩
   ·exact (hd i c hi).2.2
   ·exact h5
  ·obtain ⟨v', h1, h2⟩ := hx i c hi
   simp only [h1, Option.getD_some]
   exact keep c (V i) v' (hc i c hi) (ih i c hi) h2
 | agg cs arr hs hd hc ih => exact .agg cs arr hs hd ih
 | cptr b o off cs V hd hc ih =>
  have hx : ∀ (j : Nat) c, cs[j]? = some c → ∃ v', w'.cell? ⟨b, o + j, none⟩ = some v' ∧ (v' = V j ∨ (scalarV (V j) = true ∧ scalarV v' = true ∧ v'.oneCell' = true)) := fun i c hi => hw.2 b (o + i) (V i) (hd i c hi).1.1 (hd i c hi).2.1
  refine .cptr b o off cs (fun i => (w'.cell? ⟨b, o + i, none⟩).getD Go.undef) (fun i c hi => ?_) (fun i c hi => ?_)
  ·obtain ⟨v', h1, h2⟩ := hx i c hi
   refine ⟨⟨(hd i c hi).1.1, (hw.1 b (o + i) (hd i c hi).1.1).trans (hd i c hi).1.2⟩, by simp [h1], ?_⟩
   simp only [h1, Option.getD_some]
   rcases h2 with rfl | ⟨_, _, h5⟩
   ·exact (hd i c hi).2.2
   ·exact h5
  ·obtain ⟨v', h1, h2⟩ := hx i c hi
   simp only [h1, Option.getD_some]
   exact keep c (V i) v' (hc i c hi) (ih i c hi) h2

theorem RV.mono {pub pub' : Nat → Nat → Prop} {w w' : World} {V V' : Nat → Value} {m m' : Nat → PV} (hp : ∀ b o, pub b o → pub' b o) (hw : ∀ b o, pub b o → w'.cell? ⟨b, o, none⟩ = w.cell? ⟨b, o, none⟩)
  (hr : ∀ p v, RefOk V m p v → RefOk V' m' p v) (hy : ∀ c s own, m c = .yreg s own → m' c = .yreg s own ∧ V' c = V c ∧ (s = false → ∀ b, regB (V c) b → w'.heap[b]? = w.heap[b]?) ∧ (s = true → SkW (regB (V c)) w w')) {p : PV} {v : Value} (h : RV pub w V m p v) : RV pub' w' V' m' p v := by
 induction h with
 | undef v => exact .undef v
 | pure h => exact .pure (h.mono hp hw)
 | ref h => exact .ref (hr _ _ h)
 | agg cs arr hs hd _ ih => exact .agg cs arr hs hd ih
 | tuple cs arr hs _ ih => exact .tuple cs arr hs ih
 | yng c p v own hm h =>
  obtain ⟨h1, h2, h3, _⟩ := hy c _ _ hm
  exact .yng c p v own h1 (by rw [h2]; exact h.mono (fun b o hb => ⟨hb.1, fun e => by rw [frozenOB' (h3 rfl b hb.1)]; exact hb.2 e⟩) (fun b o hb => cellOB' (h3 rfl b hb.1)))
 | ysk c p v own hm h =>
  obtain ⟨h1, h2, _, h4⟩ := hy c _ _ hm
  exact .ysk c p v own h1 (by rw [h2]; exact h.mono (h4 rfl))

structure Tr (pub : Nat → Nat → Prop) (w : World) (V : Nat → Value) (m : Nat → PV) (pub' : Nat → Nat → Prop) (w' : World) (V' : Nat → Value) (m' : Nat → PV) (T : Nat → Prop) : Prop where
 pubs : ∀ b o, pub b o → pub' b o
 cells : ∀ b o, pub b o → w'.cell? ⟨b, o, none⟩ = w.cell? ⟨b, o, none⟩
 refs : ∀ p v, RefOk V m p v → RefOk V' m' p v
 same : ∀ n, ¬ T n → m n ≠ .undef → V' n = V n
 memSame : ∀ n, ¬ T n → m' n = m n
 blocks : ∀ n g, ¬ T n → m n ≠ .undef → inB (V n) g → w'.heap[g]? = w.heap[g]? ∧ ∀ o, pub' g o → pub g o
 regs : ∀ c s own, T c → m c = .yreg s own → m' c = .yreg s own ∧ V' c = V c ∧ s = true ∧ SkW (regB (V c)) w w'

section
variable {pub pub' : Nat → Nat → Prop} {w w' : World} {V V' : Nat → Value} {m m' : Nat → PV} {T : Nat → Prop} {B : Nat → Prop}

theorem Tr.reg (t : Tr pub w V m pub' w' V' m' T) (c : Nat) (s own : Bool) (hm : m c = .yreg s own) : m' c = .yreg s own ∧ V' c = V c ∧ (s = false → ∀ b, regB (V c) b → w'.heap[b]? = w.heap[b]?) ∧ (s = true → SkW (regB (V c)) w w') := by
 by_cases hT : T c
 ·obtain ⟨h1, h2, h3, h4⟩ := t.regs c s own hT hm
  exact ⟨h1, h2, (fun e => by rw [h3] at e; cases e), fun _ => h4⟩
 ·have hu : m c ≠ .undef := by rw [hm]; intro e; cases e
  have hb : ∀ b, regB (V c) b → w'.heap[b]? = w.heap[b]? := fun b hb => (t.blocks c b hT hu (.inr hb)).1
  exact ⟨(t.memSame c hT).trans hm, t.same c hT hu, fun _ => hb, fun _ => .same hb⟩
theorem Tr.rv (t : Tr pub w V m pub' w' V' m' T) {p : PV} {v : Value} (h : RV pub w V m p v) : RV pub' w' V' m' p v := h.mono t.pubs t.cells t.refs t.reg
theorem Tr.rep (t : Tr pub w V m pub' w' V' m' T) {p : PV} {v : Value} (h : Rep pub w p v) : Rep pub' w' p v := h.mono t.pubs t.cells

theorem ownsRow_of_block {e sz n : Nat} {v : Value} {xs : List Value} (h : ownsRowB w B e sz v n xs) (hb : ∀ g, v.ownBlock = some g → w'.heap[g]? = w.heap[g]?) : ownsRowB w' B e sz v n xs := by
 obtain ⟨⟨h1, h2⟩, h3⟩ := h
 refine ⟨⟨h1, ?_⟩, h3⟩
 rcases h2 with h2 | ⟨g, cap, cur, rfl, hg, hh, r⟩
 ·exact .inl h2
 ·obtain ⟨fr, hh, hf⟩ := hh
  exact .inr ⟨g, cap, cur, rfl, hg, ⟨fr, (hb g rfl).trans hh, hf⟩, r⟩

theorem ownBlock_blockOf {v : Value} {g : Nat} (h : v.ownBlock = some g) : blockOf v = some g := by
 unfold Value.ownBlock at h
 split at h
 ·simpa [blockOf] using h
 ·cases h

theorem Tr.memOk (t : Tr pub w V m pub' w' V' m' T) (hsz : w.heap.size ≤ w'.heap.size) {n : Nat} (hT : ¬ T n) (h : MemOk pub w V m B (V n) (m n)) : MemOk pub' w' V' m' B (V' n) (m' n) := by
 rw [t.memSame n hT]
 by_cases hu : m n = .undef
 ·rw [hu]; exact .undef
 rw [t.same n hT hu]
 have hb := fun g => t.blocks n g hT hu
 have hbb0 : ∀ g, blockOf (V n) = some g → w'.heap[g]? = w.heap[g]? ∧ ∀ o, pub' g o → pub g o := fun g hg => hb g (.inl hg)
 generalize V n = v at *
 generalize hmn : m n = p at *
 cases h with
 | undef => exact .undef
 | yreg s own lo hi hv hh hp hB => exact .yreg s own lo hi hv (Nat.le_trans hh hsz) (fun b o h1 h2 h3 => hp b o h1 h2 ((hb b (.inr ⟨lo, hi, hv, h1, h2⟩)).2 o h3)) hB
 | blk x cs g arr T' hv hB hg hs hp hq hc hr =>
  subst hv
  obtain ⟨h1, h2⟩ := hbb0 g rfl
  exact .blk x cs g arr T' rfl hB (h1.trans hg) hs (fun o ho => hp o (h2 o ho)) (fun hx o ho => t.pubs _ _ (hq hx o ho)) (fun j c hj => ⟨(hc j c hj).1, t.rv (hc j c hj).2⟩) (fun hx j c hj => t.rep (hr hx j c hj))
 | obj x e sz l xs hsz hmx hl how hp hq hc =>
  have hbb : ∀ g, v.ownBlock = some g → w'.heap[g]? = w.heap[g]? ∧ ∀ o, pub' g o → pub g o := fun g hg => hbb0 g (ownBlock_blockOf hg)
  exact .obj x e sz l xs hsz hmx hl (ownsRow_of_block how fun g hg => (hbb g hg).1) (fun g o hg ho => hp g o hg ((hbb g hg).2 o ho)) (fun hx g o hg ho => t.pubs _ _ (hq hx g o hg ho)) (fun i c hi => ⟨(hc i c hi).1, t.rep (hc i c hi).2⟩)

theorem Rel0.turn {P : Program} {N : Nat} {w0 : Base P} {s : St} {a : Act} (h : Rel0 N w0 pub V s a w) (t : Tr pub w V s.mem pub' w' V' m' T) (hb : BelowB w0 w w') (hfx : ∀ n, n % 64 = 63 → V' n = V n) (hlt : ∀ b o, pub' b o → b < w'.heap.size)
  (hT : ∀ n, T n → MemOk pub' w' V' m' w0.O (V' n) (m' n))
  (hap : ∀ n k g, n ≠ k → m' n ≠ .undef → m' k ≠ .undef → inB (V' n) g → inB (V' k) g → False) (hnew : ∀ n own, n % 64 = 63 → m' n = .yreg true own → s.mem n = .yreg true own) (hsoft : ∀ b o, pub' b o → w0.w.heap.size ≤ b → w'.frozen? ⟨b, o, none⟩ = false) : Rel0 N w0 pub' V' { s with mem := m' } a w' :=
 ⟨h.defers, h.size, h.below.trans hb, fun n hn => (hfx n hn).trans (h.fixed n hn), hlt, fun k => t.rv (h.slots k), fun n => by
  by_cases hn : T n
  ·exact hT n hn
  ·exact t.memOk hb.size hn (h.mem n), fun n k g h1 h2 h3 h4 => Classical.byContradiction fun hne => hap n k g hne h1 h2 h3 h4, hsoft, fun n own h63 hm => by
   have hm0 := hnew n own h63 hm
   have := (t.reg n true own hm0)
   rw [this.2.1]
   exact (h.skel n own h63 hm0).trans (this.2.2.2 rfl)⟩

theorem Rel0.put {P : Program} {N : Nat} {w0 : Base P} {s : St} {a : Act} (h : Rel0 N w0 pub V s a w) (d : Nat) {p : PV} {v : Value} (hd : d < N) (hv : RV pub w V s.mem p v) :
  Rel0 N w0 pub V { s with slot := upd s.slot d p } (a.put (some d) v) w := by
 refine ⟨h.defers, by simpa [Act.put] using h.size, h.below, h.fixed, h.pubLt, fun t => ?_, h.mem, h.apart, h.soft, h.skel⟩
 have hN := h.size
 by_cases ht : t = d
 ·subst ht
  simp only [upd_same]
  have : (a.put (some t) v).tmps.getD t Go.undef = v := by
   simp [Act.put, hN, hd]
  rw [this]; exact hv
 ·simp only [upd_ne _ _ ht]
  have : (a.put (some d) v).tmps.getD t Go.undef = a.tmps.getD t Go.undef := by
   simp [Act.put, Array.getElem?_setIfInBounds_ne (Ne.symm ht)]
  rw [this]; exact h.slots t
end
end Go.Px
namespace Go.Px
set_option linter.unusedSimpArgs false
set_option linter.unusedVariables false
open Go.RowKit

section inv
variable {pub : Nat → Nat → Prop} {w : World} {V : Nat → Value} {m : Nat → PV}

theorem RV.lit_inv {u v : Value} (h : RV pub w V m (.lit u) v) : v = u ∧ u.oneCell' = true := by
 cases h with
 | pure h => cases h with | lit _ h => exact ⟨rfl, h⟩
 | ref h => cases h
theorem RV.nils_inv {v : Value} (h : RV pub w V m .nils v) : v = .slice none 0 0 := by
 cases h with
 | pure h => cases h; rfl
 | ref h => cases h
theorem RV.err_inv {b : Bool} {v : Value} (h : RV pub w V m (.err b) v) : (b = true ∧ ∃ t u, v = .iface t u) ∨ (b = false ∧ v = .nilIface) := by
 cases h with
 | pure h =>
  cases h with
  | err t u => exact .inl ⟨rfl, _, _, rfl⟩
  | noErr => exact .inr ⟨rfl, rfl⟩
 | ref h => cases h
theorem RV.slice_inv {l : List PV} {v : Value} (h : RV pub w V m (.slice l) v) : Rep pub w (.slice l) v := by
 cases h with
 | pure h => exact h
 | ref h => cases h
theorem RV.fn_inv {f : FuncId} {cs : List PV} {v : Value} (h : RV pub w V m (.fn f cs) v) : ∃ arr : Array Value, v = .func (.func f) #[] arr ∧ arr.size = cs.length ∧ ∀ (j : Nat) c, cs[j]? = some c → Rep pub w c (arr.getD j Go.undef) := by
 cases h with
 | pure h => cases h with | fn _ _ arr hs hc => exact ⟨arr, rfl, hs, hc⟩
 | ref h => cases h
theorem RV.cptr_inv {cs : List PV} {off : Nat} {v : Value} (h : RV pub w V m (.cptr cs off) v) : ∃ (b o : Nat) (W : Nat → Value), v = .pointer (some ⟨b, o + off, none⟩) ∧
  (∀ (j : Nat) c, cs[j]? = some c → pub b (o + j) ∧ w.cell? ⟨b, o + j, none⟩ = some (W j) ∧ (W j).oneCell' = true) ∧ ∀ (j : Nat) c, cs[j]? = some c → Rep pub w c (W j) := by
 cases h with
 | pure h => cases h with | cptr b o _ _ W hd hc => exact ⟨b, o, W, rfl, hd, hc⟩
 | ref h => cases h
theorem RV.lptr_inv {n off : Nat} {v : Value} (h : RV pub w V m (.lptr n off) v) : ∃ x cs b, m n = .blk x cs ∧ V n = .pointer (some ⟨b, 0, none⟩) ∧ v = .pointer (some ⟨b, off, none⟩) := by
 cases h with
 | pure h => cases h
 | ref h => cases h with | lptr _ _ x cs b hm hv => exact ⟨x, cs, b, hm, hv, rfl⟩
theorem RV.own_inv {n k : Nat} {v : Value} (h : RV pub w V m (.own n k) v) : ∃ x e sz l, m n = .obj x e sz l ∧ k ≤ l.length ∧ (k = l.length → v = V n) := by
 cases h with
 | pure h => cases h
 | ref h => cases h with | own _ _ _ x e sz l hm hk h => exact ⟨x, e, sz, l, hm, hk, h⟩
theorem RV.eptr_inv {n k i off : Nat} {v : Value} (h : RV pub w V m (.eptr n k i off) v) : ∃ x e sz l, m n = .obj x e sz l ∧ k ≤ l.length ∧ (k = l.length → ∃ g cap, V n = .slice (some ⟨g, 0, none⟩) l.length cap ∧ v = .pointer (some ⟨g, i * sz + off, none⟩)) := by
 cases h with
 | pure h => cases h
 | ref h => cases h with | eptr _ _ _ _ _ x e sz l hm hk h => exact ⟨x, e, sz, l, hm, hk, h⟩
theorem RV.osl_inv {n k i j : Nat} {v : Value} (h : RV pub w V m (.osl n k i j) v) : ∃ x e sz l, m n = .obj x e sz l ∧ k ≤ l.length ∧ (i ≤ j ∧ j ≤ k) ∧ (k = l.length → ∃ g cap, V n = .slice (some ⟨g, 0, none⟩) l.length cap ∧ v = .slice (some ⟨g, (if cap = i then 0 else i * sz), none⟩) (j - i) (cap - i)) := by
 cases h with
 | pure h => cases h
 | ref h => cases h with | osl _ _ _ _ _ x e sz l hm hk hij h => exact ⟨x, e, sz, l, hm, hk, hij, h⟩
theorem RV.agg_inv {cs : List PV} {v : Value} (h : RV pub w V m (.agg cs) v) : ∃ arr : Array Value, v = .agg arr ∧ arr.size = cs.length ∧ ∀ (j : Nat) c, cs[j]? = some c → (arr.getD j Go.undef).oneCell' = true ∧ RV pub w V m c (arr.getD j Go.undef) := by
 cases h with
 | pure h => cases h with | agg _ arr hs hd hc => exact ⟨arr, rfl, hs, fun j c hj => ⟨hd j c hj, .pure (hc j c hj)⟩⟩
 | ref h => cases h
 | agg _ arr hs hd hc => exact ⟨arr, rfl, hs, fun j c hj => ⟨hd j c hj, hc j c hj⟩⟩
theorem RV.tuple_inv {cs : List PV} {v : Value} (h : RV pub w V m (.tuple cs) v) : ∃ arr : Array Value, v = .tuple arr ∧ arr.size = cs.length ∧ ∀ (j : Nat) c, cs[j]? = some c → RV pub w V m c (arr.getD j Go.undef) := by
 cases h with
 | pure h => cases h with | tuple _ arr hs hc => exact ⟨arr, rfl, hs, fun j c hj => .pure (hc j c hj)⟩
 | ref h => cases h
 | tuple _ arr hs hc => exact ⟨arr, rfl, hs, hc⟩
end inv

/-! ### Types -/
def shp (P : Program) (t : TypeId) : Option (Bool × Nat) :=
 match P.underlying t, P.info? t with
 | some d, some i => some ((match d with | .struct _ => true | .array _ _ => true | _ => false), i.size)
 | _, _ => none
theorem shp_agg {P : Program} {t : TypeId} {g : Bool} {n : Nat} (h : shp P t = some (g, n)) (w : World) : (isAgg t).run P w = .ok g w := by
 unfold shp at h
 split at h
 ·rename_i d i hd hi
  cases h
  unfold isAgg
  rw [Sem.run_bind, run_underlying hd w]
  cases d <;> rfl
 ·cases h
theorem shp_size {P : Program} {t : TypeId} {g : Bool} {n : Nat} (h : shp P t = some (g, n)) (w : World) : (sizeOf t).run P w = .ok n w := by
 unfold shp at h
 split at h
 ·rename_i d i hd hi
  cases h
  simp [sizeOf, typeInfo, hi]
 ·cases h
def fldOff (P : Program) (t f : Nat) : Option Nat :=
 match P.underlying t with
 | some (.struct fs) => match fs[f]? with
  | some f => match P.info? f.type with
   | some i => if i.size = 0 then none else some f.offset
   | none => none
  | none => none
 | _ => none
def eltOf (P : Program) (t : TypeId) : Option (TypeId × Nat × Nat) :=
 match P.underlying t with
 | some (.slice e) => match P.info? e with
  | some i => if e < 1099511627776 then some (e, i.size, i.bytes) else none
  | none => none
 | _ => none
theorem eltOf_spec {P : Program} {t e sz by' : Nat} (h : eltOf P t = some (e, sz, by')) : P.underlying t = some (.slice e) ∧ ∃ i, P.info? e = some i ∧ i.size = sz ∧ i.bytes = by' := by
 unfold eltOf at h
 split at h
 ·rename_i e' hu
  split at h
  ·rename_i i hi
   split at h
   ·cases h
    exact ⟨hu, i, hi, rfl, rfl⟩
   ·cases h
  ·cases h
 ·cases h
theorem eltOf_lt {P : Program} {t e sz by' : Nat} (h : eltOf P t = some (e, sz, by')) : e < 1099511627776 := by
 unfold eltOf at h
 split at h
 ·split at h
  ·split at h
   ·rename_i hlt
    cases h
    exact hlt
   ·cases h
  ·cases h
 ·cases h

/-! ### Constants and operands -/
def constCell : Value → PV
 | .slice none 0 0 => .nils
 | v => if v.oneCell' then .lit v else .undef
def constPV : Value → PV
 | .agg arr => .agg (arr.toList.map constCell)
 | v => constCell v
theorem constCell_rep (pub : Nat → Nat → Prop) (w : World) (V : Nat → Value) (m : Nat → PV) (v : Value) : RV pub w V m (constCell v) v := by
 unfold constCell
 split
 ·exact .pure .nils
 ·split
  ·rename_i h; exact .pure (.lit _ h)
  ·exact .undef _
def constOk : Value → Bool
 | .agg arr => arr.toList.all Value.oneCell'
 | _ => true
theorem constPV_rep (pub : Nat → Nat → Prop) (w : World) (V : Nat → Value) (m : Nat → PV) (v : Value) (h : constOk v = true) : RV pub w V m (constPV v) v := by
 unfold constPV
 split
 ·rename_i arr
  refine .agg _ _ (by simp) (fun j c hj => ?_) (fun j c hj => ?_)
  all_goals
   simp only [List.getElem?_map, Option.map_eq_some_iff, Array.getElem?_toList] at hj
   obtain ⟨u, hu, rfl⟩ := hj
  ·have : arr.getD j Go.undef = u := by simp [hu]
   rw [this]
   simp only [constOk, List.all_eq_true] at h
   exact h u (by rw [Array.mem_toList_iff]; exact Array.mem_of_getElem? hu)
  ·have : arr.getD j Go.undef = u := by simp [hu]
   rw [this]; exact constCell_rep pub w V m u
 ·exact constCell_rep pub w V m v
def St.ev (s : St) : Operand → PV
 | .tmp t => s.slot t
 | .const v => if constOk v then constPV v else .undef
 | .func f => .fn f []
 | .global _ => .undef
theorem Rel0.ev {P : Program} {N : Nat} {w0 : Base P} {pub : Nat → Nat → Prop} {V : Nat → Value} {s : St} {a : Act} {w : World} (h : Rel0 N w0 pub V s a w) (x : Operand) : RV pub w V s.mem (s.ev x) (a.eval x) := by
 cases x with
 | tmp t => exact h.slots t
 | const v =>
  simp only [St.ev, Act.eval]
  split
  ·rename_i hc; exact constPV_rep _ _ _ _ v hc
  ·exact .undef _
 | func f => exact .pure (.fn f [] #[] rfl (fun j c hj => by simp at hj))
 | global g => exact .undef _

/-! ### Loads -/
theorem run_load_cells {P : Program} {w : World} {t : TypeId} {g : Bool} {n : Nat} (ht : shp P t = some (g, n)) (b o : Nat) (W : Nat → Value) (hg : g = false → n = 1) (hc : ∀ j, j < n → w.cell? ⟨b, o + j, none⟩ = some (W j)) :
  (loadVar t ⟨b, o, none⟩).run P w = .ok (if g then .agg (List.map W (List.range n)).toArray else W 0) w := by
 have add : ∀ j, (⟨b, o, none⟩ : Addr).add j = ⟨b, o + j, none⟩ := fun j => by unfold Addr.add; split <;> simp_all
 unfold loadVar
 rw [Sem.run_bind, shp_agg ht w]
 cases g with
 | false =>
  have := hg rfl; subst this
  have h0 := hc 0 (by omega)
  simp only [Nat.add_zero] at h0
  simp [h0]
 | true =>
  have hl := run_loadCells (P := P) (w := w) ⟨b, o, none⟩ n W (fun j hj => by rw [add]; exact hc j hj)
  simp [shp_size ht w, hl]

def loadPV (g : Bool) (n off : Nat) (cs : List PV) : Option PV :=
 if g then (if off + n ≤ cs.length then some (.agg ((cs.drop off).take n)) else none) else cs[off]?

end Go.Px
namespace Go.Px
set_option linter.unusedSimpArgs false
set_option linter.unusedVariables false
open Go.RowKit

def binPV : BinOp → PV → PV → Option PV
 | .add, .lit (.int k a), .lit (.int _ b) => some (.lit (.int k (k.wrap (a + b))))
 | .sub, .lit (.int k a), .lit (.int _ b) => some (.lit (.int k (k.wrap (a - b))))
 | .mul, .lit (.int k a), .lit (.int _ b) => some (.lit (.int k (k.wrap (a * b))))
 | .eql, .lit (.int _ a), .lit (.int _ b) => some (.lit (.bool (a == b)))
 | .neq, .lit (.int _ a), .lit (.int _ b) => some (.lit (.bool (a != b)))
 | .lss, .lit (.int _ a), .lit (.int _ b) => some (.lit (.bool (decide (a < b))))
 | .leq, .lit (.int _ a), .lit (.int _ b) => some (.lit (.bool (decide (a ≤ b))))
 | .gtr, .lit (.int _ a), .lit (.int _ b) => some (.lit (.bool (decide (b < a))))
 | .geq, .lit (.int _ a), .lit (.int _ b) => some (.lit (.bool (decide (b ≤ a))))
 | .add, .lit (.string a), .lit (.string b) => some (.lit (.string (a ++ b)))
 | .eql, .lit (.string a), .lit (.string b) => some (.lit (.bool (a == b)))
 | .neq, .lit (.string a), .lit (.string b) => some (.lit (.bool (a != b)))
 | .quo, .lit (.int k a), .lit (.int _ b) => if b = 0 then none else some (.lit (.int k (k.wrap (a.tdiv b))))
 | .rem, .lit (.int k a), .lit (.int _ b) => if b = 0 then none else some (.lit (.int k (a.tmod b)))
 | _, _, _ => none

def sameKind : PV → PV → Bool
 | .lit (.int k _), .lit (.int k' _) => k == k'
 | .lit (.string _), .lit (.string _) => true
 | _, _ => false

def unPV : UnOp → PV → Option PV
 | .not, .lit (.bool b) => some (.lit (.bool !b))
 | .neg, .lit (.int k n) => some (.lit (.int k (k.wrap (0 - n))))
 | _, _ => none

def fillPV (place : Nat → Option (Nat × Nat)) (cells : List PV) : List (Nat × PV) → Option (List PV)
 | [] => some cells
 | (i, p) :: rest =>
  match place i with
  | none => none
  | some (off, size) => if p.cells.length = size ∧ off + size ≤ cells.length then fillPV place (cells.take off ++ p.cells ++ cells.drop (off + size)) rest else none

end Go.Px
namespace Go.Px
set_option linter.unusedSimpArgs false
set_option linter.unusedVariables false
open Go.RowKit

section
variable {P : Program} {N : Nat} {w0 : Base P} {w w' : World} {pub pub' : Nat → Nat → Prop} {V : Nat → Value} {s : St} {a : Act}

theorem MemOk.block_ge {B : Nat → Prop} {m : Nat → PV} {v : Value} {p : PV} (h : MemOk pub w V m B v p) (hp : p ≠ .undef) {g : Nat} (hg : blockOf v = some g) : B g ∧ g < w.heap.size := by
 cases h with
 | undef => exact absurd rfl hp
 | yreg s own lo hi hv _ _ _ => subst hv; cases hg
 | blk x cs g' arr T hv hB hh _ _ _ _ _ =>
  subst hv; simp [blockOf] at hg; subst hg
  exact ⟨hB, by
   rcases Nat.lt_or_ge g' w.heap.size with h | h
   ·exact h
   ·rw [Array.getElem?_eq_none h] at hh; cases hh⟩
 | obj x e sz l xs hsz _ hl how _ _ _ =>
  have hbb := how.2
  rcases how.1.2 with ⟨rfl, _⟩ | ⟨g', cap, cur, rfl, _, ⟨fr, hh, _⟩, _⟩
  ·simp [blockOf] at hg
  ·simp [blockOf] at hg; subst hg
   exact ⟨hbb _ rfl, by
    rcases Nat.lt_or_ge g' w.heap.size with h | h
    ·exact h
    ·rw [Array.getElem?_eq_none h] at hh; cases hh⟩

theorem MemOk.one {B : Nat → Prop} {m : Nat → PV} {v : Value} {p : PV} (h : MemOk pub w V m B v p) (hp : p ≠ .undef) (hy : ∀ s own, p ≠ .yreg s own) {g : Nat} (hg : Go.Px.inB v g) : blockOf v = some g := by
 cases h with
 | undef => exact absurd rfl hp
 | yreg s own lo hi hv _ _ _ => exact absurd rfl (hy s own)
 | blk x cs g' arr T hv hB hh _ _ _ _ _ => subst hv; exact inB_pointer hg
 | obj x e sz l xs hsz _ hl how _ _ _ =>
  rcases how.1.2 with ⟨rfl, _⟩ | ⟨g', cap, cur, rfl, _, hh, _⟩ <;> exact inB_slice hg
theorem MemOk.block_lt {B : Nat → Prop} {m : Nat → PV} {v : Value} {p : PV} (h : MemOk pub w V m B v p) (hp : p ≠ .undef) {g : Nat} (hg : Go.Px.inB v g) : g < w.heap.size := by
 by_cases hy : ∀ s own, p ≠ .yreg s own
 ·exact (h.block_ge hp (h.one hp hy hg)).2
 ·simp only [Classical.not_forall, Classical.not_not] at hy
  obtain ⟨s, own, rfl⟩ := hy
  cases h with
  | yreg _ _ lo hi hv hh _ _ =>
   rcases hg with hg | ⟨lo', hi', h1, h2, h3⟩
   ·subst hv; cases hg
   ·rw [hv] at h1
    simp at h1
    omega

theorem MemOk.excl' {B : Nat → Prop} {m : Nat → PV} {v : Value} {p : PV} (h : MemOk pub w V m B v p) {s' own : Bool} (hp : p = .yreg s' own) {g o : Nat} (hg : Go.Px.inB v g) : ¬ pub g o := by
 subst hp
 cases h with
 | yreg _ _ lo hi hv hh hp' hB0 =>
  rcases hg with hg | ⟨lo', hi', h1, h2, h3⟩
  ·subst hv; cases hg
  ·rw [hv] at h1
   simp at h1
   exact hp' g o (by omega) (by omega)

theorem Rel0.world (h : Rel0 N w0 pub V s a w) (hb : Below w.heap.size w w') : Rel0 N w0 pub V s a w' := by
 have hsz : w0.w.heap.size ≤ w.heap.size := h.below.size
 have t : Tr pub w V s.mem pub w' V s.mem (fun _ => False) :=
  ⟨fun _ _ h => h, fun b o ho => hb.cell (p := ⟨b, o, none⟩) (h.pubLt b o ho), fun _ _ h => h, fun _ _ _ => rfl, fun _ _ => rfl,
  fun n g _ hu hg => ⟨hb.block g ((h.mem n).block_lt hu hg), fun _ ho => ho⟩, fun _ _ _ hT => hT.elim⟩
 exact h.turn t (BelowB.of hsz hb) (fun _ _ => rfl) (fun b o ho => Nat.lt_of_lt_of_le (h.pubLt b o ho) hb.size) (fun _ hn => hn.elim) (fun n k g hne h1 h2 h3 h4 => hne (h.apart n k g h1 h2 h3 h4)) (fun _ _ _ h => h) (fun b o ho hb0 => by rw [frozenOB' (hb.block b (h.pubLt b o ho))]; exact h.soft b o ho hb0)

theorem Rel0.new (h : Rel0 N w0 pub V s a w) (n : Nat) (hn63 : n % 64 ≠ 63) (hn : s.mem n = .undef) (v : Value) (p : PV) (hb : Below w.heap.size w w') (hp : p ≠ .undef) (hpy : ∀ s own, p ≠ .yreg s own)
  (hblk : ∀ g, blockOf v = some g → w.heap.size ≤ g)
  (hok : (Tr pub w V s.mem pub w' (updV V n v) (upd s.mem n p) (fun k => k = n)) → MemOk pub w' (updV V n v) (upd s.mem n p) w0.O v p) :
  Rel0 N w0 pub (updV V n v) { s with mem := upd s.mem n p } a w' := by
 have hsz : w0.w.heap.size ≤ w.heap.size := h.below.size
 have refs : ∀ q u, RefOk V s.mem q u → RefOk (updV V n v) (upd s.mem n p) q u := by
  intro q u hq
  cases hq with
  | own k j _ x e sz l hm hk hh =>
   have hne : k ≠ n := fun e => by rw [e, hn] at hm; cases hm
   exact .own k j u x e sz l ((upd_ne _ _ hne).trans hm) hk (fun e => (hh e).trans (updV_ne _ _ hne).symm)
  | lptr k off x cs b hm hv =>
   have hne : k ≠ n := fun e => by rw [e, hn] at hm; cases hm
   exact .lptr k off x cs b ((upd_ne _ _ hne).trans hm) ((updV_ne _ _ hne).trans hv)
  | eptr k j i off _ x e sz l hm hk hh =>
   have hne : k ≠ n := fun e => by rw [e, hn] at hm; cases hm
   exact .eptr k j i off u x e sz l ((upd_ne _ _ hne).trans hm) hk (fun e => by rw [updV_ne _ _ hne]; exact hh e)
  | osl k j i i2 _ x e sz l hm hk hij hh =>
   have hne : k ≠ n := fun e => by rw [e, hn] at hm; cases hm
   exact .osl k j i i2 u x e sz l ((upd_ne _ _ hne).trans hm) hk hij (fun e => by rw [updV_ne _ _ hne]; exact hh e)
 have t : Tr pub w V s.mem pub w' (updV V n v) (upd s.mem n p) (fun k => k = n) :=
  ⟨fun _ _ h => h, fun b o ho => hb.cell (p := ⟨b, o, none⟩) (h.pubLt b o ho), refs, fun k hk _ => updV_ne _ _ hk, fun k hk => upd_ne _ _ hk,
  fun k g _ hu hg => ⟨hb.block g ((h.mem k).block_lt hu hg), fun _ ho => ho⟩, fun c s' own hT hm => by subst hT; rw [hn] at hm; cases hm⟩
 have hblk' : ∀ g, Go.Px.inB v g → w.heap.size ≤ g := fun g hg => hblk g ((hok t).one hp hpy hg)
 refine h.turn t (BelowB.of hsz hb) (fun k hk => updV_ne _ _ (fun e => hn63 (e ▸ hk))) (fun b o ho => Nat.lt_of_lt_of_le (h.pubLt b o ho) hb.size) (fun k hk => ?_) (fun i k g hne h1 h2 h3 h4 => ?_) (fun i own _ hm => by
  by_cases hi : i = n
  ·subst hi; rw [upd_same] at hm; exact absurd hm (hpy _ _)
  ·rwa [upd_ne _ _ hi] at hm) (fun b o ho hb0 => by rw [frozenOB' (hb.block b (h.pubLt b o ho))]; exact h.soft b o ho hb0)
 ·subst hk; rw [updV_same, upd_same]; exact hok t
 ·by_cases hi : i = n
  ·subst hi
   rw [updV_same] at h3
   rw [updV_ne _ _ (Ne.symm hne)] at h4
   rw [upd_ne _ _ (Ne.symm hne)] at h2
   have h5 := (h.mem k).block_lt h2 h4
   have h6 := hblk' g h3
   omega
  ·by_cases hk : k = n
   ·subst hk
    rw [updV_same] at h4
    rw [updV_ne _ _ hne] at h3
    rw [upd_ne _ _ hne] at h1
    have h5 := (h.mem i).block_lt h1 h3
    have h6 := hblk' g h4
    omega
   ·rw [updV_ne _ _ hi] at h3
    rw [updV_ne _ _ hk] at h4
    rw [upd_ne _ _ hi] at h1
    rw [upd_ne _ _ hk] at h2
    exact hne (h.apart i k g h1 h2 h3 h4)

theorem Rel0.touch (h : Rel0 N w0 pub V s a w) (n : Nat) (hn : s.mem n ≠ .undef) (v : Value) (hv63 : n % 64 = 63 → v = V n) (p : PV) (hp : p ≠ .undef) (hny : ∀ s' own, s.mem n ≠ .yreg s' own) (hpy : ∀ s' own, p ≠ .yreg s' own)
  (hsize : w.heap.size ≤ w'.heap.size) (hos : w'.os = w.os) (htape : w'.tape = w.tape) (hout : w'.output = w.output)
  (hblocks : ∀ k, k < w.heap.size → blockOf (V n) ≠ some k → w'.heap[k]? = w.heap[k]?)
  (hpub : ∀ b o, pub b o → pub' b o) (hpub' : ∀ b o, pub' b o → pub b o ∨ blockOf v = some b) (hlt : ∀ b, blockOf v = some b → b < w'.heap.size)
  (hcells : ∀ b o, pub b o → w'.cell? ⟨b, o, none⟩ = w.cell? ⟨b, o, none⟩) (hfr : ∀ b o, pub b o → w'.frozen? ⟨b, o, none⟩ = w.frozen? ⟨b, o, none⟩)
  (hv : blockOf v = blockOf (V n) ∨ (∀ b, blockOf v = some b → w.heap.size ≤ b))
  (refs : ∀ q u, RefOk V s.mem q u → RefOk (updV V n v) (upd s.mem n p) q u)
  (hok : (Tr pub w V s.mem pub' w' (updV V n v) (upd s.mem n p) (fun k => k = n)) → MemOk pub' w' (updV V n v) (upd s.mem n p) w0.O v p) :
  Rel0 N w0 pub' (updV V n v) { s with mem := upd s.mem n p } a w' := by
 have other : ∀ k g, k ≠ n → s.mem k ≠ .undef → Go.Px.inB (V k) g → blockOf v ≠ some g := by
  intro k g hk hu hg hvg
  rcases hv with hv | hv
  ·rw [hv] at hvg; exact hk (h.apart k n g hu hn hg (.inl hvg))
  ·have h1 := hv g hvg
   have h2 := (h.mem k).block_lt hu hg
   omega
 have t : Tr pub w V s.mem pub' w' (updV V n v) (upd s.mem n p) (fun k => k = n) :=
  ⟨hpub, hcells, refs, fun k hk _ => updV_ne _ _ hk, fun k hk => upd_ne _ _ hk,
  fun k g hk hu hg => ⟨hblocks g ((h.mem k).block_lt hu hg) (fun e => hk (h.apart k n g hu hn hg (.inl e))),
   fun o ho => (hpub' g o ho).resolve_right (other k g hk hu hg)⟩, fun c s' own hT hm => by subst hT; exact absurd hm (hny _ _)⟩
 have inv : ∀ g, Go.Px.inB v g → blockOf v = some g := fun g hg => (hok t).one hp hpy hg
 have hbel : BelowB w0 w w' := ⟨hos, htape, hout, hsize, fun k hk => hblocks k (by
  have h1 : ¬ w0.w.heap.size ≤ k := fun e => hk (.inl e)
  have h2 : w0.w.heap.size ≤ w.heap.size := h.below.size
  omega) (fun e => hk ((h.mem n).block_ge hn e).1)⟩
 refine h.turn t hbel (fun k hk => ?_) (fun b o ho => ?_) (fun k hk => ?_) (fun i k g hne h1 h2 h3 h4 => ?_) (fun i own _ hm => by
  by_cases hi : i = n
  ·subst hi; rw [upd_same] at hm; exact absurd hm (hpy _ _)
  ·rwa [upd_ne _ _ hi] at hm) (fun b o ho hb0 => by
  rcases hpub' b o ho with ho1 | ho1
  ·rw [hfr b o ho1]; exact h.soft b o ho1 hb0
  ·have hmo := hok t
   generalize updV V n v = V2 at hmo
   cases hmo with
   | undef => exact absurd rfl hp
   | yreg s' own _ _ _ _ _ _ => exact absurd rfl (hpy s' own)
   | blk x cs g arr T hv hB hg _ _ _ _ _ =>
    subst hv; simp [blockOf] at ho1; subst ho1
    simp only [World.frozen?, hg]
    simp
   | obj x e sz l xs _ _ _ how hpp _ _ =>
    rcases how.1.2 with ⟨rfl, _⟩ | ⟨g, cap, cur, rfl, _, ⟨fr, hg, hf⟩, hnc, _, hcs, _⟩
    ·cases ho1
    ·simp [blockOf] at ho1; subst ho1
     refine not_frozen hg hf ?_
     have h1 := (hpp _ o rfl ho).2
     have h2 : l.length * sz ≤ cap * sz := Nat.mul_le_mul_right _ hnc
     omega)
 ·by_cases e : k = n
  ·subst e; rw [updV_same]; exact hv63 hk
  ·exact updV_ne _ _ e
 ·rcases hpub' b o ho with ho | ho
  ·exact Nat.lt_of_lt_of_le (h.pubLt b o ho) hsize
  ·exact hlt b ho
 ·subst hk; rw [updV_same, upd_same]; exact hok t
 ·by_cases hi : i = n
  ·subst hi
   rw [updV_same] at h3
   rw [updV_ne _ _ (Ne.symm hne)] at h4
   rw [upd_ne _ _ (Ne.symm hne)] at h2
   exact other k g (Ne.symm hne) h2 h4 (inv g h3)
  ·by_cases hk : k = n
   ·subst hk
    rw [updV_same] at h4
    rw [updV_ne _ _ hne] at h3
    rw [upd_ne _ _ hne] at h1
    exact other i g hne h1 h3 (inv g h4)
   ·rw [updV_ne _ _ hi] at h3
    rw [updV_ne _ _ hk] at h4
    rw [upd_ne _ _ hi] at h1
    rw [upd_ne _ _ hk] at h2
    exact hne (h.apart i k g h1 h2 h3 h4)
end
end Go.Px
namespace Go.Px
set_option linter.unusedSimpArgs false
set_option linter.unusedVariables false
open Go.RowKit

def PV.plain : PV → Bool
 | .lit _ => true | .err _ => true | .nils => true | .slice _ => true | .fn _ _ => true | .cptr _ _ => true | _ => false

inductive PurL (m : Nat → PV) : List PV → List PV → List Nat → Prop where
 | nil : PurL m [] [] []
 | plain (p : PV) (ps ps' : List PV) (R : List Nat) (hp : p.plain = true) (h : PurL m ps ps' R) : PurL m (p :: ps) (p :: ps') R
 | own (n k e sz : Nat) (l ps ps' : List PV) (R : List Nat) (hm : m n = .obj false e sz l) (hk : k = l.length) (h : PurL m ps ps' R) : PurL m (.own n k :: ps) (.slice l :: ps') (n :: R)
 | lptr (n off : Nat) (cs ps ps' : List PV) (R : List Nat) (hm : m n = .blk false cs) (h : PurL m ps ps' R) : PurL m (.lptr n off :: ps) (.cptr cs off :: ps') (n :: R)
 | agg (cs cs' ps ps' : List PV) (R R' : List Nat) (hc : PurL m cs cs' R) (h : PurL m ps ps' R') : PurL m (.agg cs :: ps) (.agg cs' :: ps') (R ++ R')

theorem PurL.length {m : Nat → PV} {ps ps' : List PV} {R : List Nat} (h : PurL m ps ps' R) : ps'.length = ps.length := by
 induction h <;> simp_all

section
variable {P : Program} {N : Nat} {w0 : Base P} {w w' : World} {pub pub' : Nat → Nat → Prop} {V : Nat → Value} {s : St} {a : Act}

theorem RV.plain {m : Nat → PV} {p : PV} {v : Value} (h : RV pub w V m p v) (hp : p.plain = true) : Rep pub w p v := by
 cases h with
 | undef => cases hp
 | pure h => exact h
 | ref h => cases h <;> cases hp
 | agg => cases hp
 | tuple => cases hp
 | yng => cases hp
 | ysk => cases hp

theorem Rep.slice_own {m : Nat → PV} {B : Nat → Prop} {v : Value} {e sz : Nat} {l : List PV} (h : MemOk pub w V m B v (.obj false e sz l)) : Rep pub w (.slice l) v := by
 cases h with
 | obj _ _ _ _ xs hsz hmx hl how hp hq hc =>
  rcases how.1.2 with ⟨rfl, h0⟩ | ⟨g, cap, cur, rfl, hB, hh, hnc, hcm, hcs, htake⟩
  ·have : l = [] := List.eq_nil_of_length_eq_zero h0
   subst this; exact .slice0 none 0
  ·have hfl := flat_length hl
   refine .slice g 0 cap sz l (fun i => xs.getD i Go.undef) hl hnc hmx (fun i c hi => ?_) (fun i c hi => (hc i c hi).2)
   have hlt : i < l.length * sz := by rw [← hfl]; exact (List.getElem?_eq_some_iff.1 hi).1
   have hxl : i < xs.length := by rw [how.1.1]; exact hlt
   refine ⟨by rw [Nat.zero_add]; exact hq rfl g i rfl hlt, ?_, (hc i c hi).1⟩
   have hx := how.1.cells (g := g) rfl i (xs[i]) (List.getElem?_eq_getElem hxl)
   rw [Addr.add_lit] at hx
   rw [hx]
   simp [hxl]

theorem Rep.cptr_blk {m : Nat → PV} {B : Nat → Prop} {n : Nat} {b off : Nat} {cs : List PV} (h : MemOk pub w V m B (V n) (.blk false cs)) (hv : V n = .pointer (some ⟨b, 0, none⟩)) : Rep pub w (.cptr cs off) (.pointer (some ⟨b, off, none⟩)) := by
 generalize V n = v at *
 subst hv
 cases h with
 | blk _ _ g arr T hv hB hg hs hp hq hc hr =>
  simp only [Value.pointer.injEq, Option.some.injEq, Addr.mk.injEq, true_and, and_true] at hv
  subst hv
  have := Rep.cptr (pub := pub) (w := w) b 0 off cs (fun j => arr.getD j Go.undef) (fun j c hj => ?_) (fun j c hj => hr rfl j c hj)
  ·simpa using this
  ·have hlt : j < arr.size := by rw [hs]; exact (List.getElem?_eq_some_iff.1 hj).1
   refine ⟨by rw [Nat.zero_add]; exact hq rfl j hlt, ?_, (hc j c hj).1⟩
   rw [Nat.zero_add, cell_of_row w b j arr T (0, 0) hg]
   simp [hlt]

theorem PurL.rep (h : Rel0 N w0 pub V s a w) {ps ps' : List PV} {R : List Nat} (hp : PurL s.mem ps ps' R) : ∀ (i : Nat) p p' v, ps[i]? = some p → ps'[i]? = some p' → RV pub w V s.mem p v → Rep pub w p' v := by
 induction hp with
 | nil => intro i p p' v h1; simp at h1
 | plain q ps ps' R hq _ ih =>
  intro i p p' v h1 h2 hv
  cases i with
  | zero => simp at h1 h2; subst h1; subst h2; exact hv.plain hq
  | succ i => exact ih i p p' v (by simpa using h1) (by simpa using h2) hv
 | own n k e sz l ps ps' R hm hk _ ih =>
  intro i p p' v h1 h2 hv
  cases i with
  | zero =>
   simp at h1 h2; subst h1; subst h2
   obtain ⟨x', e', sz', l', hm', _, hv'⟩ := hv.own_inv
   rw [hm] at hm'; cases hm'
   rw [hv' hk]
   exact Rep.slice_own (by have := h.mem n; rwa [hm] at this)
  | succ i => exact ih i p p' v (by simpa using h1) (by simpa using h2) hv
 | lptr n off cs ps ps' R hm _ ih =>
  intro i p p' v h1 h2 hv
  cases i with
  | zero =>
   simp at h1 h2; subst h1; subst h2
   obtain ⟨x', cs', b, hm', hb, rfl⟩ := hv.lptr_inv
   exact Rep.cptr_blk (by have := h.mem n; rwa [hm] at this) hb
  | succ i => exact ih i p p' v (by simpa using h1) (by simpa using h2) hv
 | agg cs cs' ps ps' R R' hcs _ ihc ih =>
  intro i p p' v h1 h2 hv
  cases i with
  | zero =>
   simp at h1 h2; subst h1; subst h2
   obtain ⟨arr, rfl, hs, hc⟩ := hv.agg_inv
   have hl := hcs.length
   refine .agg cs' arr (hs.trans hl.symm) (fun j c hj => ?_) (fun j c hj => ?_)
   all_goals
    have hlt : j < cs.length := by rw [← hl]; exact (List.getElem?_eq_some_iff.1 hj).1
   ·exact (hc j _ (List.getElem?_eq_getElem hlt)).1
   ·exact ihc j _ c _ (List.getElem?_eq_getElem hlt) hj (hc j _ (List.getElem?_eq_getElem hlt)).2
  | succ i => exact ih i p p' v (by simpa using h1) (by simpa using h2) hv

def Snd (P : Program) (N : Nat) (w0 : Base P) (pub0 : Nat → Nat → Prop) (s : St) (a : Act) (w : World) (op : Op) (p : PV) (m' : Nat → PV) : Prop :=
 ∃ v w', (∀ dst ty pos after guard, (execOp a.eval ⟨dst, op, ty, pos, after, guard⟩).run P w = .ok (.value v) w' ∨ ((execOp a.eval ⟨dst, op, ty, pos, after, guard⟩).run P w = .ok .skip w' ∧ v = Go.undef)) ∧
  ∃ pub V, (∀ b o, pub0 b o → pub b o) ∧ (∀ b o, pub b o → pub0 b o ∨ w0.O b) ∧ Rel0 N w0 pub V { s with mem := m' } a w' ∧ RV pub w' V m' p v

theorem Snd.of_same {pub0 : Nat → Nat → Prop} {op : Op} {p : PV} (c1 : ∀ b o, pub0 b o → pub b o) (c2 : ∀ b o, pub b o → pub0 b o ∨ w0.O b) (h : Rel0 N w0 pub V s a w) (v : Value) (hv : RV pub w V s.mem p v)
  (hr : ∀ dst ty pos after guard, (execOp a.eval ⟨dst, op, ty, pos, after, guard⟩).run P w = .ok (.value v) w) : Snd P N w0 pub0 s a w op p s.mem :=
 ⟨v, w, fun d t p f g => .inl (hr d t p f g), pub, V, c1, c2, h, hv⟩

def PV.isCell : PV → Bool
 | .lit _ => true | .err _ => true | .nils => true | .slice _ => true | .fn _ _ => true | .cptr _ _ => true | .own _ _ => true | .lptr _ _ => true | .eptr _ _ _ _ => true | .osl _ _ _ _ => true | _ => false

theorem Rep.cell {p : PV} {v : Value} (h : Rep pub w p v) (hp : p.isCell = true) : v.oneCell' = true := by
 cases h <;> first | assumption | rfl | cases hp

theorem run_str_add (P : Program) (w : World) (t : TypeId) (x y : Operand) (b c : ByteArray) (h : b.size + c.size ≤ 9223372036854775807) : (do eqGuard .add t x y (.string b) (.string c); binOp .add t (.string b) (.string c) : Sem Value).run P w = .ok (.string (b ++ c)) w := by
 have h2 : ¬ (((b.size + c.size : Nat) : Int) > IntKind.i64.max) := by rw [IntKind.max_i64]; omega
 have e : binOp .add t (.string b) (.string c) = Op.stringOp .add b c := rfl
 rw [eqGuard_add, e, Op.stringOp]
 simp only [h2, if_false]
 rfl
theorem run_str_eql (P : Program) (w : World) (t : TypeId) (x y : Operand) (b c : ByteArray) : (do eqGuard .eql t x y (.string b) (.string c); binOp .eql t (.string b) (.string c) : Sem Value).run P w = .ok (.bool (b == c)) w := by
 have e : binOp .eql t (.string b) (.string c) = Op.stringOp .eql b c := rfl
 rw [eqGuard_at_string, e, beq_toListBytes]; rfl
theorem run_str_neq (P : Program) (w : World) (t : TypeId) (x y : Operand) (b c : ByteArray) : (do eqGuard .neq t x y (.string b) (.string c); binOp .neq t (.string b) (.string c) : Sem Value).run P w = .ok (.bool (b != c)) w := by
 have e : binOp .neq t (.string b) (.string c) = Op.stringOp .neq b c := rfl
 rw [eqGuard_at_string, e, bne, beq_toListBytes]; rfl

theorem run_bin (op : BinOp) (t : TypeId) (x y : Operand) {p q r : PV} {u v : Value} {m : Nat → PV} (hx : RV pub w V m p u) (hy : RV pub w V m q v)
  (hk : sameKind p q = true) (hr : binPV op p q = some r) (hs : ∀ b c, p = .lit (.string b) → q = .lit (.string c) → op = .add → b.size + c.size ≤ 9223372036854775807) :
  ∃ z, (do eqGuard op t x y u v; binOp op t u v : Sem Value).run P w = .ok z w ∧ Rep pub w r z := by
 unfold binPV at hr
 split at hr <;> try cases hr
 case h_1 k a k' b => obtain ⟨rfl, _⟩ := hx.lit_inv; obtain ⟨rfl, _⟩ := hy.lit_inv; simp [sameKind] at hk; subst hk; exact ⟨_, by simp [go_sem, Op.intArith], .lit _ rfl⟩
 case h_2 k a k' b => obtain ⟨rfl, _⟩ := hx.lit_inv; obtain ⟨rfl, _⟩ := hy.lit_inv; simp [sameKind] at hk; subst hk; exact ⟨_, by simp [go_sem, Op.intArith], .lit _ rfl⟩
 case h_3 k a k' b => obtain ⟨rfl, _⟩ := hx.lit_inv; obtain ⟨rfl, _⟩ := hy.lit_inv; simp [sameKind] at hk; subst hk; exact ⟨_, by simp [go_sem, Op.intArith], .lit _ rfl⟩
 case h_4 k a k' b => obtain ⟨rfl, _⟩ := hx.lit_inv; obtain ⟨rfl, _⟩ := hy.lit_inv; simp [sameKind] at hk; subst hk; exact ⟨_, by simp [go_sem, Op.intCmp], .lit _ rfl⟩
 case h_5 k a k' b => obtain ⟨rfl, _⟩ := hx.lit_inv; obtain ⟨rfl, _⟩ := hy.lit_inv; simp [sameKind] at hk; subst hk; exact ⟨_, by simp [go_sem, Op.intCmp], .lit _ rfl⟩
 case h_6 k a k' b => obtain ⟨rfl, _⟩ := hx.lit_inv; obtain ⟨rfl, _⟩ := hy.lit_inv; simp [sameKind] at hk; subst hk; exact ⟨_, by simp [go_sem, Op.intCmp], .lit _ rfl⟩
 case h_7 k a k' b => obtain ⟨rfl, _⟩ := hx.lit_inv; obtain ⟨rfl, _⟩ := hy.lit_inv; simp [sameKind] at hk; subst hk; exact ⟨_, by simp [go_sem, Op.intCmp], .lit _ rfl⟩
 case h_8 k a k' b => obtain ⟨rfl, _⟩ := hx.lit_inv; obtain ⟨rfl, _⟩ := hy.lit_inv; simp [sameKind] at hk; subst hk; exact ⟨_, by simp [go_sem, Op.intCmp], .lit _ rfl⟩
 case h_9 k a k' b => obtain ⟨rfl, _⟩ := hx.lit_inv; obtain ⟨rfl, _⟩ := hy.lit_inv; simp [sameKind] at hk; subst hk; exact ⟨_, by simp [go_sem, Op.intCmp], .lit _ rfl⟩
 case h_10 b c => obtain ⟨rfl, _⟩ := hx.lit_inv; obtain ⟨rfl, _⟩ := hy.lit_inv; exact ⟨_, run_str_add P w t x y b c (hs b c rfl rfl rfl), .lit _ rfl⟩
 case h_11 b c => obtain ⟨rfl, _⟩ := hx.lit_inv; obtain ⟨rfl, _⟩ := hy.lit_inv; exact ⟨_, run_str_eql P w t x y b c, .lit _ rfl⟩
 case h_12 b c => obtain ⟨rfl, _⟩ := hx.lit_inv; obtain ⟨rfl, _⟩ := hy.lit_inv; exact ⟨_, run_str_neq P w t x y b c, .lit _ rfl⟩
 case h_13 k a k' b =>
  obtain ⟨rfl, _⟩ := hx.lit_inv; obtain ⟨rfl, _⟩ := hy.lit_inv; simp [sameKind] at hk; subst hk
  split at hr <;> cases hr
  rename_i h0
  exact ⟨_, by simp [go_sem, Op.intDiv, h0], .lit _ rfl⟩
 case h_14 k a k' b =>
  obtain ⟨rfl, _⟩ := hx.lit_inv; obtain ⟨rfl, _⟩ := hy.lit_inv; simp [sameKind] at hk; subst hk
  split at hr <;> cases hr
  rename_i h0
  exact ⟨_, by simp [go_sem, Op.intDiv, h0], .lit _ rfl⟩
end
end Go.Px
namespace Go.Px
set_option linter.unusedSimpArgs false
set_option linter.unusedVariables false
open Go.RowKit

section
variable {P : Program} {N : Nat} {w0 : Base P} {w w' : World} {pub : Nat → Nat → Prop} {V : Nat → Value} {s : St} {a : Act}

theorem run_value {x : Sem Value} {z : Value} (h : x.run P w = .ok z w') : (do pure (.value (← x)) : Sem Next).run P w = .ok (.value z) w' := by
 rw [Sem.run_bind, h]; rfl
theorem run_skip {x : Sem Unit} (h : x.run P w = .ok () w') : (do x; pure .skip : Sem Next).run P w = .ok .skip w' := by
 rw [Sem.run_bind, h]; rfl

theorem run_un (op : UnOp) {p r : PV} {u : Value} {m : Nat → PV} (hx : RV pub w V m p u) (hr : unPV op p = some r) : ∃ z, (Op.unary op u).run P w = .ok z w ∧ Rep pub w r z := by
 unfold unPV at hr
 split at hr <;> try cases hr
 ·obtain ⟨rfl, _⟩ := hx.lit_inv; exact ⟨_, rfl, .lit _ rfl⟩
 ·obtain ⟨rfl, _⟩ := hx.lit_inv; exact ⟨_, rfl, .lit _ rfl⟩

theorem take_drop_get {α : Type} (l : List α) (o n j : Nat) (c : α) (h : ((l.drop o).take n)[j]? = some c) : l[o + j]? = some c ∧ j < n := by
 have hj := (List.getElem?_eq_some_iff.1 h).1
 have hn : j < n := by simp only [List.length_take] at hj; omega
 rw [List.getElem?_take_of_lt hn, List.getElem?_drop] at h
 exact ⟨h, hn⟩

theorem run_loadPV {m : Nat → PV} {t : TypeId} {g : Bool} {sz : Nat} (ht : shp P t = some (g, sz)) (hg : g = true ∨ sz = 1) (b o off : Nat) (cs : List PV) (W : Nat → Value)
  (hc : ∀ (j : Nat) c, cs[j]? = some c → w.cell? ⟨b, o + j, none⟩ = some (W j) ∧ (W j).oneCell' = true ∧ RV pub w V m c (W j)) {r : PV} (hr : loadPV g sz off cs = some r) :
  ∃ v, (loadVar t ⟨b, o + off, none⟩).run P w = .ok v w ∧ RV pub w V m r v := by
 unfold loadPV at hr
 cases g with
 | false =>
  have h1 : sz = 1 := hg.resolve_left (by simp)
  subst h1
  simp only [Bool.false_eq_true, if_false] at hr
  have := hc off r hr
  refine ⟨W off, ?_, this.2.2⟩
  have h0 : ∀ j, j < 1 → w.cell? ⟨b, o + off + j, none⟩ = some (W (off + j)) := fun j hj => by
   have hj0 : j = 0 := by omega
   subst hj0; exact this.1
  exact run_load_cells ht b (o + off) (fun j => W (off + j)) (fun _ => rfl) h0
 | true =>
  simp only [if_true] at hr
  split at hr <;> cases hr
  rename_i hle
  have hget : ∀ j, j < sz → ∃ c, cs[off + j]? = some c := fun j hj => ⟨cs[off + j], List.getElem?_eq_getElem (by omega)⟩
  refine ⟨_, run_load_cells ht b (o + off) (fun j => W (off + j)) (fun h => by cases h) (fun j hj => ?_), ?_⟩
  ·obtain ⟨c, hcj⟩ := hget j hj
   have := (hc _ c hcj).1
   rw [← Nat.add_assoc] at this; exact this
  ·simp only [if_true]
   refine .agg _ _ (by simp; omega) (fun j c hj => ?_) (fun j c hj => ?_)
   all_goals
    obtain ⟨h1, h2⟩ := take_drop_get _ _ _ _ _ hj
    have hW : (List.map (fun j => W (off + j)) (List.range sz)).toArray.getD j Go.undef = W (off + j) := by
     simp [h2]
    rw [hW]
   ·exact (hc _ c h1).2.1
   ·exact (hc _ c h1).2.2

theorem run_fieldAt {t f off : Nat} (hf : fldOff P t f = some off) (b o : Nat) : (Instr.fieldAt t (.pointer (some ⟨b, o, none⟩)) f).run P w = .ok (.pointer (some ⟨b, o + off, none⟩)) w := by
 unfold fldOff at hf
 split at hf <;> try cases hf
 rename_i fs hu
 split at hf <;> try cases hf
 rename_i f' hf'
 split at hf <;> try cases hf
 rename_i i hi
 split at hf <;> cases hf
 rename_i hne
 have add : (⟨b, o, none⟩ : Addr).add f'.offset = ⟨b, o + f'.offset, none⟩ := by unfold Addr.add; split <;> simp_all
 unfold Instr.fieldAt
 simp [run_underlying hu, hf', Instr.sureAddr, fieldPlace, sizeOf, typeInfo, hi, hne, add]

theorem run_indexAt {t e sz by' : Nat} (he : eltOf P t = some (e, sz, by')) (k : IntKind) (i : Int) (b o n c : Nat) (h0 : 0 ≤ i) (h1 : i < n) :
  (Instr.indexAt t (.slice (some ⟨b, o, none⟩) n c) (.int k i)).run P w = .ok (.pointer (some ⟨b, o + i.toNat * sz, none⟩)) w := by
 obtain ⟨hu, j, hj, h2, _⟩ := eltOf_spec he
 subst h2
 have add : (⟨b, o, none⟩ : Addr).add (i.toNat * j.size) = ⟨b, o + i.toNat * j.size, none⟩ := by unfold Addr.add; split <;> simp_all
 unfold Instr.indexAt
 simp [run_underlying hu, asIntOf, h0, h1, sizeOf, typeInfo, hj, add]

def arrOf (P : Program) (t : TypeId) : Option (Nat × Nat) :=
 match P.underlying t with
 | some (.array n e) => match P.info? e with
  | some i => some (n, i.size)
  | none => none
 | _ => none
theorem run_indexArr {t n sz : Nat} (he : arrOf P t = some (n, sz)) (k : IntKind) (i : Int) (b o : Nat) (h0 : 0 ≤ i) (h1 : i < n) :
  (Instr.indexAt t (.pointer (some ⟨b, o, none⟩)) (.int k i)).run P w = .ok (.pointer (some ⟨b, o + i.toNat * sz, none⟩)) w := by
 unfold arrOf at he
 split at he <;> try cases he
 rename_i n' e hu
 split at he <;> try cases he
 rename_i j hj
 have add : (⟨b, o, none⟩ : Addr).add (i.toNat * j.size) = ⟨b, o + i.toNat * j.size, none⟩ := by unfold Addr.add; split <;> simp_all
 unfold Instr.indexAt
 simp [run_underlying hu, asIntOf, Instr.sureAddr, h0, h1, sizeOf, typeInfo, hj, add]

theorem MemOk.elem {B : Nat → Prop} {m : Nat → PV} {v : Value} {x : Bool} {e sz : Nat} {l : List PV} (h : MemOk pub w V m B v (.obj x e sz l)) {i : Nat} {el : PV} (hi : l[i]? = some el) :
  ∃ g cap, v = .slice (some ⟨g, 0, none⟩) l.length cap ∧ el.cells.length = sz ∧ ∀ (j : Nat) c, el.cells[j]? = some c → ∃ u, w.cell? ⟨g, i * sz + j, none⟩ = some u ∧ u.oneCell' = true ∧ Rep pub w c u ∧ (x = false → pub g (i * sz + j)) := by
 cases h with
 | obj _ _ _ _ xs hsz hmx hl how hp hq hc =>
  have hil : i < l.length := (List.getElem?_eq_some_iff.1 hi).1
  rcases how.1.2 with ⟨rfl, h0⟩ | ⟨g, cap, cur, rfl, hB, hh, hnc, hcm, hcs, htake⟩
  ·omega
  ·have hel := hl el (List.mem_of_getElem? hi)
   refine ⟨g, cap, rfl, hel, fun j c hj => ?_⟩
   have hjl : j < sz := by rw [← hel]; exact (List.getElem?_eq_some_iff.1 hj).1
   have hf := flat_get hl hi hj
   have hlt : i * sz + j < l.length * sz := by
    have h1 : (i + 1) * sz ≤ l.length * sz := Nat.mul_le_mul_right _ hil
    rw [Nat.add_mul] at h1; omega
   have hxl : i * sz + j < xs.length := by rw [how.1.1]; exact hlt
   have hx := how.1.cells (g := g) rfl (i * sz + j) (xs[i * sz + j]) (List.getElem?_eq_getElem hxl)
   rw [Addr.add_lit, Nat.zero_add] at hx
   have hcc := hc _ c hf
   have hget : xs.getD (i * sz + j) Go.undef = xs[i * sz + j] := by simp [hxl]
   rw [hget] at hcc
   exact ⟨_, hx, hcc.1, hcc.2, fun hx => hq hx g _ rfl hlt⟩
end
end Go.Px
namespace Go.Px
set_option linter.unusedSimpArgs false
set_option linter.unusedVariables false
open Go.RowKit

def zeroPV (P : Program) (t : TypeId) : Option (List PV) :=
 match P.info? t with
 | some i => match i.zero with
  | some z => if z.cells.toList.all Value.oneCell' then some (z.cells.toList.map constCell) else none
  | none => none
 | none => none

inductive Cur (m : Nat → PV) : PV → Prop where
 | plain (p : PV) (h : p.plain = true) : Cur m p
 | own (n k : Nat) (x : Bool) (e sz : Nat) (l : List PV) (hm : m n = .obj x e sz l) (hk : k = l.length) : Cur m (.own n k)
 | lptr (n off : Nat) : Cur m (.lptr n off)
 | agg (cs : List PV) : Cur m (.agg cs)

theorem splice_get {α : Type} (l v : List α) (o j : Nat) (h : o + v.length ≤ l.length) : (l.take o ++ v ++ l.drop (o + v.length))[j]? = if j < o then l[j]? else if j < o + v.length then v[j - o]? else l[j]? := by
 have ho : (l.take o).length = o := by simp; omega
 by_cases h1 : j < o
 ·rw [if_pos h1, List.append_assoc, List.getElem?_append_left (by omega), List.getElem?_take_of_lt h1]
 ·rw [if_neg h1]
  by_cases h2 : j < o + v.length
  ·rw [if_pos h2, List.append_assoc, List.getElem?_append_right (by omega), ho, List.getElem?_append_left (by omega)]
  ·rw [if_neg h2, List.getElem?_append_right (by simp; omega), List.getElem?_drop]
   congr 1; simp; omega

section
variable {P : Program} {N : Nat} {w0 : Base P} {w w' : World} {pub pub' : Nat → Nat → Prop} {V : Nat → Value} {s : St} {a : Act}

theorem zeroPV_spec {t : TypeId} {cs : List PV} (h : zeroPV P t = some cs) : ∃ z : Value, (zeroValue t).run P w = .ok z w ∧ z.cells.size = cs.length ∧
  ∀ (j : Nat) c, cs[j]? = some c → (z.cells.getD j Go.undef).oneCell' = true ∧ ∀ m, RV pub w V m c (z.cells.getD j Go.undef) := by
 unfold zeroPV at h
 split at h <;> try cases h
 rename_i i hi
 split at h <;> try cases h
 rename_i z hz
 split at h <;> cases h
 rename_i hall
 refine ⟨z, by simp [zeroValue, typeInfo, hi, hz], by simp, fun j c hj => ?_⟩
 simp only [List.getElem?_map, Option.map_eq_some_iff, Array.getElem?_toList] at hj
 obtain ⟨u, hu, rfl⟩ := hj
 have : z.cells.getD j Go.undef = u := by simp [hu]
 rw [this]
 exact ⟨List.all_eq_true.1 hall u (by rw [Array.mem_toList_iff]; exact Array.mem_of_getElem? hu), fun m => constCell_rep pub w V m u⟩

theorem MemOk.slice_val {B : Nat → Prop} {m : Nat → PV} {v : Value} {x : Bool} {e sz : Nat} {l : List PV} (h : MemOk pub w V m B v (.obj x e sz l)) : v.oneCell' = true ∧ ∀ arr, v ≠ .agg arr := by
 cases h with
 | obj _ _ _ _ xs hsz hmx hl how hp hq hc =>
  rcases how.1.2 with ⟨rfl, h0⟩ | ⟨g, cap, cur, rfl, _⟩ <;> exact ⟨rfl, fun _ h => by cases h⟩

theorem Cur.cells {p : PV} (hc : Cur s.mem p) (h : Rel0 N w0 pub V s a w) {v : Value} (hv : RV pub w V s.mem p v) :
  v.cells.size = p.cells.length ∧ ∀ (j : Nat) c, p.cells[j]? = some c → (v.cells.getD j Go.undef).oneCell' = true ∧ RV pub w V s.mem c (v.cells.getD j Go.undef) := by
 have one : ∀ {q : PV} {u : Value}, RV pub w V s.mem q u → u.oneCell' = true → (∀ arr, u ≠ .agg arr) → q.cells = [q] → u.cells.size = q.cells.length ∧ ∀ (j : Nat) c, q.cells[j]? = some c → (u.cells.getD j Go.undef).oneCell' = true ∧ RV pub w V s.mem c (u.cells.getD j Go.undef) := by
  intro q u hq h1 h2 hcells
  have hu : u.cells = #[u] := by cases u <;> first | rfl | exact absurd rfl (h2 _)
  rw [hu, hcells]
  refine ⟨rfl, fun j c hj => ?_⟩
  have hj0 : j = 0 := by have := (List.getElem?_eq_some_iff.1 hj).1; simpa using this
  subst hj0; simp at hj; subst hj; exact ⟨h1, hq⟩
 cases hc with
 | plain _ hp =>
  have hr := hv.plain hp
  have h1 : v.oneCell' = true := hr.cell (by cases p <;> first | rfl | cases hp)
  exact one hv h1 (fun arr e => by subst e; cases h1) (by cases p <;> first | rfl | cases hp)
 | own n k x e sz l hm hk =>
  obtain ⟨x', e', sz', l', hm', _, hv'⟩ := hv.own_inv
  rw [hm] at hm'; cases hm'
  have hmn := h.mem n
  rw [hm] at hmn
  have := hmn.slice_val
  rw [← hv' hk] at this
  exact one hv this.1 this.2 rfl
 | lptr n off =>
  obtain ⟨x', cs', b, hm', hb, rfl⟩ := hv.lptr_inv
  exact one hv rfl (fun _ h => by cases h) rfl
 | agg cs =>
  obtain ⟨arr, rfl, hs, hc⟩ := hv.agg_inv
  exact ⟨hs, hc⟩

theorem Rel0.newBlk (h : Rel0 N w0 pub V s a w) (n : Nat) (hn63 : n % 64 ≠ 63) (hn : s.mem n = .undef) (arr : Array Value) (T : TypeId) (cs : List PV) (hs : arr.size = cs.length)
  (hc : ∀ (j : Nat) c, cs[j]? = some c → (arr.getD j Go.undef).oneCell' = true ∧ RV pub w V s.mem c (arr.getD j Go.undef)) :
  Rel0 N w0 pub (updV V n (.pointer (some ⟨w.heap.size, 0, none⟩))) { s with mem := upd s.mem n (.blk true cs) } a (w.alloc (.cells arr T (0, 0))) := by
 refine h.new n hn63 hn _ _ ((Below.refl _ _).alloc (Nat.le_refl _) _) (fun e => by cases e) (fun s' o e => by cases e) (fun g hg => by simp [blockOf] at hg; omega) (fun t => ?_)
 exact .blk true cs w.heap.size arr T rfl (.inl h.below.size) (heap_alloc_new w _) hs (fun o ho => absurd (h.pubLt _ _ ho) (by omega)) (fun h => by cases h) (fun j c hj => ⟨(hc j c hj).1, t.rv (hc j c hj).2⟩) (fun h => by cases h)

theorem Rel0.newObjG (h : Rel0 N w0 pub V s a w) (n : Nat) (hn63 : n % 64 ≠ 63) (hn : s.mem n = .undef) (x : Bool) (e sz : Nat) (l : List PV) (v : Value) (xs : List Value) (hb : Below w.heap.size w w') (hsz : 0 < sz) (hmx : l.length ≤ 9223372036854775807)
  (hl : ∀ e ∈ l, e.cells.length = sz) (how : rowG w' e sz v l.length xs) (hge : ∀ g, v.ownBlock = some g → w.heap.size ≤ g ∧ g < w'.heap.size)
  (hc : ∀ (i : Nat) c, (flat l)[i]? = some c → (xs.getD i Go.undef).oneCell' = true ∧ Rep pub w c (xs.getD i Go.undef)) :
  ∃ pub', (∀ b o, pub b o → pub' b o) ∧ (∀ b o, pub' b o → pub b o ∨ w.heap.size ≤ b) ∧ Rel0 N w0 pub' (updV V n v) { s with mem := upd s.mem n (.obj x e sz l) } a w' := by
 have hbo : blockOf v = v.ownBlock := by
  rcases how.2 with ⟨rfl, _⟩ | ⟨g, cap, cur, rfl, _⟩ <;> rfl
 have how0 : ownsRowB w' w0.O e sz v l.length xs := ⟨how, fun g hg => .inl (Nat.le_trans h.below.size (hge g hg).1)⟩
 refine ⟨fun b o => pub b o ∨ (x = false ∧ v.ownBlock = some b ∧ o < l.length * sz), fun b o h => .inl h, fun b o ho => ho.imp id fun h => (hge b h.2.1).1, ?_⟩
 have hrel := h.world hb
 have hr2 : Rel0 N w0 pub (updV V n v) { s with mem := upd s.mem n (.obj true e sz l) } a w' := by
  refine h.new n hn63 hn v _ hb (fun e => by cases e) (fun s' o e => by cases e) (fun g hg => (hge g (hbo ▸ hg)).1) (fun t => ?_)
  exact .obj true e sz l xs hsz hmx hl how0 (fun g o hg ho => absurd (h.pubLt _ _ ho) (by have := (hge g hg).1; omega)) (fun h => by cases h) (fun i c hi => ⟨(hc i c hi).1, t.rep (hc i c hi).2⟩)
 cases x with
 | true =>
  have : (fun b o => pub b o ∨ (true = false ∧ v.ownBlock = some b ∧ o < l.length * sz)) = pub := by
   funext b o; simp
  rw [this]; exact hr2
 | false =>
  have hm2 : upd s.mem n (.obj true e sz l) n = .obj true e sz l := upd_same _ _ _
  have h3 := hr2.touch (pub' := fun b o => pub b o ∨ (false = false ∧ v.ownBlock = some b ∧ o < l.length * sz)) (w' := w') n (by simp [upd_same]) v (fun e => absurd e hn63) (.obj false e sz l) (fun e => by cases e) (by intro s' o e; simp [upd_same] at e) (fun s' o e => by cases e) (Nat.le_refl _) rfl rfl rfl (fun _ _ _ => rfl) (fun b o h => .inl h)
   (fun b o ho => ho.imp id fun h => by rw [hbo]; exact h.2.1) (fun b hb' => (hge b (hbo ▸ hb')).2) (fun _ _ _ => rfl) (fun _ _ _ => rfl) (.inl (by rw [updV_same]))
   (fun q u hq => by
    cases hq with
    | own k j _ x' e' sz' l' hm hk hh =>
     by_cases hkn : k = n
     ·subst hkn
      simp only [upd_same] at hm; cases hm
      exact .own k j u false e sz l (by simp [upd_same]) hk (fun e => by rw [updV_same]; exact (hh e).trans (updV_same _ _ _))
     ·exact .own k j u x' e' sz' l' (by simp only [upd_ne _ _ hkn] at hm ⊢; exact hm) hk (fun e => by rw [updV_ne _ _ hkn]; exact hh e)
    | lptr k off x' cs b hm hv =>
     have hkn : k ≠ n := fun e => by subst e; simp only [upd_same] at hm; cases hm
     exact .lptr k off x' cs b (by simp only [upd_ne _ _ hkn] at hm ⊢; exact hm) (by rw [updV_ne _ _ hkn]; exact hv)
    | eptr k j i off _ x' e' sz' l' hm hk hh =>
     by_cases hkn : k = n
     ·subst hkn
      simp only [upd_same] at hm; cases hm
      exact .eptr k j i off u false e sz l (by simp [upd_same]) hk (fun e => by rw [updV_same]; simpa [updV_same] using hh e)
     ·exact .eptr k j i off u x' e' sz' l' (by simp only [upd_ne _ _ hkn] at hm ⊢; exact hm) hk (fun e => by rw [updV_ne _ _ hkn]; exact hh e)
    | osl k j i i2 _ x' e' sz' l' hm hk hij hh =>
     by_cases hkn : k = n
     ·subst hkn
      simp only [upd_same] at hm; cases hm
      exact .osl k j i i2 u false e sz l (by simp [upd_same]) hk hij (fun e => by rw [updV_same]; simpa [updV_same] using hh e)
     ·exact .osl k j i i2 u x' e' sz' l' (by simp only [upd_ne _ _ hkn] at hm ⊢; exact hm) hk hij (fun e => by rw [updV_ne _ _ hkn]; exact hh e))
   (fun t => .obj false e sz l xs hsz hmx hl how0 (fun g o hg ho => ⟨rfl, by
     rcases ho with ho | ho
     ·exact absurd (h.pubLt _ _ ho) (by have := (hge g hg).1; omega)
     ·exact ho.2.2⟩) (fun _ g o hg ho => .inr ⟨rfl, hg, ho⟩) (fun i c hi => ⟨(hc i c hi).1, t.rep ((hc i c hi).2.mono (fun _ _ h => h) (fun b o ho => hb.cell (p := ⟨b, o, none⟩) (h.pubLt b o ho)))⟩))
  have e1 : updV (updV V n v) n v = updV V n v := by funext k; by_cases hk : k = n <;> simp [updV, hk]
  have e2 : upd (upd s.mem n (.obj true e sz l)) n (.obj false e sz l) = upd s.mem n (.obj false e sz l) := by funext k; by_cases hk : k = n <;> simp [upd, hk]
  rw [e1] at h3
  rw [← e2]
  exact h3
theorem Rel0.newObj (h : Rel0 N w0 pub V s a w) (n : Nat) (hn63 : n % 64 ≠ 63) (hn : s.mem n = .undef) (x : Bool) (e sz : Nat) (l : List PV) (v : Value) (xs : List Value) (he : e < 1099511627776) (hb : Below w.heap.size w w') (hsz : 0 < sz) (hmx : l.length ≤ 9223372036854775807)
  (hl : ∀ e ∈ l, e.cells.length = sz) (how : w'.ownsRow w.heap.size e sz v l.length xs)
  (hc : ∀ (i : Nat) c, (flat l)[i]? = some c → (xs.getD i Go.undef).oneCell' = true ∧ Rep pub w c (xs.getD i Go.undef)) :
  ∃ pub', (∀ b o, pub b o → pub' b o) ∧ (∀ b o, pub' b o → pub b o ∨ w.heap.size ≤ b) ∧ Rel0 N w0 pub' (updV V n v) { s with mem := upd s.mem n (.obj x e sz l) } a w' :=
 h.newObjG n hn63 hn x e sz l v xs hb hsz hmx hl (.of how he) (fun g hg => how.lt g hg) hc
end
end Go.Px
namespace Go.Px
set_option linter.unusedSimpArgs false
set_option linter.unusedVariables false
open Go.RowKit

theorem updV_self (V : Nat → Value) (n : Nat) : updV V n (V n) = V := by funext k; by_cases h : k = n <;> simp [updV, h]

section
variable {P : Program} {N : Nat} {w0 : Base P} {w w' : World} {pub pub' : Nat → Nat → Prop} {V : Nat → Value} {s : St} {a : Act}

theorem refs_blk {m : Nat → PV} {n : Nat} {x x' : Bool} {cs cs' : List PV} (hm : m n = .blk x cs) {q : PV} {u : Value} (h : RefOk V m q u) : RefOk V (upd m n (.blk x' cs')) q u := by
 cases h with
 | own k j _ y e sz l hk h1 h2 =>
  have hne : k ≠ n := fun e => by subst e; rw [hm] at hk; cases hk
  exact .own k j u y e sz l (by rw [upd_ne _ _ hne]; exact hk) h1 h2
 | lptr k off y c b hk hv =>
  by_cases hne : k = n
  ·subst hne; exact .lptr k off x' cs' b (upd_same _ _ _) hv
  ·exact .lptr k off y c b (by rw [upd_ne _ _ hne]; exact hk) hv
 | eptr k j i off _ y e sz l hk h1 h2 =>
  have hne : k ≠ n := fun e => by subst e; rw [hm] at hk; cases hk
  exact .eptr k j i off u y e sz l (by rw [upd_ne _ _ hne]; exact hk) h1 h2
 | osl k j i i2 _ y e sz l hk h1 h4 h2 =>
  have hne : k ≠ n := fun e => by subst e; rw [hm] at hk; cases hk
  exact .osl k j i i2 u y e sz l (by rw [upd_ne _ _ hne]; exact hk) h1 h4 h2

theorem refs_obj {m : Nat → PV} {n : Nat} {x x' : Bool} {e sz : Nat} {l l' : List PV} {v : Value} (hm : m n = .obj x e sz l) (hle : l.length ≤ l'.length) (hv : l'.length = l.length → v = V n) {q : PV} {u : Value}
  (h : RefOk V m q u) : RefOk (updV V n v) (upd m n (.obj x' e sz l')) q u := by
 cases h with
 | own k j _ y e' sz' l0 hk h1 h2 =>
  by_cases hne : k = n
  ·subst hne
   rw [hm] at hk; cases hk
   exact .own k j u x' e sz l' (upd_same _ _ _) (by omega) (fun e => by rw [updV_same, hv (by omega)]; exact h2 (by omega))
  ·exact .own k j u y e' sz' l0 (by rw [upd_ne _ _ hne]; exact hk) h1 (fun e => by rw [updV_ne _ _ hne]; exact h2 e)
 | lptr k off y c b hk hvv =>
  have hne : k ≠ n := fun e => by subst e; rw [hm] at hk; cases hk
  exact .lptr k off y c b (by rw [upd_ne _ _ hne]; exact hk) (by rw [updV_ne _ _ hne]; exact hvv)
 | eptr k j i off _ y e' sz' l0 hk h1 h2 =>
  by_cases hne : k = n
  ·subst hne
   rw [hm] at hk; cases hk
   refine .eptr k j i off u x' e sz l' (upd_same _ _ _) (by omega) (fun e => ?_)
   rw [updV_same, hv (by omega)]
   have h3 := h2 (by omega)
   rw [show l'.length = l.length by omega]
   exact h3
  ·exact .eptr k j i off u y e' sz' l0 (by rw [upd_ne _ _ hne]; exact hk) h1 (fun e => by rw [updV_ne _ _ hne]; exact h2 e)
 | osl k j i i2 _ y e' sz' l0 hk h1 h4 h2 =>
  by_cases hne : k = n
  ·subst hne
   rw [hm] at hk; cases hk
   refine .osl k j i i2 u x' e sz l' (upd_same _ _ _) (by omega) h4 (fun e => ?_)
   rw [updV_same, hv (by omega)]
   have h3 := h2 (by omega)
   rw [show l'.length = l.length by omega]
   exact h3
  ·exact .osl k j i i2 u y e' sz' l0 (by rw [upd_ne _ _ hne]; exact hk) h1 h4 (fun e => by rw [updV_ne _ _ hne]; exact h2 e)

theorem Rel0.storeBlk (h : Rel0 N w0 pub V s a w) {n off : Nat} {cs : List PV} (hm : s.mem n = .blk true cs) {b : Nat} (hb : V n = .pointer (some ⟨b, 0, none⟩)) {t : TypeId} {g : Bool} {sz : Nat} (ht : shp P t = some (g, sz))
  {p : PV} {v : Value} (hcur : Cur s.mem p) (hv : RV pub w V s.mem p v) (hsz : p.cells.length = sz) (hfit : off + sz ≤ cs.length) :
  ∃ w', (storeVar t ⟨b, off, none⟩ v).run P w = .ok () w' ∧ Rel0 N w0 pub V { s with mem := upd s.mem n (.blk true (cs.take off ++ p.cells ++ cs.drop (off + sz))) } a w' := by
 obtain ⟨hc1, hc2⟩ := hcur.cells h hv
 have hmn := h.mem n
 rw [hm, hb] at hmn
 cases hmn with
 | blk _ _ g' arr T hvv hB hg hs hp hq hc hr =>
  simp only [Value.pointer.injEq, Option.some.injEq, Addr.mk.injEq, and_true] at hvv
  subst hvv
  have h1 : ∀ u ∈ v.cells.toList, u.oneCell' = true := fun u hu => by
   obtain ⟨j, hj⟩ := List.mem_iff_getElem?.1 hu
   have hlt : j < v.cells.size := by have := (List.getElem?_eq_some_iff.1 hj).1; simpa using this
   have := (hc2 j _ (List.getElem?_eq_getElem (by omega))).1
   rw [Array.getElem?_toList] at hj
   simpa [hj] using this
  have hlen : v.cells.toList.length = sz := by simp [hc1, hsz]
  have hst := run_storeCells_at P b off T v.cells.toList 0 arr w hg (by rw [hlen]; omega) h1
  simp only [Nat.add_zero] at hst
  refine ⟨_, by
   unfold storeVar
   have hne : ¬ (v.cells.size ≠ sz) := by omega
   simp only [Sem.run_bind, shp_size ht w, Result.andThen_ok, hne, if_false]
   exact hst, ?_⟩
  have hsp := fun j => splice_get arr.toList v.cells.toList off j (by rw [hlen]; simp; omega)
  have hsp2 := fun j => splice_get cs p.cells off j (by omega)
  rw [hlen] at *
  rw [hsz] at hsp2
  have hrel := h.touch (pub' := pub) (w' := w.setRow b (arr.toList.take off ++ v.cells.toList ++ arr.toList.drop (off + sz)).toArray) n (by rw [hm]; intro e; cases e) (V n) (fun _ => rfl) (.blk true (cs.take off ++ p.cells ++ cs.drop (off + sz))) (fun e => by cases e) (by intro s' o e; rw [hm] at e; cases e) (fun s' o e => by cases e)
   (by simp) rfl rfl rfl (fun k _ hk => setRow_other w b k _ (fun e => hk (by rw [hb, e]; rfl))) (fun _ _ h => h) (fun _ _ h => .inl h)
   (fun k hk => by rw [hb] at hk; simp [blockOf] at hk; subst hk; simp; exact (Array.getElem?_eq_some_iff.1 hg).1)
   (fun k o ho => World.cell?_of_block (a := ⟨k, o, none⟩) (setRow_other w b k _ (fun e => by subst e; have := hp o ho; cases this)))
   (fun k o ho => frozenOB' (setRow_other w b k _ (fun e => by subst e; have := hp o ho; cases this)))
   (.inl rfl) (fun q u hq => by rw [updV_self]; exact refs_blk hm hq)
   (fun t => by
    refine .blk true _ b _ T hb hB (setRow_heap w b arr _ T (0, 0) hg) (by simp [hc1, hsz]; omega) hp (fun h => by cases h) (fun j c hj => ?_) (fun h => by cases h)
    rw [hsp2 j] at hj
    have hget : ∀ (L : List Value), L.toArray.getD j Go.undef = (L[j]?).getD Go.undef := fun L => by simp
    rw [hget, hsp j]
    by_cases h1 : j < off
    ·rw [if_pos h1] at hj ⊢
     have := hc j c hj
     rw [Array.getElem?_toList]
     exact ⟨by simpa using this.1, t.rv (by simpa using this.2)⟩
    ·rw [if_neg h1] at hj ⊢
     by_cases h2 : j < off + sz
     ·rw [if_pos h2] at hj ⊢
      have := hc2 (j - off) c hj
      rw [Array.getElem?_toList]
      exact ⟨by simpa using this.1, t.rv (by simpa using this.2)⟩
     ·rw [if_neg h2] at hj ⊢
      have := hc j c hj
      rw [Array.getElem?_toList]
      exact ⟨by simpa using this.1, t.rv (by simpa using this.2)⟩)
  rw [updV_self] at hrel
  exact hrel

theorem flat_set {sz : Nat} : ∀ {l : List PV}, (∀ e ∈ l, e.cells.length = sz) → ∀ (i : Nat) (el el' : PV), l[i]? = some el → el'.cells.length = sz → flat (l.set i el') = (flat l).take (i * sz) ++ el'.cells ++ (flat l).drop (i * sz + sz)
 | [], _, i, el, el', hi, _ => by simp at hi
 | y :: l, h, 0, el, el', hi, he => by
  have hy := h y (List.mem_cons_self ..)
  simp [flat_cons, ← hy]
 | y :: l, h, i + 1, el, el', hi, he => by
  have hy := h y (List.mem_cons_self ..)
  have ih := flat_set (fun e he => h e (List.mem_cons_of_mem _ he)) i el el' (by simpa using hi) he
  have t1 : (y.cells ++ flat l).take (i * sz + sz) = y.cells ++ (flat l).take (i * sz) := by
   rw [List.take_append, List.take_of_length_le (by omega)]; congr 2; omega
  have t2 : (y.cells ++ flat l).drop (i * sz + sz + sz) = (flat l).drop (i * sz + sz) := by
   rw [List.drop_append, List.drop_eq_nil_of_le (by omega), List.nil_append]; congr 1; omega
  rw [List.set_cons_succ, flat_cons, ih, flat_cons, Nat.add_mul, Nat.one_mul, t1, t2]
  simp

def setEl (el : PV) (off : Nat) (p : PV) : PV :=
 match el with
 | .agg cs => .agg (cs.take off ++ p.cells ++ cs.drop (off + p.cells.length))
 | _ => p

theorem setEl_cells {el : PV} {off : Nat} {p : PV} (h : off + p.cells.length ≤ el.cells.length) (hp : 0 < p.cells.length) : (setEl el off p).cells = el.cells.take off ++ p.cells ++ el.cells.drop (off + p.cells.length) := by
 unfold setEl
 split
 ·rfl
 ·rename_i hne
  have h1 : el.cells = [el] := by cases el <;> first | rfl | exact absurd rfl (hne _)
  rw [h1] at h ⊢
  simp at h
  have h2 : off = 0 := by omega
  have h3 : p.cells.length = 1 := by omega
  rw [h2, h3]; simp

theorem take_splice {α : Type} (l v : List α) (o n : Nat) (h : o + v.length ≤ n) (hn : n ≤ l.length) : (l.take o ++ v ++ l.drop (o + v.length)).take n = (l.take n).take o ++ v ++ (l.take n).drop (o + v.length) := by
 have ho : (l.take o).length = o := by simp; omega
 rw [List.append_assoc, List.take_append, List.take_append, ho]
 rw [List.take_of_length_le (l := l.take o) (by omega), List.take_of_length_le (l := v) (by omega), List.take_take, Nat.min_eq_left (by omega : o ≤ n)]
 rw [List.drop_take, List.append_assoc]
 congr 3; omega

theorem run_storeCells_atG (P : Program) (g o T e : Nat) (fz : Nat × Nat) : ∀ (vs : List Value) (i : Nat) (cur : Array Value) (w : World), w.heap[g]? = some (.cells cur T fz) → frOk e cur.size fz → o + i + vs.length ≤ cur.size → (∀ v ∈ vs, v.oneCell' = true) →
  (storeCells ⟨g, o, none⟩ vs i).run P w = .ok () (w.setRow g (cur.toList.take (o + i) ++ vs ++ cur.toList.drop (o + i + vs.length)).toArray)
 | [], i, cur, w, hg, _, _, _ => by
  simp only [storeCells, List.append_nil, List.length_nil, Nat.add_zero, List.take_append_drop, Array.toArray_toList]
  rw [setRow_self w g cur T fz hg]
  rfl
 | v :: rest, i, cur, w, hg, hfz, hl, h1 => by
  have hi : o + i < cur.size := by simp at hl; omega
  have hadd : (⟨g, o, none⟩ : Addr).add i = ⟨g, o + i, none⟩ := by unfold Addr.add; split <;> simp_all
  have hcell : w.cell? ⟨g, o + i, none⟩ = some cur[o + i] := by simp [World.cell?, hg, hi]
  have hfro : w.frozen? ⟨g, o + i, none⟩ = false := not_frozen hg hfz hi
  have hst : (store ((⟨g, o, none⟩ : Addr).add i) v).run P w = .ok () (w.setRow g (cur.setIfInBounds (o + i) v)) := by
   rw [hadd, run_store P w _ v _ (h1 v (by simp)), hcell]
   simp [hfro, setCell_eq_setRow w g (o + i) cur T fz v hg]
  have ih := run_storeCells_atG P g o T e fz rest (i + 1) (cur.setIfInBounds (o + i) v) (w.setRow g (cur.setIfInBounds (o + i) v)) (setRow_heap w g cur _ T _ hg) (by simpa using hfz) (by simp at hl ⊢; omega) (fun x hx => h1 x (by simp [hx]))
  simp only [storeCells, Sem.run_bind, hst, Result.andThen_ok, ih, setRow_setRow]
  congr 3
  have e := list_seg_step cur.toList (o + i) v rest (by simp at hl ⊢; omega)
  simpa [Array.toList_setIfInBounds, Nat.add_assoc] using e
theorem Rel0.storeObj (h : Rel0 N w0 pub V s a w) {n : Nat} {e sz' : Nat} {l : List PV} (hm : s.mem n = .obj true e sz' l) {i off : Nat} {el : PV} (hi : l[i]? = some el) {g cap : Nat} (hb : V n = .slice (some ⟨g, 0, none⟩) l.length cap)
  {t : TypeId} {ag : Bool} {sz : Nat} (ht : shp P t = some (ag, sz)) {p : PV} {v : Value} (hv : Rep pub w p v) (hsz : p.cells.length = sz) (h0 : 0 < sz) (hfit : off + sz ≤ sz')
  (hcells : v.cells.size = sz ∧ ∀ (j : Nat) c, p.cells[j]? = some c → (v.cells.getD j Go.undef).oneCell' = true ∧ Rep pub w c (v.cells.getD j Go.undef)) :
  ∃ w', (storeVar t ⟨g, i * sz' + off, none⟩ v).run P w = .ok () w' ∧ Rel0 N w0 pub V { s with mem := upd s.mem n (.obj true e sz' (l.set i (setEl el off p))) } a w' := by
 obtain ⟨hc1, hc2⟩ := hcells
 have hmn := h.mem n
 rw [hm] at hmn
 have hil : i < l.length := (List.getElem?_eq_some_iff.1 hi).1
 cases hmn with
 | obj _ _ _ _ xs hs0 hmx hl how hp hq hc =>
  have hown := how
  rw [hb] at hown
  rcases how.1.2 with ⟨hv0, h0'⟩ | ⟨g', cap', cur, hv0, hB, ⟨fr, hh, hfr⟩, hnc, hcm, hcs, htake⟩
  ·omega
  ·rw [hb] at hv0
   simp only [Value.slice.injEq, Option.some.injEq, Addr.mk.injEq, and_true, true_and] at hv0
   obtain ⟨rfl, rfl⟩ := hv0
   have hel := hl el (List.mem_of_getElem? hi)
   have hle : (i + 1) * sz' ≤ l.length * sz' := Nat.mul_le_mul_right _ hil
   rw [Nat.add_mul, Nat.one_mul] at hle
   have hcap : l.length * sz' ≤ cap * sz' := Nat.mul_le_mul_right _ hnc
   have h1 : ∀ u ∈ v.cells.toList, u.oneCell' = true := fun u hu => by
    obtain ⟨j, hj⟩ := List.mem_iff_getElem?.1 hu
    have hlt : j < v.cells.size := by have := (List.getElem?_eq_some_iff.1 hj).1; simpa using this
    have := (hc2 j _ (List.getElem?_eq_getElem (by omega))).1
    rw [Array.getElem?_toList] at hj
    simpa [hj] using this
   have hlen : v.cells.toList.length = sz := by simp [hc1]
   have hcl : cur.toList.length = cap * sz' := by simp [hcs]
   have hst := run_storeCells_atG P g (i * sz' + off) (tyOf e) e fr v.cells.toList 0 cur w hh hfr (by rw [hlen]; omega) h1
   simp only [Nat.add_zero] at hst
   refine ⟨_, by
    unfold storeVar
    have hne : ¬ (v.cells.size ≠ sz) := by omega
    simp only [Sem.run_bind, shp_size ht w, Result.andThen_ok, hne, if_false]
    exact hst, ?_⟩
   have hfl := flat_length hl
   have hsel : (setEl el off p).cells.length = sz' := by rw [setEl_cells (by omega) (by omega)]; simp; omega
   have hnewl : ∀ e' ∈ l.set i (setEl el off p), e'.cells.length = sz' := fun e' he' => by
    rcases List.mem_or_eq_of_mem_set he' with h | h
    ·exact hl e' h
    ·rw [h]; exact hsel
   have hflat : flat (l.set i (setEl el off p)) = (flat l).take (i * sz' + off) ++ p.cells ++ (flat l).drop (i * sz' + off + sz) := by
    rw [flat_set hl i el _ hi hsel, setEl_cells (by omega) (by omega), hsz]
    have hel2 : el.cells = ((flat l).drop (i * sz')).take sz' := by
     apply List.ext_getElem?
     intro j
     by_cases hj : j < sz'
     ·rw [List.getElem?_take_of_lt hj, List.getElem?_drop]
      exact (List.getElem?_eq_getElem (by omega)).trans (flat_get hl hi (List.getElem?_eq_getElem (by omega))).symm
     ·rw [List.getElem?_eq_none (by omega), List.getElem?_eq_none (by simp; omega)]
    rw [hel2, List.take_take, Nat.min_eq_left (by omega), List.drop_take, List.drop_drop]
    have e1 : (flat l).take (i * sz' + off) = (flat l).take (i * sz') ++ ((flat l).drop (i * sz')).take off := by rw [List.take_add]
    have e2 : (flat l).drop (i * sz' + off + sz) = ((flat l).drop (i * sz' + (off + sz))).take (sz' - (off + sz)) ++ (flat l).drop (i * sz' + sz') := by
     have e3 := (List.take_append_drop (sz' - (off + sz)) ((flat l).drop (i * sz' + (off + sz)))).symm
     rw [List.drop_drop, show i * sz' + (off + sz) + (sz' - (off + sz)) = i * sz' + sz' by omega] at e3
     rw [show i * sz' + off + sz = i * sz' + (off + sz) by omega]
     exact e3
    rw [e1, e2]; simp
   have hxs := how.1.1
   have hnewx : ((cur.toList.take (i * sz' + off) ++ v.cells.toList ++ cur.toList.drop (i * sz' + off + v.cells.toList.length))).take (l.length * sz') = xs.take (i * sz' + off) ++ v.cells.toList ++ xs.drop (i * sz' + off + v.cells.toList.length) := by
    have := take_splice cur.toList v.cells.toList (i * sz' + off) (l.length * sz') (by omega) (by omega)
    rw [this, htake]
   have hrel := h.touch (pub' := pub) (w' := w.setRow g (cur.toList.take (i * sz' + off) ++ v.cells.toList ++ cur.toList.drop (i * sz' + off + v.cells.toList.length)).toArray) n (by rw [hm]; intro e; cases e) (V n) (fun _ => rfl) (.obj true e sz' (l.set i (setEl el off p))) (fun e => by cases e) (by intro s' o e; rw [hm] at e; cases e) (fun s' o e => by cases e)
    (by simp) rfl rfl rfl (fun k _ hk => setRow_other w g k _ (fun e => hk (by rw [hb, e]; rfl))) (fun _ _ h => h) (fun _ _ h => .inl h)
    (fun k hk => by rw [hb] at hk; simp [blockOf] at hk; subst hk; simp; exact (Array.getElem?_eq_some_iff.1 hh).1)
    (fun k o ho => World.cell?_of_block (a := ⟨k, o, none⟩) (setRow_other w g k _ (fun e => by subst e; have := (hp k o (by rw [hb]; rfl) ho).1; cases this)))
    (fun k o ho => frozenOB' (setRow_other w g k _ (fun e => by subst e; have := (hp k o (by rw [hb]; rfl) ho).1; cases this)))
    (.inl rfl) (fun q u hq => refs_obj hm (by simp) (fun _ => rfl) hq)
    (fun t => by
     refine .obj true e sz' _ (xs.take (i * sz' + off) ++ v.cells.toList ++ xs.drop (i * sz' + off + v.cells.toList.length)) hs0 (by rw [List.length_set]; exact hmx) hnewl ⟨⟨by simp only [List.length_append, List.length_take, List.length_drop, List.length_set, hlen]; omega, .inr ⟨g, cap, _, by rw [hb]; simp, hB, ⟨fr, setRow_heap w g cur _ (tyOf e) fr hh, hfr.size (by simp only [List.size_toArray, List.length_append, List.length_take, List.length_drop]; omega)⟩, by simpa using hnc, hcm, by simp only [List.size_toArray, List.length_append, List.length_take, List.length_drop, hlen, hcl]; omega, ?_⟩⟩, how.2⟩ (fun g' o hg' ho => ?_) (fun h => by cases h) (fun k c hk => ?_)
     ·simp only [List.length_set]; exact hnewx
     ·have := (hp g' o hg' ho).1; cases this
     ·rw [hflat] at hk
      have hs2 := splice_get (flat l) p.cells (i * sz' + off) k (by omega)
      rw [hsz] at hs2
      rw [hs2] at hk
      have hs1 := splice_get xs v.cells.toList (i * sz' + off) k (by omega)
      have hget : ∀ (L : List Value), L.getD k Go.undef = (L[k]?).getD Go.undef := fun L => by simp
      rw [hget, hs1]
      by_cases h1 : k < i * sz' + off
      ·rw [if_pos h1] at hk ⊢
       have := hc k c hk
       exact ⟨by simpa using this.1, t.rep (by simpa using this.2)⟩
      ·rw [if_neg h1] at hk ⊢
       by_cases h2 : k < i * sz' + off + sz
       ·rw [if_pos h2] at hk
        rw [if_pos (by omega)]
        have := hc2 (k - (i * sz' + off)) c hk
        rw [Array.getElem?_toList]
        exact ⟨by simpa using this.1, t.rep (by simpa using this.2)⟩
       ·rw [if_neg h2] at hk
        rw [if_neg (by omega)]
        have := hc k c hk
        exact ⟨by simpa using this.1, t.rep (by simpa using this.2)⟩)
   rw [updV_self] at hrel
   exact hrel
end
end Go.Px
namespace Go.Px
set_option linter.unusedSimpArgs false
set_option linter.unusedVariables false
open Go.RowKit

inductive Lst (m : Nat → PV) : PV → List PV → List Nat → Prop where
 | pure (l : List PV) : Lst m (.slice l) l []
 | nils : Lst m .nils [] []
 | own (n k : Nat) (x : Bool) (e sz : Nat) (l : List PV) (hm : m n = .obj x e sz l) (hk : k = l.length) : Lst m (.own n k) l [n]

section
variable {P : Program} {N : Nat} {w0 : Base P} {w w' : World} {pub pub' : Nat → Nat → Prop} {V : Nat → Value} {s : St} {a : Act}

theorem Lst.val {p : PV} {l : List PV} {R : List Nat} (hl : Lst s.mem p l R) (h : Rel0 N w0 pub V s a w) {v : Value} (hv : RV pub w V s.mem p v) :
  ∃ ad cap, v = .slice ad l.length cap ∧ l.length ≤ cap ∨ ∃ ad cap, v = .slice ad l.length cap ∧ l = [] := by
 cases hl with
 | pure =>
  have := hv.slice_inv
  cases this with
  | slice0 ad cap => exact ⟨none, 0, .inr ⟨ad, cap, rfl, rfl⟩⟩
  | slice b o cap sz _ W hsz hcap hmx hd hc => exact ⟨_, _, .inl ⟨rfl, hcap⟩⟩
 | nils => exact ⟨none, 0, .inr ⟨none, 0, hv.nils_inv, rfl⟩⟩
 | own n k x e sz _ hm hk =>
  obtain ⟨x', e', sz', l', hm', _, hv'⟩ := hv.own_inv
  rw [hm] at hm'; cases hm'
  rw [hv' hk]
  have hmn := h.mem n
  rw [hm] at hmn
  cases hmn with
  | obj _ _ _ _ xs hsz hmx hl how hp hq hc =>
   rcases how.1.2 with ⟨h1, h2⟩ | ⟨g, cap, cur, h1, hB, hh, hnc, _⟩
   ·rw [h1]; exact ⟨none, 0, .inr ⟨none, 0, by rw [h2], List.eq_nil_of_length_eq_zero h2⟩⟩
   ·rw [h1]; exact ⟨_, _, .inl ⟨rfl, hnc⟩⟩

theorem Lst.len {p : PV} {l : List PV} {R : List Nat} (hl : Lst s.mem p l R) (h : Rel0 N w0 pub V s a w) {v : Value} (hv : RV pub w V s.mem p v) : ∃ ad cap, v = .slice ad l.length cap := by
 rcases hl.val h hv with ⟨ad, cap, h | ⟨ad', cap', h, _⟩⟩
 ·exact ⟨ad, cap, h.1⟩
 ·exact ⟨ad', cap', h⟩

theorem Lst.src {p : PV} {l : List PV} {R : List Nat} (hl : Lst s.mem p l R) (h : Rel0 N w0 pub V s a w) {v : Value} (hv : RV pub w V s.mem p v) {sz : Nat} (hsz : ∀ e ∈ l, e.cells.length = sz) :
  (∃ cap, v = .slice none 0 cap ∧ l = []) ∨ ∃ ad cap, ∃ news : List Value, v = .slice (some ad) l.length cap ∧ news.length = l.length * sz ∧ (∀ j u, news[j]? = some u → w.cell? (ad.add j) = some u) ∧ (∀ u ∈ news, u.oneCell' = true) ∧
   ∀ (j : Nat) c, (flat l)[j]? = some c → (news.getD j Go.undef).oneCell' = true ∧ Rep pub w c (news.getD j Go.undef) := by
 have empty : ∀ ad cap, v = .slice ad 0 cap → l = [] → (∃ cap, v = .slice none 0 cap ∧ l = []) ∨ ∃ ad cap, ∃ news : List Value, v = .slice (some ad) l.length cap ∧ news.length = l.length * sz ∧ (∀ j u, news[j]? = some u → w.cell? (ad.add j) = some u) ∧ (∀ u ∈ news, u.oneCell' = true) ∧
   ∀ (j : Nat) c, (flat l)[j]? = some c → (news.getD j Go.undef).oneCell' = true ∧ Rep pub w c (news.getD j Go.undef) := by
  intro ad cap hv hl0
  subst hl0
  cases ad with
  | none => exact .inl ⟨cap, hv, rfl⟩
  | some ad => exact .inr ⟨ad, cap, [], hv, by simp, by simp, by simp, by simp⟩
 cases hl with
 | pure =>
  have := hv.slice_inv
  cases this with
  | slice0 ad cap => exact empty ad cap rfl rfl
  | slice b o cap sz' _ W hsz' hcap hmx hd hc =>
   by_cases hl0 : l = []
   ·exact empty (some ⟨b, o, none⟩) cap (by rw [hl0]; rfl) hl0
   ·have hfl := flat_length hsz
    refine .inr ⟨_, cap, (List.range (l.length * sz)).map W, rfl, by simp, fun j u hj => ?_, fun u hu => ?_, fun j c hj => ?_⟩
    ·simp only [List.getElem?_map, Option.map_eq_some_iff] at hj
     obtain ⟨i, hi, rfl⟩ := hj
     have hlt : j < l.length * sz := by have := (List.getElem?_eq_some_iff.1 hi).1; simpa using this
     obtain rfl : i = j := by simp [hlt] at hi; exact hi.symm
     rw [Addr.add_lit]
     exact (hd i _ (List.getElem?_eq_getElem (by omega))).2.1
    ·simp only [List.mem_map, List.mem_range] at hu
     obtain ⟨i, hi, rfl⟩ := hu
     exact (hd i _ (List.getElem?_eq_getElem (by omega))).2.2
    ·have hlt : j < l.length * sz := by rw [← hfl]; exact (List.getElem?_eq_some_iff.1 hj).1
     have : ((List.range (l.length * sz)).map W).getD j Go.undef = W j := by simp [hlt]
     rw [this]
     exact ⟨(hd j c hj).2.2, hc j c hj⟩
 | nils => exact empty none 0 hv.nils_inv rfl
 | own n k x e sz' _ hm hk =>
  obtain ⟨x', e', sz'', l', hm', _, hv'⟩ := hv.own_inv
  rw [hm] at hm'; cases hm'
  have hmn := h.mem n
  rw [hm] at hmn
  cases hmn with
  | obj _ _ _ _ xs hsz0 hmx hl how hp hq hc =>
   rcases how.1.2 with ⟨h1, h2⟩ | ⟨g, cap, cur, h1, hB, hh, hnc, hcm, hcs, htake⟩
   ·exact empty none 0 (by rw [hv' hk, h1]) (List.eq_nil_of_length_eq_zero h2)
   ·by_cases hl0 : l = []
    ·exact empty _ _ (by rw [hv' hk, h1, hl0]; rfl) hl0
    ·have hszz : sz' = sz := by
      obtain ⟨y, hy⟩ := List.exists_mem_of_ne_nil l hl0
      rw [← hl y hy, hsz y hy]
     subst hszz
     have hfl := flat_length hl
     refine .inr ⟨_, cap, xs, by rw [hv' hk, h1], how.1.1, fun j u hj => ?_, fun u hu => ?_, hc⟩
     ·exact how.1.cells (g := g) (by rw [h1]; rfl) j u hj
     ·obtain ⟨j, hj⟩ := List.mem_iff_getElem?.1 hu
      have hlt := (List.getElem?_eq_some_iff.1 hj).1
      have hx := how.1.1
      have := (hc j _ (List.getElem?_eq_getElem (by omega))).1
      simpa [hj] using this

theorem run_append_own2 {base : Nat} {t ty e : TypeId} {i : TypeInfo} {z : Value} {size bytes : Nat} (ht : P.underlying t = some (.slice e)) (hi : P.info? e = some i) (hz : i.zero = some z)
  (hsize : i.size = size) (hby : i.bytes = bytes) (hzs : z.cells.size = size) (hsz : 0 < size) {v : Value} {n : Nat} {xs : List Value} (hown : w.ownsRow base e size v n xs)
  {ad : Addr} {m c : Nat} {news : List Value} (hl : news.length = m * size) (hnews : ∀ j u, news[j]? = some u → w.cell? (ad.add j) = some u) (h1 : ∀ u ∈ news, u.oneCell' = true)
  (h63 : n + m ≤ maxLen) (hbytes : (n + m) * bytes ≤ 140737488355328) (hbase : base ≤ w.heap.size) :
  ∃ v' w', (Builtin.append_ #[t, t] ty #[v, .slice (some ad) m c]).run P w = .ok v' w' ∧ w'.ownsRow base e size v' (n + m) (xs ++ news) ∧ w.grownBy w' v.ownBlock ∧
   (m = 0 → v' = v) ∧ (v'.ownBlock = v.ownBlock ∨ ∀ g, v'.ownBlock = some g → w.heap.size ≤ g) ∧ (∀ g o, v.ownBlock = some g → o < n * size → w'.cell? ⟨g, o, none⟩ = w.cell? ⟨g, o, none⟩) ∧ (∀ g o, v.ownBlock = some g → w'.frozen? ⟨g, o, none⟩ = w.frozen? ⟨g, o, none⟩) := by
 obtain ⟨v', w', hr, ho, hg, hnil⟩ := run_append_own w base t ty e i z size bytes ht hi hz hsize hby hzs hsz v n xs hown ad m c news hl hnews h1 h63 hbytes hbase
 refine ⟨v', w', hr, ho, hg, ?_⟩
 subst hsize
 subst hby
 rcases hown.2 with ⟨rfl, rfl⟩ | ⟨g, cap, cur, rfl, hbg, hh, hnc, hcm, hcs, htake⟩
 ·refine ⟨fun hm => hnil.2 ⟨rfl, hm⟩, ?_, (fun g o hg => by cases hg), (fun g o hg => by cases hg)⟩
  by_cases hm : m = 0
  ·exact .inl (by rw [hnil.2 ⟨rfl, hm⟩])
  ·have hr2 := run_append_nil (P := P) w t ty e i z ht hi hz ad m c news hl hnews (by omega) (by simp only [maxLen] at h63; omega) (by simp only [Nat.zero_add] at hbytes; omega)
   rw [hr2] at hr
   injection hr with hr1 hr3
   subst hr1
   exact .inr fun g hg => by simp [Value.ownBlock] at hg; omega
 ·by_cases hroom : n + m ≤ cap
  ·have hfit : n * i.size + news.length ≤ cur.size := by rw [hl, hcs, ← Nat.add_mul]; exact Nat.mul_le_mul_right _ hroom
   have hr2 := run_append_room (P := P) w t ty e i ht hi g n cap cur hh ad m c news hl hnews h1 hroom hfit
   rw [hr2] at hr
   injection hr with hr1 hr3
   subst hr1
   subst hr3
   refine ⟨fun hm => by rw [hm]; simp, .inl rfl, fun g' o hg' ho => ?_, fun g' o hg' => ?_⟩
   rotate_left
   ·simp [Value.ownBlock] at hg'
    subst hg'
    unfold World.frozen?
    simp only [setRow_heap w g cur _ e (0, 0) hh, hh]
   simp [Value.ownBlock] at hg'
   subst hg'
   rw [cell_of_row _ g o _ e (0, 0) (setRow_heap w g cur _ e (0, 0) hh), cell_of_row w g o cur e (0, 0) hh]
   have : o < (cur.toList.take (n * i.size)).length := by simp; omega
   simp only [List.getElem?_toArray, List.append_assoc]
   rw [List.getElem?_append_left this, List.getElem?_take_of_lt ho, Array.getElem?_toList]
  ·have holds : ∀ j u, xs[j]? = some u → w.cell? ((⟨g, 0, none⟩ : Addr).add j) = some u := hown.cells (g := g) rfl
   have hr2 := run_append_grow (P := P) w t ty e i z ht hi hz ⟨g, 0, none⟩ n cap xs hown.1 holds ad m c news hl hnews (by omega) (by simp only [maxLen] at h63; omega) (growslice_fits (by omega) hbytes)
   rw [hr2] at hr
   injection hr with hr1 hr3
   subst hr1
   subst hr3
   refine ⟨fun hm => by omega, .inr fun g' hg' => by simp [Value.ownBlock] at hg'; omega, fun g' o hg' ho => ?_, fun g' o hg' => ?_⟩
   rotate_left
   ·simp [Value.ownBlock] at hg'
    subst hg'
    have hlt : g < w.heap.size := (Array.getElem?_eq_some_iff.1 hh).1
    refine frozenOB' ?_
    show (w.drew.heap.push _)[g]? = w.heap[g]?
    have hlt2 : g < w.drew.heap.size := hlt
    rw [Array.getElem?_push_lt hlt2]
    exact (Array.getElem?_eq_getElem hlt2).symm
   simp [Value.ownBlock] at hg'
   subst hg'
   have hlt : g < w.heap.size := (Array.getElem?_eq_some_iff.1 hh).1
   exact (World.cell?_alloc_past _ _ _ (by simpa using hlt)).trans rfl

theorem Rel0.appendOwn (h : Rel0 N w0 pub V s a w) {n : Nat} (hn63 : n % 64 ≠ 63) {x : Bool} {e sz : Nat} {l : List PV} (hm : s.mem n = .obj x e sz l) {t bytes : Nat} {ty : TypeId} (he : eltOf P t = some (e, sz, bytes)) {z : List PV} (hz : zeroPV P e = some z) (hzl : z.length = sz)
  {q : PV} {lb : List PV} {R : List Nat} (hq : Lst s.mem q lb R) (hlb : ∀ e ∈ lb, e.cells.length = sz) {u : Value} (hu : RV pub w V s.mem q u) (hbd : (l.length + lb.length) * bytes ≤ 140737488355328) (hb63 : l.length + lb.length ≤ 4611686018427387904) :
  ∃ v' w', (Builtin.append_ #[t, t] ty #[V n, u]).run P w = .ok v' w' ∧ ∃ pub', (∀ b o, pub b o → pub' b o) ∧ (∀ b o, pub' b o → pub b o ∨ w0.O b) ∧
   Rel0 N w0 pub' (updV V n v') { s with mem := upd s.mem n (.obj x e sz (l ++ lb)) } a w' := by
 obtain ⟨hu1, i, hi, hi1, hi2⟩ := eltOf_spec he
 obtain ⟨zv, hzv, hzs, _⟩ := zeroPV_spec (P := P) (w := w) (pub := pub) (V := V) hz
 have hiz : i.zero = some zv := by
  simp only [zeroValue, typeInfo, Sem.run_bind, run_program, Result.andThen_ok, hi, Sem.run_pure] at hzv
  cases hzz : i.zero with
  | none => simp [hzz] at hzv
  | some z' => simp [hzz] at hzv; rw [hzv]
 have hmn := h.mem n
 rw [hm] at hmn
 have hmax : l.length + lb.length ≤ maxLen := by simp only [maxLen]; omega
 cases hmn with
 | obj _ _ _ _ xs hs0 hmx hl how hp hq' hc =>
  have hbo : blockOf (V n) = (V n).ownBlock := by
   rcases how.1.2 with ⟨h1, _⟩ | ⟨g, cap, cur, h1, _⟩ <;> rw [h1] <;> rfl
  rcases hq.src h hu hlb with ⟨cap, hv, hl0⟩ | ⟨ad, cap, news, hv, hnl, hnews, hn1, hnr⟩
  ·subst hl0
   have hrun : (Builtin.append_ #[t, t] ty #[V n, u]).run P w = .ok (V n) w := by
    rw [hv]
    rcases how.1.2 with ⟨h1, h2⟩ | ⟨g, cap', cur, h1, hB, hh, hnc, _⟩
    ·rw [h1]
     simp [Builtin.append_, run_underlying hu1, sizeOf, typeInfo, hi, Builtin.lenOf, Builtin.firstCells]
    ·rw [h1]
     simp [Builtin.append_, run_underlying hu1, sizeOf, typeInfo, hi, Builtin.lenOf, Builtin.firstCells, hnc, storeCells]
   refine ⟨V n, w, hrun, pub, fun _ _ h => h, fun _ _ h => .inl h, ?_⟩
   have e1 : upd s.mem n (.obj x e sz (l ++ [])) = s.mem := by
    funext k; by_cases hk : k = n
    ·subst hk; simp [upd, hm]
    ·simp [upd, hk]
   rw [updV_self, e1]; exact h
  ·obtain ⟨v', w', hr, ho, hg, hm0, hblk, hpre, hfro⟩ := run_append_own2 (P := P) (ty := ty) hu1 hi hiz hi1 hi2 (hzs.trans hzl) hs0 (how.1.plain (eltOf_lt he)) hnl hnews hn1 hmax hbd (Nat.zero_le _)
   have hoB : ∀ g, v'.ownBlock = some g → w0.O g := fun g hg' => by
    rcases hblk with hbb | hbb
    ·exact how.2 g (hbb ▸ hg')
    ·exact .inl (Nat.le_trans h.below.size (hbb g hg'))
   rw [← hv] at hr
   have hbo' : blockOf v' = v'.ownBlock := by
    rcases ho.2 with ⟨h1, _⟩ | ⟨g, cap, cur, h1, _⟩ <;> rw [h1] <;> rfl
   have hfl := flat_length hl
   refine ⟨v', w', hr, fun b o => pub b o ∨ (x = false ∧ v'.ownBlock = some b ∧ o < (l ++ lb).length * sz), fun b o h => .inl h, fun b o ho' => ho'.imp id fun h => hoB b h.2.1, ?_⟩
   have hcells : ∀ b o, pub b o → w'.cell? ⟨b, o, none⟩ = w.cell? ⟨b, o, none⟩ := fun b o hpb => by
    by_cases hbn : (V n).ownBlock = some b
    ·exact hpre b o hbn (hp b o hbn hpb).2
    ·exact World.cell?_of_block (a := ⟨b, o, none⟩) (hg.block b (h.pubLt b o hpb) (fun e => hbn e.symm))
   refine h.touch n (by rw [hm]; intro e; cases e) v' (fun e => absurd e hn63) (.obj x e sz (l ++ lb)) (fun e => by cases e) (by intro s' o e; rw [hm] at e; cases e) (fun s' o e => by cases e) hg.size hg.os hg.tape hg.output (fun k hk hne => hg.block k hk (fun e => hne (by rw [hbo]; exact e.symm)))
    (fun b o h => .inl h) (fun b o ho' => ho'.imp id fun h => by rw [hbo']; exact h.2.1) (fun b hb => (ho.lt b (hbo' ▸ hb)).2) hcells (fun b o hpb => by
    by_cases hbn : (V n).ownBlock = some b
    ·exact hfro b o hbn
    ·exact frozenOB' (hg.block b (h.pubLt b o hpb) (fun e => hbn e.symm)))
    (by rw [hbo, hbo']; exact hblk) (fun q u hq => refs_obj hm (by simp) (fun hle => hm0 (by simpa using hle)) hq) (fun t => ?_)
   refine .obj x e sz _ (xs ++ news) hs0 (by rw [List.length_append]; exact hmax) (fun e' he' => ?_) (by rw [List.length_append]; exact ⟨.of ho (eltOf_lt he), hoB⟩) (fun g o hg' ho' => ?_) (fun hx g o hg' ho' => .inr ⟨hx, hg', ho'⟩) (fun k c hk => ?_)
   ·rcases List.mem_append.1 he' with h' | h'
    ·exact hl e' h'
    ·exact hlb e' h'
   ·rcases ho' with ho' | ho'
    ·rcases hblk with hbb | hbb
     ·have h1 := hp g o (hbb ▸ hg') ho'
      refine ⟨h1.1, Nat.lt_of_lt_of_le h1.2 (Nat.mul_le_mul_right _ (by simp))⟩
     ·have h1 := hbb g hg'
      have h2 := h.pubLt g o ho'
      omega
    ·exact ⟨ho'.1, ho'.2.2⟩
   ·rw [flat_append] at hk
    have hxs := how.1.1
    by_cases hlt : k < (flat l).length
    ·rw [List.getElem?_append_left hlt] at hk
     have h1 := hc k c hk
     have h2 : (xs ++ news).getD k Go.undef = xs.getD k Go.undef := by
      simp [List.getElem?_append_left (show k < xs.length by omega)]
     rw [h2]; exact ⟨h1.1, t.rep h1.2⟩
    ·rw [List.getElem?_append_right (by omega)] at hk
     have h1 := hnr _ c hk
     have h2 : (xs ++ news).getD k Go.undef = news.getD (k - (flat l).length) Go.undef := by
      simp [List.getElem?_append_right (show xs.length ≤ k by omega), hxs, hfl]
     rw [h2]; exact ⟨h1.1, t.rep h1.2⟩
end
end Go.Px
namespace Go.Px
set_option linter.unusedSimpArgs false
set_option linter.unusedVariables false
open Go.RowKit
section
variable {P : Program} {N : Nat} {w0 : Base P} {w w' : World} {pub pub' : Nat → Nat → Prop} {V : Nat → Value} {s : St} {a : Act}
theorem Rel0.spliceObj (h : Rel0 N w0 pub V s a w) {n e sz' : Nat} {l l' : List PV} (hm : s.mem n = .obj true e sz' l) {g cap : Nat} (hb : V n = .slice (some ⟨g, 0, none⟩) l.length cap) (vs : List Value) (cs : List PV) (o : Nat) (hlen : vs.length = cs.length) (hfit : o + vs.length ≤ l.length * sz') (hnewl : ∀ q ∈ l', q.cells.length = sz') (hl' : l'.length = l.length)
  (hflat : flat l' = (flat l).take o ++ cs ++ (flat l).drop (o + cs.length)) (hcells : ∀ (j : Nat) c, cs[j]? = some c → (vs.getD j Go.undef).oneCell' = true ∧ Rep pub w c (vs.getD j Go.undef)) :
  ∃ w', (storeCells ⟨g, o, none⟩ vs).run P w = .ok () w' ∧ Rel0 N w0 pub V { s with mem := upd s.mem n (.obj true e sz' l') } a w' := by
 have hmn := h.mem n
 rw [hm] at hmn
 cases hmn with
 | obj _ _ _ _ xs hs0 hmx hl how hp hq hc =>
  have hown := how
  rw [hb] at hown
  rcases how.1.2 with ⟨hv0, h0'⟩ | ⟨g', cap', cur, hv0, hB, ⟨fr, hh, hfr⟩, hnc, hcm, hcs, htake⟩
  ·rw [hb] at hv0; cases hv0
  ·rw [hb] at hv0
   simp only [Value.slice.injEq, Option.some.injEq, Addr.mk.injEq, and_true, true_and] at hv0
   obtain ⟨rfl, rfl⟩ := hv0
   have hcap : l.length * sz' ≤ cap * sz' := Nat.mul_le_mul_right _ hnc
   have h1 : ∀ u ∈ vs, u.oneCell' = true := fun u hu => by
    obtain ⟨j, hj⟩ := List.mem_iff_getElem?.1 hu
    have hlt : j < vs.length := (List.getElem?_eq_some_iff.1 hj).1
    have := (hcells j _ (List.getElem?_eq_getElem (by omega))).1
    simpa [hj] using this
   have hcl : cur.toList.length = cap * sz' := by simp [hcs]
   have hst := run_storeCells_atG P g o (tyOf e) e fr vs 0 cur w hh hfr (by omega) h1
   simp only [Nat.add_zero] at hst
   refine ⟨_, hst, ?_⟩
   have hfl := flat_length hl
   have hxs := how.1.1
   have hnewx : ((cur.toList.take o ++ vs ++ cur.toList.drop (o + vs.length))).take (l.length * sz') = xs.take o ++ vs ++ xs.drop (o + vs.length) := by
    have := take_splice cur.toList vs o (l.length * sz') (by omega) (by omega)
    rw [this, htake]
   have hrel := h.touch (pub' := pub) (w' := w.setRow g (cur.toList.take o ++ vs ++ cur.toList.drop (o + vs.length)).toArray) n (by rw [hm]; intro e; cases e) (V n) (fun _ => rfl) (.obj true e sz' l') (fun e => by cases e) (by intro s' o e; rw [hm] at e; cases e) (fun s' o e => by cases e)
    (by simp) rfl rfl rfl (fun k _ hk => setRow_other w g k _ (fun e => hk (by rw [hb, e]; rfl))) (fun _ _ h => h) (fun _ _ h => .inl h)
    (fun k hk => by rw [hb] at hk; simp [blockOf] at hk; subst hk; simp; exact (Array.getElem?_eq_some_iff.1 hh).1)
    (fun k o ho => World.cell?_of_block (a := ⟨k, o, none⟩) (setRow_other w g k _ (fun e => by subst e; have := (hp k o (by rw [hb]; rfl) ho).1; cases this)))
    (fun k o ho => frozenOB' (setRow_other w g k _ (fun e => by subst e; have := (hp k o (by rw [hb]; rfl) ho).1; cases this)))
    (.inl rfl) (fun q u hq => refs_obj hm (by omega) (fun _ => rfl) hq)
    (fun t => by
     refine .obj true e sz' _ (xs.take o ++ vs ++ xs.drop (o + vs.length)) hs0 (by rw [hl']; exact hmx) hnewl ⟨⟨by simp only [List.length_append, List.length_take, List.length_drop]; rw [hl']; omega, .inr ⟨g, cap, _, by rw [hb, hl'], hB, ⟨fr, setRow_heap w g cur _ (tyOf e) fr hh, hfr.size (by simp only [List.size_toArray, List.length_append, List.length_take, List.length_drop]; omega)⟩, by rw [hl']; exact hnc, hcm, by simp only [List.size_toArray, List.length_append, List.length_take, List.length_drop]; omega, ?_⟩⟩, fun g' hg' => how.2 g' hg'⟩ (fun g' o' hg' ho => ?_) (fun hx => by cases hx) (fun k c hk => ?_)
     ·rw [hl']; exact hnewx
     ·have := (hp g' o' hg' ho).1; cases this
     ·rw [hflat] at hk
      have hs2 := splice_get (flat l) cs o k (by omega)
      rw [hs2] at hk
      have hs1 := splice_get xs vs o k (by omega)
      have hget : ∀ (L : List Value), L.getD k Go.undef = (L[k]?).getD Go.undef := fun L => by simp
      rw [hget, hs1]
      by_cases h1 : k < o
      ·rw [if_pos h1] at hk ⊢
       have := hc k c hk
       exact ⟨by simpa using this.1, t.rep (by simpa using this.2)⟩
      ·rw [if_neg h1] at hk ⊢
       by_cases h2 : k < o + cs.length
       ·rw [if_pos h2] at hk
        rw [if_pos (by omega)]
        have := hcells (k - o) c hk
        exact ⟨by simpa using this.1, t.rep (by simpa using this.2)⟩
       ·rw [if_neg h2] at hk
        rw [if_neg (by omega)]
        have := hc k c hk
        exact ⟨by simpa using this.1, t.rep (by simpa using this.2)⟩)
   rw [updV_self] at hrel
   exact hrel
theorem flat_mid {sz : Nat} {l : List PV} (hl : ∀ e ∈ l, e.cells.length = sz) {i j : Nat} (hij : i ≤ j) (hj : j ≤ l.length) (m : List PV) (hm : (flat m).length = (j - i) * sz) :
  flat (l.take i ++ m ++ l.drop j) = (flat l).take (i * sz) ++ flat m ++ (flat l).drop (i * sz + (flat m).length) := by
 have h1 : flat l = flat (l.take i) ++ flat (l.drop i) := by rw [← flat_append, List.take_append_drop]
 have h2 : (flat (l.take i)).length = i * sz := by rw [flat_length (fun e he => hl e (List.mem_of_mem_take he)), List.length_take, Nat.min_eq_left (by omega)]
 have h3 : flat l = flat (l.take j) ++ flat (l.drop j) := by rw [← flat_append, List.take_append_drop]
 have h4 : (flat (l.take j)).length = j * sz := by rw [flat_length (fun e he => hl e (List.mem_of_mem_take he)), List.length_take, Nat.min_eq_left (by omega)]
 have h5 : i * sz + (flat m).length = j * sz := by rw [hm, ← Nat.add_mul]; congr 1; omega
 rw [flat_append, flat_append, h5]
 congr 1
 ·congr 1
  rw [h1, List.take_left' h2]
 ·rw [h3, List.drop_left' h4]
end
end Go.Px
namespace Go.Px
set_option linter.unusedSimpArgs false
set_option linter.unusedVariables false
open Go.RowKit

def fldPlaces (P : Program) (t : TypeId) : Option (List (Nat × Nat)) :=
 match P.underlying t with
 | some (.struct fs) => fs.toList.mapM fun f => (P.info? f.type).map fun i => (f.offset, i.size)
 | _ => none

def flatFs (P : Program) : Nat → List Field → Option (List Nat)
 | _, [] => some []
 | i, f :: fs =>
  if f.name ≠ "_" ∧ f.offset = i then
   match P.underlying f.type with
   | some (.int _) => (flatFs P (i + 1) fs).map (0 :: ·)
   | some .bool => (flatFs P (i + 1) fs).map (1 :: ·)
   | some .string => (flatFs P (i + 1) fs).map (2 :: ·)
   | _ => none
  else none
def flatOf (P : Program) (t : TypeId) : Option (List Nat) :=
 match P.underlying t with
 | some (.struct fs) => if P.stoodInHeld t = false ∧ P.eqGuardType P.depth t = false then flatFs P 0 fs.toList else none
 | _ => none
def eqLit : Nat → PV → PV → Option Bool
 | 0, .lit (.int .i64 a), .lit (.int .i64 b) => some (a == b)
 | 1, .lit (.bool a), .lit (.bool b) => some (a == b)
 | 2, .lit (.string a), .lit (.string b) => some (a == b)
 | _, _, _ => none
def eqLits : List Nat → List PV → List PV → Option Bool
 | [], [], [] => some true
 | k :: ks, x :: xs, y :: ys => match eqLit k x y with
  | some a => match eqLits ks xs ys with
   | some r => some (a && r)
   | none => none
  | none => none
 | _, _, _ => none

theorem eqLits_cons {k : Nat} {ks : List Nat} {cs ds : List PV} {r : Bool} (h : eqLits (k :: ks) cs ds = some r) : ∃ x y xs ys a r', cs = x :: xs ∧ ds = y :: ys ∧ eqLit k x y = some a ∧ eqLits ks xs ys = some r' ∧ r = (a && r') := by
 match cs, ds with
 | [], _ => simp [eqLits] at h
 | _ :: _, [] => simp [eqLits] at h
 | x :: xs, y :: ys =>
  simp only [eqLits] at h
  split at h <;> try cases h
  split at h <;> cases h
  exact ⟨_, _, _, _, _, _, rfl, rfl, by assumption, by assumption, rfl⟩
theorem eqLit_int {x y : PV} {r : Bool} (h : eqLit 0 x y = some r) : ∃ a b : Int, x = .lit (.int .i64 a) ∧ y = .lit (.int .i64 b) ∧ r = (a == b) := by
 unfold eqLit at h
 split at h <;> first | (cases h; done) | (rename_i hk; exact absurd hk (by decide)) | exact ⟨_, _, rfl, rfl, (Option.some.inj h).symm⟩
theorem eqLit_bool {x y : PV} {r : Bool} (h : eqLit 1 x y = some r) : ∃ a b : Bool, x = .lit (.bool a) ∧ y = .lit (.bool b) ∧ r = (a == b) := by
 unfold eqLit at h
 split at h <;> first | (cases h; done) | (rename_i hk; exact absurd hk (by decide)) | exact ⟨_, _, rfl, rfl, (Option.some.inj h).symm⟩
theorem eqLit_string {x y : PV} {r : Bool} (h : eqLit 2 x y = some r) : ∃ a b : ByteArray, x = .lit (.string a) ∧ y = .lit (.string b) ∧ r = (a == b) := by
 unfold eqLit at h
 split at h <;> first | (cases h; done) | (rename_i hk; exact absurd hk (by decide)) | exact ⟨_, _, rfl, rfl, (Option.some.inj h).symm⟩
theorem run_part_lit {P : Program} {w : World} {t : TypeId} {xs : Array Value} {i : Nat} {v : Value} {ds : TypeDesc} (ht : P.underlying t = some ds) (hd : (∃ k, ds = .int k) ∨ ds = .bool ∨ ds = .string) (h : xs[i]? = some v) : (part t xs i).run P w = .ok v w := by
 rcases hd with ⟨k, rfl⟩ | rfl | rfl <;> simp [part, isAgg, run_underlying ht, h]
theorem run_eqFields_flat {P : Program} {w : World} (d : Nat) {xs ys : Array Value} : ∀ (fs : List Field) (i : Nat) (ks : List Nat) (cs ds : List PV) (r : Bool), flatFs P i fs = some ks → eqLits ks cs ds = some r →
  (∀ j v, cs[j]? = some (.lit v) → xs[i + j]? = some v) → (∀ j v, ds[j]? = some (.lit v) → ys[i + j]? = some v) → (Op.eqFields (d + 1) xs ys fs).run P w = .ok r w
 | [], i, ks, cs, ds, r, hf, he, hx, hy => by
  simp only [flatFs, Option.some.injEq] at hf; subst hf
  match cs, ds with
  | [], [] => simp [eqLits] at he; subst he; simp [Op.eqFields]
  | [], _ :: _ => simp [eqLits] at he
  | _ :: _, _ => simp [eqLits] at he
 | f :: fs, i, ks, cs, ds, r, hf, he, hx, hy => by
  simp only [flatFs] at hf
  split at hf <;> rename_i hn
  ·obtain ⟨hn1, hn2⟩ := hn
   have hstep : ∀ (u v : Value) (cs' ds' : List PV) (ks' : List Nat) (e r' : Bool), cs = .lit u :: cs' → ds = .lit v :: ds' → flatFs P (i + 1) fs = some ks' → eqLits ks' cs' ds' = some r' → (∃ ty, P.underlying f.type = some ty ∧ ((∃ k, ty = .int k) ∨ ty = .bool ∨ ty = .string)) →
     (Op.equalIn (d + 1) f.type u v).run P w = .ok e w → (Op.eqFields (d + 1) xs ys (f :: fs)).run P w = .ok (e && r') w := by
    intro u v cs' ds' ks' e r' h1 h2 hk he' hty heq
    obtain ⟨ty, hu, hty⟩ := hty
    subst h1; subst h2
    have ih := run_eqFields_flat (w := w) d fs (i + 1) _ _ _ r' hk he' (fun j v hj => by have := hx (j + 1) v (by simpa using hj); rw [← this]; congr 1; omega) (fun j v hj => by have := hy (j + 1) v (by simpa using hj); rw [← this]; congr 1; omega)
    have h1 := hx 0 _ rfl
    have h2 := hy 0 _ rfl
    rw [Nat.add_zero] at h1 h2
    simp only [Op.eqFields, ne_eq, hn1, not_false_eq_true, if_true, hn2, Sem.run_bind]
    rw [run_part_lit hu hty h1, Result.andThen_ok, run_part_lit hu hty h2, Result.andThen_ok, heq, Result.andThen_ok]
    cases e
    ·simp
    ·simpa using ih
   split at hf
   ·rename_i hu
    obtain ⟨ks', hk, rfl⟩ := Option.map_eq_some_iff.1 hf
    obtain ⟨x, y, xs', ys', e, r', h1, h2, hl, h3, rfl⟩ := eqLits_cons he
    obtain ⟨a, b, rfl, rfl, rfl⟩ := eqLit_int hl
    exact hstep _ _ _ _ _ _ _ h1 h2 hk h3 ⟨_, hu, .inl ⟨_, rfl⟩⟩ (run_equalIn_int w d _ _ _ _ _ hu)
   ·rename_i hu
    obtain ⟨ks', hk, rfl⟩ := Option.map_eq_some_iff.1 hf
    obtain ⟨x, y, xs', ys', e, r', h1, h2, hl, h3, rfl⟩ := eqLits_cons he
    obtain ⟨a, b, rfl, rfl, rfl⟩ := eqLit_bool hl
    exact hstep _ _ _ _ _ _ _ h1 h2 hk h3 ⟨_, hu, .inr (.inl rfl)⟩ (run_equalIn_bool' w d _ _ _ hu)
   ·rename_i hu
    obtain ⟨ks', hk, rfl⟩ := Option.map_eq_some_iff.1 hf
    obtain ⟨x, y, xs', ys', e, r', h1, h2, hl, h3, rfl⟩ := eqLits_cons he
    obtain ⟨a, b, rfl, rfl, rfl⟩ := eqLit_string hl
    exact hstep _ _ _ _ _ _ _ h1 h2 hk h3 ⟨_, hu, .inr (.inr rfl)⟩ (by rw [beq_toListBytes]; exact run_equalIn_string w d _ _ _ hu)
   ·cases hf
  ·cases hf
theorem run_eqAgg {P : Program} {w : World} {t : TypeId} {x y : Operand} {ks : List Nat} {cs ds : List PV} {r : Bool} {xs ys : Array Value} (hf : flatOf P t = some ks) (he : eqLits ks cs ds = some r)
  (hx : ∀ (j : Nat) v, cs[j]? = some (.lit v) → xs[j]? = some v) (hy : ∀ (j : Nat) v, ds[j]? = some (.lit v) → ys[j]? = some v) :
  (do eqGuard .eql t x y (.agg xs) (.agg ys); binOp .eql t (.agg xs) (.agg ys) : Sem Value).run P w = .ok (.bool r) w ∧ (do eqGuard .neq t x y (.agg xs) (.agg ys); binOp .neq t (.agg xs) (.agg ys) : Sem Value).run P w = .ok (.bool (!r)) w := by
 unfold flatOf at hf
 split at hf <;> try cases hf
 rename_i fs hu
 split at hf <;> try cases hf
 rename_i hg
 have hfs : P.fieldsOf t = fs := by simp [Program.fieldsOf, hu]
 have h1 : (Op.equalIn 10000 t (.agg xs) (.agg ys)).run P w = .ok r w := by
  rw [run_equalIn_struct w 9999 t xs ys (by rw [hfs]; exact hu) hg.1, hfs]
  exact run_eqFields_flat 9998 fs.toList 0 ks cs ds r hf he (fun j v hj => by rw [Nat.zero_add]; exact hx j v hj) (fun j v hj => by rw [Nat.zero_add]; exact hy j v hj)
 constructor
 ·rw [Sem.run_bind, run_eqGuard_agg w .eql t x y xs ys hg.2, Result.andThen_ok, run_eql_struct, h1]; rfl
 ·rw [Sem.run_bind, run_eqGuard_agg w .neq t x y xs ys hg.2, Result.andThen_ok, run_neq_struct, h1]; rfl

def zc : PV → PV
 | .nils => .slice []
 | p => p
theorem zc_at {cs z : List PV} (h : cs = z ∨ cs = z.map zc) : cs.length = z.length ∧ ∀ (j : Nat) c, cs[j]? = some c → ∃ c', z[j]? = some c' ∧ (c = c' ∨ c = zc c') := by
 rcases h with rfl | rfl
 ·exact ⟨rfl, fun j c h => ⟨c, h, .inl rfl⟩⟩
 ·refine ⟨by simp, fun j c h => ?_⟩
  rw [List.getElem?_map, Option.map_eq_some_iff] at h
  obtain ⟨c', h1, h2⟩ := h
  exact ⟨c', h1, .inr h2.symm⟩
theorem zc_rep {pub : Nat → Nat → Prop} {w : World} {p : PV} {v : Value} (h : Rep pub w p v) : Rep pub w (zc p) v := by
 cases p with
 | nils => cases h; exact .slice0 none 0
 | _ => exact h

def isPtr : PV → Bool
 | .lptr _ _ => true | .cptr _ _ => true | _ => false

def bitsPV (op : BinOp) (k : IntKind) (a b : Int) : Option Int :=
 match op with
 | .and => some (k.wrap ((BitVec.ofInt k.bits a &&& BitVec.ofInt k.bits b).toNat))
 | .or => some (k.wrap ((BitVec.ofInt k.bits a ||| BitVec.ofInt k.bits b).toNat))
 | .xor => some (k.wrap ((BitVec.ofInt k.bits a ^^^ BitVec.ofInt k.bits b).toNat))
 | _ => none
def bytesL (b : ByteArray) : List Int := b.data.toList.map fun c => (c.toNat : Int)
def strB (xs : List Int) : ByteArray := xs.foldl (fun r n => r.push (UInt8.ofNat n.toNat)) ByteArray.empty
def yw (sk : Bool) (c : Nat) (p : PV) : PV := bif sk then .ysk c p else .yng c p
def wrapY (sk : Bool) (c : Nat) : PV → PV
 | .lit v => bif sk then .undef else .lit v
 | p => yw sk c p
inductive AOp (P : Program) (σ : Operand → PV) (m : Nat → PV) (d : Nat) : Op → PV → List (Nat × PV) → List Nat → Prop where
 | move (x : Operand) (v : PV) (hv : σ x = v) : AOp P σ m d (.move x) v [] []
 | assign (x : Operand) (v : PV) (hv : σ x = v) : AOp P σ m d (.assign x) v [] []
 | pick (c x y : Operand) (b : Bool) (v : PV) (hc : σ c = .lit (.bool b)) (hv : (if b then σ x else σ y) = v) : AOp P σ m d (.pick c x y) v [] []
 | bin (op : BinOp) (t t' : TypeId) (x y : Operand) (p q v : PV) (hx : σ x = p) (hy : σ y = q) (hk : sameKind p q = true) (hv : binPV op p q = some v)
   (hs : ∀ b c, p = .lit (.string b) → q = .lit (.string c) → op = .add → b.size + c.size ≤ 9223372036854775807) : AOp P σ m d (.binOp op t x y t') v [] []
 | neqErr (t t' : TypeId) (x : Operand) (ms : Array (String × TypeId)) (ht : P.underlying t = some (.interface ms)) {b : Bool} (hx : σ x = .err b) : AOp P σ m d (.binOp .neq t x (.const .nilIface) t') (.lit (.bool b)) [] []
 | neqNil (t t' : TypeId) (x : Operand) (ms : Array (String × TypeId)) (ht : P.underlying t = some (.interface ms)) (hx : σ x = .lit .nilIface) : AOp P σ m d (.binOp .neq t x (.const .nilIface) t') (.lit (.bool false)) [] []
 | eqlBool (t t' : TypeId) (x y : Operand) (a b : Bool) (ht : P.underlying t = some .bool) (hx : σ x = .lit (.bool a)) (hy : σ y = .lit (.bool b)) : AOp P σ m d (.binOp .eql t x y t') (.lit (.bool (a == b))) [] []
 | neqBool (t t' : TypeId) (x y : Operand) (a b : Bool) (ht : P.underlying t = some .bool) (hx : σ x = .lit (.bool a)) (hy : σ y = .lit (.bool b)) : AOp P σ m d (.binOp .neq t x y t') (.lit (.bool (a != b))) [] []
 | eqlAgg (t t' : TypeId) (x y : Operand) (ks : List Nat) (cs ds : List PV) (r : Bool) (hf : flatOf P t = some ks) (hx : σ x = .agg cs) (hy : σ y = .agg ds) (he : eqLits ks cs ds = some r) : AOp P σ m d (.binOp .eql t x y t') (.lit (.bool r)) [] []
 | neqAgg (t t' : TypeId) (x y : Operand) (ks : List Nat) (cs ds : List PV) (r : Bool) (hf : flatOf P t = some ks) (hx : σ x = .agg cs) (hy : σ y = .agg ds) (he : eqLits ks cs ds = some r) : AOp P σ m d (.binOp .neq t x y t') (.lit (.bool (!r))) [] []
 | eqlNilS (t t' : TypeId) (x : Operand) (e sz by' : Nat) (p : PV) (l : List PV) (R : List Nat) (ht : eltOf P t = some (e, sz, by')) (hx : σ x = p) (hl : Lst m p l R) (h0 : l ≠ [] ∨ p = .nils) : AOp P σ m d (.binOp .eql t x (.const (.slice none 0 0)) t') (.lit (.bool l.isEmpty)) [] R
 | eqlNilL (t t' : TypeId) (x : Operand) (e sz by' : Nat) (ad : Option Addr) (n cap : Nat) (ht : eltOf P t = some (e, sz, by')) (hx : σ x = .lit (.slice ad n cap)) : AOp P σ m d (.binOp .eql t x (.const (.slice none 0 0)) t') (.lit (.bool ad.isNone)) [] []
 | neqNilS (t t' : TypeId) (x : Operand) (e sz by' : Nat) (p : PV) (l : List PV) (R : List Nat) (ht : eltOf P t = some (e, sz, by')) (hx : σ x = p) (hl : Lst m p l R) (h0 : l ≠ [] ∨ p = .nils) : AOp P σ m d (.binOp .neq t x (.const (.slice none 0 0)) t') (.lit (.bool (!l.isEmpty))) [] R
 | un (op : UnOp) (t : TypeId) (x : Operand) (p v : PV) (hx : σ x = p) (hv : unPV op p = some v) : AOp P σ m d (.unOp op t x) v [] []
 | conv (t t' : TypeId) (x : Operand) (k k' : IntKind) (n : Int) (ht : P.underlying t' = some (.int k')) (hs : (P.underlying t).isSome = true) (hx : σ x = .lit (.int k n)) : AOp P σ m d (.convert t t' x) (.lit (.int k' (k'.wrap n))) [] []
 | load_l (t : TypeId) (x : Operand) (g : Bool) (sz n off : Nat) (y : Bool) (cs : List PV) (v : PV) (ht : shp P t = some (g, sz)) (hg : g = true ∨ sz = 1) (hx : σ x = .lptr n off) (hm : m n = .blk y cs) (hv : loadPV g sz off cs = some v) : AOp P σ m d (.load t x) v [] [n]
 | load_c (t : TypeId) (x : Operand) (g : Bool) (sz off : Nat) (cs : List PV) (v : PV) (ht : shp P t = some (g, sz)) (hg : g = true ∨ sz = 1) (hx : σ x = .cptr cs off) (hv : loadPV g sz off cs = some v) : AOp P σ m d (.load t x) v [] []
 | load_e (t : TypeId) (x : Operand) (g : Bool) (sz n k i off : Nat) (y : Bool) (e sz' : Nat) (l : List PV) (el v : PV) (ht : shp P t = some (g, sz)) (hg : g = true ∨ sz = 1) (hx : σ x = .eptr n k i off) (hm : m n = .obj y e sz' l) (hk : k = l.length) (hi : l[i]? = some el)
   (hv : loadPV g sz off el.cells = some v) : AOp P σ m d (.load t x) v [] [n]
 | store_l (t : TypeId) (x y : Operand) (g : Bool) (sz n off : Nat) (cs : List PV) (p : PV) (ht : shp P t = some (g, sz)) (hx : σ x = .lptr n off) (hm : m n = .blk true cs) (hy : σ y = p) (hc : Cur m p) (hsz : p.cells.length = sz) (hfit : off + sz ≤ cs.length) (R : List Nat) (hR : ∀ j k, p = .own j k → j ∈ R) :
   AOp P σ m d (.store t x y) .undef [(n, .blk true (cs.take off ++ p.cells ++ cs.drop (off + sz)))] (n :: R)
 | store_e (t : TypeId) (x y : Operand) (g : Bool) (sz n k i off e sz' : Nat) (l : List PV) (el p p' : PV) (R : List Nat) (ht : shp P t = some (g, sz)) (h0 : 0 < sz) (hx : σ x = .eptr n k i off) (hm : m n = .obj true e sz' l) (hk : k = l.length) (hi : l[i]? = some el) (hy : σ y = p)
   (hp : PurL m [p] [p'] R) (hsz : p'.cells.length = sz) (hfit : off + sz ≤ sz') : AOp P σ m d (.store t x y) .undef [(n, .obj true e sz' (l.set i (setEl el off p')))] (n :: R)
 | nilChk (x : Operand) (v : PV) (hx : σ x = v) (hp : isPtr v = true) : AOp P σ m d (.nilCheck x) v [] []
 | alloc (t : TypeId) (z : List PV) (hz : zeroPV P t = some z) (hm : m (64 * d) = .undef) : AOp P σ m d (.alloc t) (.lptr (64 * d) 0) [(64 * d, .blk true z)] [64 * d]
 | box (t : TypeId) (x : Operand) (p : PV) (R : List Nat) (hx : σ x = p) (hc : Cur m p) (hm : m (64 * d) = .undef) (hR : ∀ j k, p = .own j k → j ∈ R) : AOp P σ m d (.box t x) (.lptr (64 * d) 0) [(64 * d, .blk true p.cells)] (64 * d :: R)
 | build (t : TypeId) (parts : Array (Nat × Operand)) (z cs : List PV) (pl : List (Nat × Nat)) (ps : List PV) (R : List Nat) (hz : zeroPV P t = some z) (hpl : fldPlaces P t = some pl) (hps : parts.toList.map (fun x => σ x.2) = ps) (hc : ∀ p ∈ ps, Cur m p)
   (hR : ∀ p ∈ ps, ∀ j k, p = .own j k → j ∈ R) (hcs : fillPV (fun i => pl[i]?) z ((parts.toList.map (·.1)).zip ps) = some cs) : AOp P σ m d (.build t parts) (.agg cs) [] R
 | buildArr (t : TypeId) (parts : Array (Nat × Operand)) (z cs : List PV) (n sz : Nat) (ps : List PV) (R : List Nat) (hz : zeroPV P t = some z) (ha : arrOf P t = some (n, sz)) (hps : parts.toList.map (fun x => σ x.2) = ps) (hc : ∀ p ∈ ps, Cur m p)
   (hR : ∀ p ∈ ps, ∀ j k, p = .own j k → j ∈ R) (hcs : fillPV (fun i => some (i * sz, sz)) z ((parts.toList.map (·.1)).zip ps) = some cs) : AOp P σ m d (.build t parts) (.agg cs) [] R
 | buildSlice (y : Bool) (t len : Nat) (parts : Array (Nat × Operand)) (e sz by' : Nat) (ps ps' : List PV) (R : List Nat) (ht : eltOf P t = some (e, sz, by')) (hsz0 : 0 < sz) (hlen : len * sz ≤ 65536) (hz : (zeroPV P e).isSome = true) (hzl : ∀ z, zeroPV P e = some z → z.length = sz) (hidx : parts.toList.map (·.1) = List.range len)
   (hps : parts.toList.map (fun x => σ x.2) = ps) (hp : PurL m ps ps' R) (hsz : ∀ p ∈ ps', p.cells.length = sz) (hm : m (64 * d) = .undef) :
   AOp P σ m d (.buildSlice t len parts) (.own (64 * d) ps'.length) [(64 * d, .obj y e sz ps')] (64 * d :: R)
 | makeSlice (t : TypeId) (x y : Operand) (e sz by' : Nat) (z : List PV) (el : PV) (k k' : IntKind) (n : Int) (ht : eltOf P t = some (e, sz, by')) (hsz0 : 0 < sz) (hz : zeroPV P e = some z) (hel : el.cells = z ∨ el.cells = z.map zc) (hzl : z.length = sz) (hp : ∀ c ∈ z, c.plain = true) (hx : σ x = .lit (.int k n)) (hy : σ y = .lit (.int k' n))
   (h0 : 0 ≤ n) (hn : n ≤ 1099511627776) (hb : by' ≤ 128) (hm : m (64 * d) = .undef) : AOp P σ m d (.makeSlice t x y) (.own (64 * d) n.toNat) [(64 * d, .obj true e sz (List.replicate n.toNat el))] [64 * d]
 | makeFunc (f : FuncId) (caps : Array Operand) (ps ps' : List PV) (R : List Nat) (hps : caps.toList.map σ = ps) (hp : PurL m ps ps' R) : AOp P σ m d (.makeFunc (.func f) #[] caps) (.fn f ps') [] R
 | fieldAddr_l (t : TypeId) (x : Operand) (f n off o' : Nat) (ht : fldOff P t f = some o') (hx : σ x = .lptr n off) : AOp P σ m d (.fieldAddr t x f) (.lptr n (off + o')) [] []
 | fieldAddr_c (t : TypeId) (x : Operand) (f off o' : Nat) (cs : List PV) (ht : fldOff P t f = some o') (hx : σ x = .cptr cs off) : AOp P σ m d (.fieldAddr t x f) (.cptr cs (off + o')) [] []
 | fieldAddr_e (t : TypeId) (x : Operand) (f n k i off o' : Nat) (y : Bool) (e sz : Nat) (l : List PV) (ht : fldOff P t f = some o') (hx : σ x = .eptr n k i off) (hm : m n = .obj y e sz l) (hk : k = l.length) : AOp P σ m d (.fieldAddr t x f) (.eptr n k i (off + o')) [] [n]
 | field (t : TypeId) (x : Operand) (f : Nat) (cs : List PV) (pl : List (Nat × Nat)) (o' sz : Nat) (g : Bool) (ft : TypeId) (v : PV) (ht : (match P.underlying t with | some (.struct fs) => (fs[f]?).map (fun f => (f.type, f.offset)) | _ => none) = some (ft, o')) (hs : shp P ft = some (g, sz)) (hg : g = true ∨ sz = 1)
   (hx : σ x = .agg cs) (hv : loadPV g sz o' cs = some v) : AOp P σ m d (.field t x f) v [] []
 | indexAddr_s (t : TypeId) (x y : Operand) (e sz by' : Nat) (l : List PV) (k : IntKind) (i : Int) (el : PV) (ht : eltOf P t = some (e, sz, by')) (hx : σ x = .slice l) (hy : σ y = .lit (.int k i)) (h0 : 0 ≤ i) (hi : l[i.toNat]? = some el) (hsz : el.cells.length = sz) :
   AOp P σ m d (.indexAddr t x y) (.cptr el.cells 0) [] []
 | indexAddr_o (t : TypeId) (x y : Operand) (e sz by' n k' : Nat) (l : List PV) (k : IntKind) (i : Int) (el : PV) (ht : eltOf P t = some (e, sz, by')) (hx : σ x = .own n k') (hm : m n = .obj false e sz l) (hk : k' = l.length) (hy : σ y = .lit (.int k i)) (h0 : 0 ≤ i) (hi : l[i.toNat]? = some el) :
   AOp P σ m d (.indexAddr t x y) (.cptr el.cells 0) [] [n]
 | indexAddr_x (t : TypeId) (x y : Operand) (e sz by' ee n k' : Nat) (b : Bool) (l : List PV) (k : IntKind) (i : Int) (ht : eltOf P t = some (e, sz, by')) (hx : σ x = .own n k') (hm : m n = .obj b ee sz l) (hk : k' = l.length) (hy : σ y = .lit (.int k i)) (h0 : 0 ≤ i) (hi : i < l.length) :
   AOp P σ m d (.indexAddr t x y) (.eptr n k' i.toNat 0) [] [n]
 | indexAddr_a (t : TypeId) (x y : Operand) (len sz n off : Nat) (k : IntKind) (i : Int) (ht : arrOf P t = some (len, sz)) (hx : σ x = .lptr n off) (hy : σ y = .lit (.int k i)) (h0 : 0 ≤ i) (hi : i < len) : AOp P σ m d (.indexAddr t x y) (.lptr n (off + i.toNat * sz)) [] []
 | indexStr (t : TypeId) (x y : Operand) (b : ByteArray) (k : IntKind) (i : Int) (u : UInt8) (ht : P.underlying t = some .string) (hx : σ x = .lit (.string b)) (hy : σ y = .lit (.int k i)) (h0 : 0 ≤ i) (hi : b[i.toNat]? = some u) : AOp P σ m d (.index t x y) (.lit (.int .u8 u.toNat)) [] []
 | extract (x : Operand) (i : Nat) (vs : List PV) (v : PV) (hx : σ x = .tuple vs) (hv : vs[i]? = some v) : AOp P σ m d (.extract x i) v [] []
 | lenStr (t : TypeId) (x : Operand) (b : ByteArray) (ht : P.underlying t = some .string) (hx : σ x = .lit (.string b)) : AOp P σ m d (.call { callee := .builtin .len, args := #[x], argTypes := #[t] }) (.lit (.int .i64 b.size)) [] []
 | lenLst (t : TypeId) (x : Operand) (p : PV) (l : List PV) (R : List Nat) (e sz by' : Nat) (ht : eltOf P t = some (e, sz, by')) (hx : σ x = p) (hl : Lst m p l R) : AOp P σ m d (.call { callee := .builtin .len, args := #[x], argTypes := #[t] }) (.lit (.int .i64 l.length)) [] R
 | append (t : TypeId) (x y : Operand) (n k : Nat) (b : Bool) (e sz by' : Nat) (l lb : List PV) (z : List PV) (q : PV) (R : List Nat) (ht : eltOf P t = some (e, sz, by')) (hz : zeroPV P e = some z) (hzl : z.length = sz) (hx : σ x = .own n k) (hm : m n = .obj b e sz l) (hk : k = l.length) (hy : σ y = q)
   (hq : Lst m q lb R) (hlb : ∀ e ∈ lb, e.cells.length = sz) (hb : by' ≤ 128) (hn : l.length + lb.length ≤ 1099511627776) (h63 : n % 64 ≠ 63) : AOp P σ m d (.call { callee := .builtin .append, args := #[x, y], argTypes := #[t, t] }) (.own n (l.length + lb.length)) [(n, .obj b e sz (l ++ lb))] (n :: R)
 | appendNil (b : Bool) (t : TypeId) (x y : Operand) (e sz by' : Nat) (lb : List PV) (z : List PV) (q : PV) (R : List Nat) (ht : eltOf P t = some (e, sz, by')) (hsz : 0 < sz) (hz : zeroPV P e = some z) (hzl : z.length = sz) (hx : σ x = .nils) (hy : σ y = q)
   (hq : Lst m q lb R) (hlb : ∀ e ∈ lb, e.cells.length = sz) (hb : by' ≤ 128) (hn : lb.length ≤ 1099511627776) (hm : m (64 * d) = .undef) :
   AOp P σ m d (.call { callee := .builtin .append, args := #[x, y], argTypes := #[t, t] }) (.own (64 * d) lb.length) [(64 * d, .obj b e sz lb)] (64 * d :: R)
 | max2 (t t' : TypeId) (x y : Operand) (k : IntKind) (a b : Int) (hx : σ x = .lit (.int k a)) (hy : σ y = .lit (.int k b)) : AOp P σ m d (.call { callee := .builtin .max, args := #[x, y], argTypes := #[t, t'] }) (.lit (.int k (max a b))) [] []
 | min2 (t t' : TypeId) (x y : Operand) (k : IntKind) (a b : Int) (hx : σ x = .lit (.int k a)) (hy : σ y = .lit (.int k b)) : AOp P σ m d (.call { callee := .builtin .min, args := #[x, y], argTypes := #[t, t'] }) (.lit (.int k (min a b))) [] []
 | sliceStr (t : TypeId) (x : Operand) (b : ByteArray) (lo hi : Option Operand) (i j : Int) (ht : P.underlying t = some .string) (hx : σ x = .lit (.string b)) (hlo : (match lo with | some o => ∃ k, σ o = .lit (.int k i) | none => i = 0)) (hhi : (match hi with | some o => ∃ k, σ o = .lit (.int k j) | none => j = b.size))
   (h0 : 0 ≤ i) (h1 : i ≤ j) (h2 : j ≤ b.size) : AOp P σ m d (.slice t x lo hi none) (.lit (.string (b.extract i.toNat j.toNat))) [] []
 | sliceS (t : TypeId) (x : Operand) (l : List PV) (lo hi : Option Operand) (e sz by' : Nat) (i j : Int) (ht : eltOf P t = some (e, sz, by')) (hsz : ∀ e ∈ l, e.cells.length = sz) (hx : σ x = .slice l) (hlo : (match lo with | some o => ∃ k, σ o = .lit (.int k i) | none => i = 0)) (hhi : (match hi with | some o => ∃ k, σ o = .lit (.int k j) | none => j = l.length))
   (h0 : 0 ≤ i) (h1 : i ≤ j) (h2 : j ≤ l.length) : AOp P σ m d (.slice t x lo hi none) (.slice ((l.take j.toNat).drop i.toNat)) [] []
 | sliceO (t : TypeId) (x : Operand) (n k : Nat) (l : List PV) (lo hi : Option Operand) (e sz by' : Nat) (i j : Int) (ht : eltOf P t = some (e, sz, by')) (hx : σ x = .own n k) (hm : m n = .obj false e sz l) (hk : k = l.length) (hlo : (match lo with | some o => ∃ k, σ o = .lit (.int k i) | none => i = 0)) (hhi : (match hi with | some o => ∃ k, σ o = .lit (.int k j) | none => j = l.length))
   (h0 : 0 ≤ i) (h1 : i ≤ j) (h2 : j ≤ l.length) : AOp P σ m d (.slice t x lo hi none) (.slice ((l.take j.toNat).drop i.toNat)) [] [n]
 | sliceX (t : TypeId) (x : Operand) (n k : Nat) (l : List PV) (lo hi : Option Operand) (e sz by' : Nat) (i j : Int) (ht : eltOf P t = some (e, sz, by')) (hx : σ x = .own n k) (hm : m n = .obj true e sz l) (hk : k = l.length) (hpos : 0 < l.length) (hlo : (match lo with | some o => ∃ k, σ o = .lit (.int k i) | none => i = 0)) (hhi : (match hi with | some o => ∃ k, σ o = .lit (.int k j) | none => j = l.length))
   (h0 : 0 ≤ i) (h1 : i ≤ j) (h2 : j ≤ l.length) : AOp P σ m d (.slice t x lo hi none) (.osl n k i.toNat j.toNat) [] [n]
 | lenL (t : TypeId) (x : Operand) (n k i j : Nat) (b : Bool) (e sz by' : Nat) (l : List PV) (ht : eltOf P t = some (e, sz, by')) (hx : σ x = .osl n k i j) (hm : m n = .obj b e sz l) (hk : k = l.length) : AOp P σ m d (.call { callee := .builtin .len, args := #[x], argTypes := #[t] }) (.lit (.int .i64 ((j - i : Nat) : Int))) [] [n]
 | indexAddr_l (t : TypeId) (x y : Operand) (e sz by' n k' i j : Nat) (b : Bool) (l : List PV) (kk : IntKind) (z : Int) (ht : eltOf P t = some (e, sz, by')) (hx : σ x = .osl n k' i j) (hm : m n = .obj b e sz l) (hk : k' = l.length) (hy : σ y = .lit (.int kk z)) (h0 : 0 ≤ z) (hz : z < ((j - i : Nat) : Int)) :
   AOp P σ m d (.indexAddr t x y) (.eptr n k' (i + z.toNat) 0) [] [n]
 | clearL (t : TypeId) (x : Operand) (n k i j e sz by' : Nat) (z : List PV) (el : PV) (l : List PV) (ht : eltOf P t = some (e, sz, by')) (hz : zeroPV P e = some z) (hel : el.cells = z ∨ el.cells = z.map zc) (hzl : z.length = sz) (hp : ∀ c ∈ z, c.plain = true) (hx : σ x = .osl n k i j) (hm : m n = .obj true e sz l) (hk : k = l.length) :
   AOp P σ m d (.call { callee := .builtin .clear, args := #[x], argTypes := #[t] }) (.tuple []) [(n, .obj true e sz (l.take i ++ List.replicate (j - i) el ++ l.drop j))] [n]
 | lenY (sk : Bool) (c : Nat) (t : TypeId) (x : Operand) (l : List PV) (e sz by' : Nat) (ht : eltOf P t = some (e, sz, by')) (hx : σ x = yw sk c (.slice l)) : AOp P σ m d (.call { callee := .builtin .len, args := #[x], argTypes := #[t] }) (.lit (.int .i64 l.length)) [] []
 | indexAddr_y (sk : Bool) (c : Nat) (t : TypeId) (x y : Operand) (e sz by' : Nat) (l : List PV) (k : IntKind) (i : Int) (el : PV) (ht : eltOf P t = some (e, sz, by')) (hx : σ x = yw sk c (.slice l)) (hy : σ y = .lit (.int k i)) (h0 : 0 ≤ i) (hi : l[i.toNat]? = some el) (hsz : el.cells.length = sz) :
   AOp P σ m d (.indexAddr t x y) (yw sk c (.cptr el.cells 0)) [] []
 | fieldAddr_y (sk : Bool) (c : Nat) (t : TypeId) (x : Operand) (f off o' : Nat) (cs : List PV) (ht : fldOff P t f = some o') (hx : σ x = yw sk c (.cptr cs off)) : AOp P σ m d (.fieldAddr t x f) (yw sk c (.cptr cs (off + o'))) [] []
 | load_y (sk : Bool) (c : Nat) (t : TypeId) (x : Operand) (g : Bool) (sz off : Nat) (cs : List PV) (v : PV) (ht : shp P t = some (g, sz)) (hg : g = true ∨ sz = 1) (hx : σ x = yw sk c (.cptr cs off)) (hv : loadPV g sz off (cs.map (wrapY sk c)) = some v) : AOp P σ m d (.load t x) v [] []
 | shrI (t t' : TypeId) (x y : Operand) (k yk : IntKind) (a b : Int) (hx : σ x = .lit (.int k a)) (hy : σ y = .lit (.int yk b)) (h0 : 0 ≤ b) : AOp P σ m d (.binOp .shr t x y t') (.lit (.int k (a.fdiv (2 ^ min b.toNat k.bits)))) [] []
 | shlI (t t' : TypeId) (x y : Operand) (k yk : IntKind) (a b : Int) (hx : σ x = .lit (.int k a)) (hy : σ y = .lit (.int yk b)) (h0 : 0 ≤ b) : AOp P σ m d (.binOp .shl t x y t') (.lit (.int k (k.wrap (a * 2 ^ min b.toNat k.bits)))) [] []
 | bitI (op : BinOp) (t t' : TypeId) (x y : Operand) (k : IntKind) (a b r : Int) (hx : σ x = .lit (.int k a)) (hy : σ y = .lit (.int k b)) (hr : bitsPV op k a b = some r) : AOp P σ m d (.binOp op t x y t') (.lit (.int k r)) [] []
 | convBS (t t' e : TypeId) (x : Operand) (p : PV) (xs : List Int) (R : List Nat) (hs : P.underlying t = some (.slice e)) (he : P.underlying e = some (.int .u8)) (hd : P.underlying t' = some .string) (hx : σ x = p) (hl : Lst m p (xs.map fun n => .lit (.int .u8 n)) R) : AOp P σ m d (.convert t t' x) (.lit (.string (strB xs))) [] R
 | convSB (t t' e : TypeId) (x : Operand) (b : ByteArray) (hs : P.underlying t = some .string) (hd : P.underlying t' = some (.slice e)) (he : P.underlying e = some (.int .u8)) (hlt : e < 1099511627776) (hx : σ x = .lit (.string b)) (hsz : b.size ≤ 140737488355328) (hm : m (64 * d) = .undef) :
   AOp P σ m d (.convert t t' x) (.own (64 * d) b.size) [(64 * d, .obj true (e + 1099511627776) 1 ((bytesL b).map fun n => .lit (.int .u8 n)))] [64 * d]
 | store_y (c : Nat) (t : TypeId) (x y : Operand) (off : Nat) (cs : List PV) (u u' : Value) (ht : shp P t = some (false, 1)) (hx : σ x = .ysk c (.cptr cs off)) (hm : m c = .yreg true true) (hc : cs[off]? = some (.lit u)) (hy : σ y = .lit u') (hu : scalarV u = true) (hs : scalarV u' = true) : AOp P σ m d (.store t x y) .undef [(c, .yreg true true)] [c]

def upds (m : Nat → PV) : List (Nat × PV) → Nat → PV
 | [] => m
 | (n, p) :: U => upds (upd m n p) U

section
variable {P : Program} {N : Nat} {w0 : Base P} {w w' : World} {pub pub' : Nat → Nat → Prop} {V : Nat → Value} {s : St} {a : Act}

theorem foldl_set (off : Nat) : ∀ (L : List Value) (j0 : Nat) (arr : Array Value), off + j0 + L.length ≤ arr.size →
  ((L.zipIdx j0).foldl (fun (cs : Array Value) (p : Value × Nat) => cs.setIfInBounds (off + p.2) p.1) arr).toList = arr.toList.take (off + j0) ++ L ++ arr.toList.drop (off + j0 + L.length)
 | [], j0, arr, h => by simp
 | v :: L, j0, arr, h => by
  have hlt : off + j0 < arr.size := by simp at h; omega
  rw [List.zipIdx_cons, List.foldl_cons, foldl_set off L (j0 + 1) (arr.setIfInBounds (off + j0) v) (by simp at h ⊢; omega)]
  apply List.ext_getElem?
  intro k
  have hl : (arr.setIfInBounds (off + j0) v).toList = arr.toList.set (off + j0) v := by simp
  rw [hl]
  have s1 := splice_get (arr.toList.set (off + j0) v) L (off + (j0 + 1)) k (by simp at h ⊢; omega)
  have s2 := splice_get arr.toList (v :: L) (off + j0) k (by simp at h ⊢; omega)
  rw [s1, s2]
  by_cases h1 : k < off + j0
  ·rw [if_pos (by omega), if_pos h1, List.getElem?_set_ne (by omega)]
  ·rw [if_neg h1]
   by_cases h2 : k = off + j0
   ·subst h2
    rw [if_pos (by omega), if_pos (by simp), List.getElem?_set_self (by simpa using hlt)]; simp
   ·rw [if_neg (by omega)]
    by_cases h3 : k < off + (j0 + 1) + L.length
    ·rw [if_pos h3, if_pos (by simp; omega)]
     rw [show k - (off + j0) = (k - (off + (j0 + 1))) + 1 by omega]; simp
    ·rw [if_neg h3, if_neg (by simp; omega), List.getElem?_set_ne (by omega)]

def CellsOk (Q : PV → Value → Prop) (cs : List PV) (arr : Array Value) : Prop := arr.size = cs.length ∧ ∀ (j : Nat) c, cs[j]? = some c → Q c (arr.getD j Go.undef)

theorem fill_sound {Q : PV → Value → Prop} {place : Nat → Option (Nat × Nat)} : ∀ (parts : List (Nat × Value)) (pps : List (Nat × PV)) (arr : Array Value) (cs cs' : List PV), parts.map (·.1) = pps.map (·.1) →
  (∀ (k : Nat) iv ip, parts[k]? = some iv → pps[k]? = some ip → CellsOk Q ip.2.cells iv.2.cells) → CellsOk Q cs arr → fillPV place cs pps = some cs' → ∃ arr', Instr.fill place arr parts = some arr' ∧ CellsOk Q cs' arr'
 | [], [], arr, cs, cs', _, _, hc, hf => by simp [fillPV] at hf; subst hf; exact ⟨arr, rfl, hc⟩
 | [], _ :: _, _, _, _, h, _, _, _ => by simp at h
 | _ :: _, [], _, _, _, h, _, _, _ => by simp at h
 | (i, v) :: parts, (i', p) :: pps, arr, cs, cs', h, hp, hc, hf => by
  simp only [List.map_cons, List.cons.injEq] at h
  obtain ⟨rfl, h⟩ := h
  have h0 := hp 0 _ _ rfl rfl
  simp only [fillPV] at hf
  simp only [Instr.fill]
  cases hpl : place i with
  | none => rw [hpl] at hf; cases hf
  | some os =>
   obtain ⟨off, size⟩ := os
   rw [hpl] at hf
   simp only at hf ⊢
   split at hf <;> try cases hf
   rename_i hcond
   obtain ⟨hc1, hc2⟩ := hcond
   have hv : v.cells.size = size := h0.1.trans hc1
   have hn : ¬ (v.cells.size ≠ size ∨ off + v.cells.size > arr.size) := by rw [hc.1]; omega
   have hn' : (decide (v.cells.size ≠ size) || decide (off + v.cells.size > arr.size)) = false := by simp at hn ⊢; omega
   have hnew : CellsOk Q (cs.take off ++ p.cells ++ cs.drop (off + size)) (v.cells.zipIdx.foldl (fun cs (p : Value × Nat) => cs.setIfInBounds (off + p.2) p.1) arr) := by
    have hfold := foldl_set off v.cells.toList 0 arr (by simp at hn ⊢; omega)
    have hfa : (v.cells.zipIdx.foldl (fun cs (p : Value × Nat) => cs.setIfInBounds (off + p.2) p.1) arr) = ((v.cells.toList.zipIdx 0).foldl (fun (cs : Array Value) (p : Value × Nat) => cs.setIfInBounds (off + p.2) p.1) arr) := by
     rw [← Array.foldl_toList]; simp
    have hsz2 := hc.1
    have hlen : (v.cells.zipIdx.foldl (fun cs (p : Value × Nat) => cs.setIfInBounds (off + p.2) p.1) arr).toList = arr.toList.take off ++ v.cells.toList ++ arr.toList.drop (off + v.cells.toList.length) := by rw [hfa, hfold]; simp
    refine ⟨?_, fun j c hj => ?_⟩
    ·have := congrArg List.length hlen
     simp only [Array.length_toList, List.length_append, List.length_take, List.length_drop] at this ⊢
     omega
    ·have s1 := splice_get arr.toList v.cells.toList off j (by simp; omega)
     have s2 := splice_get cs p.cells off j (by omega)
     rw [hc1] at s2
     rw [s2] at hj
     have hget : ∀ (A : Array Value), A.getD j Go.undef = (A.toList[j]?).getD Go.undef := fun A => by simp
     rw [hget, hlen, s1]
     have hvl : v.cells.toList.length = size := by simpa using hv
     by_cases h1 : j < off
     ·rw [if_pos h1] at hj ⊢
      simpa using hc.2 j c hj
     ·rw [if_neg h1] at hj ⊢
      by_cases h2 : j < off + size
      ·rw [if_pos h2] at hj
       rw [if_pos (by omega)]
       simpa using h0.2 (j - off) c hj
      ·rw [if_neg h2] at hj
       rw [if_neg (by omega)]
       simpa using hc.2 j c hj
   obtain ⟨arr', h1, h2⟩ := fill_sound parts pps _ _ cs' h (fun k iv ip h1 h2 => hp (k + 1) iv ip (by simpa using h1) (by simpa using h2)) hnew hf
   refine ⟨arr', ?_, h2⟩
   rw [if_neg (by simpa using hn)]; exact h1

theorem fillPV_seq {sz : Nat} : ∀ (ps : List PV) (k : Nat) (cs : List PV), (∀ p ∈ ps, p.cells.length = sz) → (k + ps.length) * sz ≤ cs.length →
  fillPV (fun i => some (i * sz, sz)) cs ((List.range' k ps.length).zip ps) = some (cs.take (k * sz) ++ flat ps ++ cs.drop ((k + ps.length) * sz))
 | [], k, cs, _, _ => by simp [fillPV]
 | p :: ps, k, cs, h, hle => by
  have hp := h p (List.mem_cons_self ..)
  have hle' : (k + 1 + ps.length) * sz ≤ cs.length := by rw [List.length_cons] at hle; rw [show k + 1 + ps.length = k + (ps.length + 1) by omega]; exact hle
  have h1 : (k + 1) * sz ≤ (k + 1 + ps.length) * sz := Nat.mul_le_mul_right _ (by omega)
  rw [Nat.add_mul, Nat.one_mul] at h1
  simp only [List.length_cons, List.range'_succ, List.zip_cons_cons, fillPV]
  rw [if_pos ⟨hp, by omega⟩]
  have hl : (cs.take (k * sz) ++ p.cells ++ cs.drop (k * sz + sz)).length = cs.length := by simp; omega
  rw [fillPV_seq ps (k + 1) _ (fun q hq => h q (List.mem_cons_of_mem _ hq)) (by rw [hl]; exact hle')]
  have ht : (cs.take (k * sz) ++ p.cells ++ cs.drop (k * sz + sz)).take ((k + 1) * sz) = cs.take (k * sz) ++ p.cells := by
   rw [Nat.add_mul, Nat.one_mul, List.take_append_of_le_length (by simp; omega), List.take_of_length_le (by simp; omega)]
  have hd : (cs.take (k * sz) ++ p.cells ++ cs.drop (k * sz + sz)).drop ((k + 1 + ps.length) * sz) = cs.drop ((k + (ps.length + 1)) * sz) := by
   rw [List.drop_append, List.drop_eq_nil_of_le (by simp; omega), List.nil_append, List.drop_drop]
   congr 1
   simp only [List.length_append, List.length_take]
   rw [show k + (ps.length + 1) = k + 1 + ps.length by omega]
   omega
  rw [ht, hd]; simp

theorem Rep.cells_of {p : PV} {v : Value} (h : Rep pub w p v) (hp : ∀ vs, p ≠ .tuple vs) : v.cells.size = p.cells.length ∧ ∀ (j : Nat) c, p.cells[j]? = some c → (v.cells.getD j Go.undef).oneCell' = true ∧ Rep pub w c (v.cells.getD j Go.undef) := by
 have one : ∀ {q : PV} {u : Value}, Rep pub w q u → u.oneCell' = true → q.cells = [q] → u.cells.size = q.cells.length ∧ ∀ (j : Nat) c, q.cells[j]? = some c → (u.cells.getD j Go.undef).oneCell' = true ∧ Rep pub w c (u.cells.getD j Go.undef) := by
  intro q u hq h1 hcells
  have hu : u.cells = #[u] := by cases u <;> first | rfl | cases h1
  rw [hu, hcells]
  refine ⟨rfl, fun j c hj => ?_⟩
  have hj0 : j = 0 := by have := (List.getElem?_eq_some_iff.1 hj).1; simpa using this
  subst hj0; simp at hj; subst hj; exact ⟨h1, hq⟩
 cases h with
 | agg cs arr hs hd hc => exact ⟨hs, fun j c hj => ⟨hd j c hj, hc j c hj⟩⟩
 | tuple cs arr hs hc => exact absurd rfl (hp cs)
 | lit v h => exact one (.lit v h) h rfl
 | err t v => exact one (.err t v) rfl rfl
 | noErr => exact one .noErr rfl rfl
 | nils => exact one .nils rfl rfl
 | slice0 ad cap => exact one (.slice0 ad cap) rfl rfl
 | slice b o cap sz l W h1 h2 h5 h3 h4 => exact one (.slice b o cap sz l W h1 h2 h5 h3 h4) rfl rfl
 | fn f cs arr hs hc => exact one (.fn f cs arr hs hc) rfl rfl
 | cptr b o off cs W h1 h2 => exact one (.cptr b o off cs W h1 h2) rfl rfl

theorem PurL.not_tuple {m : Nat → PV} {ps ps' : List PV} {R : List Nat} (h : PurL m ps ps' R) : ∀ p ∈ ps', ∀ vs, p ≠ .tuple vs := by
 induction h with
 | nil => intro p hp; cases hp
 | plain q ps ps' R hq _ ih =>
  intro p hp vs e
  rcases List.mem_cons.1 hp with h | h
  ·subst h; subst e; cases hq
  ·exact ih p h vs e
 | own n k e sz l ps ps' R hm hk _ ih =>
  intro p hp vs e
  rcases List.mem_cons.1 hp with h | h
  ·subst h; cases e
  ·exact ih p h vs e
 | lptr n off cs ps ps' R hm _ ih =>
  intro p hp vs e
  rcases List.mem_cons.1 hp with h | h
  ·subst h; cases e
  ·exact ih p h vs e
 | agg cs cs' ps ps' R R' _ _ _ ih =>
  intro p hp vs e
  rcases List.mem_cons.1 hp with h | h
  ·subst h; cases e
  ·exact ih p h vs e

theorem Rel0.at_op (h : Rel0 N w0 pub V s a w) (l : List Operand) : ∀ (i : Nat) p, (l.map s.ev)[i]? = some p → ∃ x, l[i]? = some x ∧ RV pub w V s.mem p (a.eval x) := by
 intro i p hp
 simp only [List.getElem?_map, Option.map_eq_some_iff] at hp
 obtain ⟨x, hx, rfl⟩ := hp
 exact ⟨x, hx, h.ev x⟩

theorem flat_take {sz : Nat} : ∀ {l : List PV}, (∀ e ∈ l, e.cells.length = sz) → ∀ n, flat (l.take n) = (flat l).take (n * sz)
 | [], _, n => by simp
 | x :: l, h, 0 => by simp
 | x :: l, h, n + 1 => by
  have hx := h x (List.mem_cons_self ..)
  have ih := flat_take (fun e he => h e (List.mem_cons_of_mem _ he)) n
  have t1 : (x.cells ++ flat l).take (n * sz + sz) = x.cells ++ (flat l).take (n * sz) := by
   rw [List.take_append, List.take_of_length_le (by omega)]; congr 2; omega
  rw [List.take_succ_cons, flat_cons, flat_cons, ih, Nat.add_mul, Nat.one_mul, t1]
theorem flat_drop {sz : Nat} : ∀ {l : List PV}, (∀ e ∈ l, e.cells.length = sz) → ∀ n, flat (l.drop n) = (flat l).drop (n * sz)
 | [], _, n => by simp
 | x :: l, h, 0 => by simp
 | x :: l, h, n + 1 => by
  have hx := h x (List.mem_cons_self ..)
  have ih := flat_drop (fun e he => h e (List.mem_cons_of_mem _ he)) n
  have t2 : (x.cells ++ flat l).drop (n * sz + sz) = (flat l).drop (n * sz) := by
   rw [List.drop_append, List.drop_eq_nil_of_le (by omega), List.nil_append]; congr 1; omega
  rw [List.drop_succ_cons, flat_cons, ih, Nat.add_mul, Nat.one_mul, t2]

theorem run_bounds {isS : Bool} {len cap : Nat} {lo hi : Option Value} {i j : Int} (hlo : (match lo with | some o => ∃ k, o = .int k i | none => i = 0)) (hhi : (match hi with | some o => ∃ k, o = .int k j | none => j = len)) (h0 : 0 ≤ i) (h1 : i ≤ j) (h2 : j ≤ cap) :
  (Instr.sliceBounds isS len cap lo hi none).run P w = .ok (i.toNat, j.toNat, cap) w := by
 cases lo with
 | none =>
  cases hi with
  | none => simp only at hlo hhi; subst hlo; subst hhi; simp [Instr.sliceBounds]
  | some o => obtain ⟨k, rfl⟩ := hhi; simp only at hlo; subst hlo; simp [Instr.sliceBounds, Instr.sliceBound, asIntOf, h2, show 0 ≤ j by omega]
 | some o =>
  obtain ⟨k, rfl⟩ := hlo
  cases hi with
  | none => simp only at hhi; subst hhi; simp [Instr.sliceBounds, Instr.sliceBound, asIntOf, h0, h1]
  | some o => obtain ⟨k', rfl⟩ := hhi; simp [Instr.sliceBounds, Instr.sliceBound, asIntOf, h0, h2, show 0 ≤ j by omega, show ¬ max j 0 < i by omega]

theorem operand_int (h : Rel0 N w0 pub V s a w) {lo : Option Operand} {i : Int} {n : Int} (hlo : (match lo with | some o => ∃ k, s.ev o = .lit (.int k i) | none => i = n)) : (match lo.map a.eval with | some o => ∃ k, o = Value.int k i | none => i = n) := by
 cases lo with
 | none => exact hlo
 | some o => obtain ⟨k, hk⟩ := hlo; exact ⟨k, (hk ▸ h.ev o).lit_inv.1⟩

theorem run_sub {t e sz by' : Nat} (ht : eltOf P t = some (e, sz, by')) {l : List PV} {v : Value} (hv : Rep pub w (.slice l) v) (hsz : ∀ e ∈ l, e.cells.length = sz) {lo hi : Option Value} {i j : Int}
  (hlo : (match lo with | some o => ∃ k, o = Value.int k i | none => i = 0)) (hhi : (match hi with | some o => ∃ k, o = Value.int k j | none => j = l.length)) (h0 : 0 ≤ i) (h1 : i ≤ j) (h2 : j ≤ l.length) :
  ∃ u, (Instr.sliceAt t v lo hi none).run P w = .ok u w ∧ Rep pub w (.slice ((l.take j.toNat).drop i.toNat)) u := by
 obtain ⟨hu, x, hx, hx1, hx2⟩ := eltOf_spec ht
 subst hx1
 have hlen : ((l.take j.toNat).drop i.toNat).length = j.toNat - i.toNat := by simp; omega
 cases hv with
 | slice0 ad cap =>
  simp at h2
  have hi0 : i = 0 := by omega
  have hj0 : j = 0 := by omega
  subst hi0; subst hj0
  have hb := run_bounds (P := P) (w := w) (isS := true) (len := 0) (cap := cap) (lo := lo) (hi := hi) (i := 0) (j := 0) hlo (by cases hi with | none => simp | some o => simpa using hhi) (by omega) (by omega) (by omega)
  refine ⟨.slice (if cap = 0 then ad else ad.map (·.add (0 * x.size))) 0 cap, ?_, by simpa using .slice0 _ cap⟩
  unfold Instr.sliceAt
  simp [run_underlying hu, Instr.slice, hb, sizeOf, typeInfo, hx]
 | slice b o cap sz' _ W hsz' hcap hmx hd hc =>
  have hb := run_bounds (P := P) (w := w) (isS := true) (len := l.length) (cap := cap) hlo hhi h0 h1 (by omega)
  refine ⟨.slice (if cap = i.toNat then some ⟨b, o, none⟩ else some ((⟨b, o, none⟩ : Addr).add (i.toNat * x.size))) (j.toNat - i.toNat) (cap - i.toNat), ?_, ?_⟩
  ·unfold Instr.sliceAt
   simp [run_underlying hu, Instr.slice, hb, sizeOf, typeInfo, hx]
  ·by_cases hl0 : (l.take j.toNat).drop i.toNat = []
   ·rw [hl0]
    have : j.toNat - i.toNat = 0 := by rw [← hlen, hl0]; rfl
    rw [this]; exact .slice0 _ _
   ·have hne : cap ≠ i.toNat := fun e => hl0 (List.eq_nil_of_length_eq_zero (by omega))
    rw [if_neg hne, Addr.add_lit]
    have hsub : ∀ y ∈ (l.take j.toNat).drop i.toNat, y ∈ l := fun y hy => List.mem_of_mem_take (List.mem_of_mem_drop hy)
    have hsz2 : ∀ y ∈ l.take j.toNat, y.cells.length = x.size := fun y hy => hsz y (List.mem_of_mem_take hy)
    have hf : flat ((l.take j.toNat).drop i.toNat) = ((flat l).take (j.toNat * x.size)).drop (i.toNat * x.size) := by rw [flat_drop hsz2, flat_take hsz]
    have := Rep.slice (pub := pub) (w := w) b (o + i.toNat * x.size) (cap - i.toNat) x.size ((l.take j.toNat).drop i.toNat) (fun k => W (i.toNat * x.size + k)) (fun y hy => hsz y (hsub y hy)) (by omega) (by omega) (fun k c hk => ?_) (fun k c hk => ?_)
    ·rw [hlen] at this; exact this
    all_goals
     rw [hf, List.getElem?_drop] at hk
     have hk2 : (flat l)[i.toNat * x.size + k]? = some c := by
      by_cases hkk : i.toNat * x.size + k < j.toNat * x.size
      ·rw [List.getElem?_take_of_lt hkk] at hk; exact hk
      ·rw [List.getElem?_eq_none (by simp; omega)] at hk; cases hk
    ·have := hd _ c hk2
     rw [Nat.add_assoc]; exact this
    ·exact hc _ c hk2

end
end Go.Px
namespace Go.Px
set_option linter.unusedSimpArgs false
set_option linter.unusedVariables false
open Go.RowKit

def YR (sk own : Bool) (w : World) (u : Value) (p : PV) (v : Value) : Prop := bif sk then SRep (regB u) w p v else Rep (regP own w u) w p v
section
variable {P : Program} {N : Nat} {w0 : Base P} {w w' : World} {pub pub' : Nat → Nat → Prop} {V : Nat → Value} {m : Nat → PV} {s : St} {a : Act}
theorem RV.yw_inv {sk : Bool} {c : Nat} {p : PV} {v : Value} (h : RV pub w V m (yw sk c p) v) : ∃ own, m c = .yreg sk own ∧ YR sk own w (V c) p v := by
 cases sk with
 | true =>
  cases h with
  | pure h => cases h
  | ref h => cases h
  | ysk _ _ _ own hm h => exact ⟨own, hm, h⟩
 | false =>
  cases h with
  | pure h => cases h
  | ref h => cases h
  | yng _ _ _ own hm h => exact ⟨own, hm, h⟩
theorem YR.rv {sk own : Bool} {c : Nat} {p : PV} {v : Value} (hm : m c = .yreg sk own) (h : YR sk own w (V c) p v) : RV pub w V m (yw sk c p) v := by
 cases sk with
 | true => exact .ysk c p v own hm h
 | false => exact .yng c p v own hm h
theorem YR.wrap {sk own : Bool} {c : Nat} {p : PV} {v : Value} (hm : m c = .yreg sk own) (h : YR sk own w (V c) p v) : RV pub w V m (wrapY sk c p) v := by
 cases p with
 | lit u =>
  cases sk with
  | true => exact .undef v
  | false =>
   have h' : Rep (regP own w (V c)) w (.lit u) v := h
   cases h' with
   | lit _ h1 => exact .pure (.lit _ h1)
 | _ => exact h.rv hm
theorem YR.slice {sk own : Bool} {u : Value} {l : List PV} {v : Value} (h : YR sk own w u (.slice l) v) : ∃ ad cap, v = .slice ad l.length cap ∧ ∀ (i : Nat) el, l[i]? = some el → ∃ b o, ad = some ⟨b, o, none⟩ ∧ YR sk own w u (.cptr el.cells 0) (.pointer (some ⟨b, o + i * el.cells.length + 0, none⟩)) := by
 cases sk with
 | true =>
  have h' : SRep (regB u) w (.slice l) v := h
  generalize hp : PV.slice l = p at h'
  cases h' with
  | slice0 ad cap => cases hp; exact ⟨ad, cap, rfl, fun i el hi => by simp at hi⟩
  | slice b o cap sz l' W hsz hcap hmx hd hc =>
   cases hp
   refine ⟨some ⟨b, o, none⟩, cap, rfl, fun i el hi => ⟨b, o, rfl, ?_⟩⟩
   have hs := hsz el (List.mem_of_getElem? hi)
   refine SRep.cptr b (o + i * el.cells.length) 0 el.cells (fun j => W (i * sz + j)) (fun j c hj => ?_) (fun j c hj => hc _ c (flat_get hsz hi hj))
   have := hd _ c (flat_get hsz hi hj)
   rw [hs, Nat.add_assoc]; exact this
  | _ => cases hp
 | false =>
  have h' : Rep (regP own w u) w (.slice l) v := h
  generalize hp : PV.slice l = p at h'
  cases h' with
  | slice0 ad cap => cases hp; exact ⟨ad, cap, rfl, fun i el hi => by simp at hi⟩
  | slice b o cap sz l' W hsz hcap hmx hd hc =>
   cases hp
   refine ⟨some ⟨b, o, none⟩, cap, rfl, fun i el hi => ⟨b, o, rfl, ?_⟩⟩
   have hs := hsz el (List.mem_of_getElem? hi)
   refine Rep.cptr b (o + i * el.cells.length) 0 el.cells (fun j => W (i * sz + j)) (fun j c hj => ?_) (fun j c hj => hc _ c (flat_get hsz hi hj))
   have := hd _ c (flat_get hsz hi hj)
   rw [hs, Nat.add_assoc]; exact this
  | _ => cases hp
theorem YR.cptr {sk own : Bool} {u : Value} {cs : List PV} {off : Nat} {v : Value} (h : YR sk own w u (.cptr cs off) v) : ∃ (b o : Nat) (W : Nat → Value), v = .pointer (some ⟨b, o + off, none⟩) ∧ (∀ (j : Nat) c, cs[j]? = some c → w.cell? ⟨b, o + j, none⟩ = some (W j) ∧ (W j).oneCell' = true ∧ YR sk own w u c (W j) ∧ regB u b ∧ (sk = true → w.frozen? ⟨b, o + j, none⟩ = false)) ∧
  ∀ off', YR sk own w u (.cptr cs off') (.pointer (some ⟨b, o + off', none⟩)) := by
 cases sk with
 | true =>
  have h' : SRep (regB u) w (.cptr cs off) v := h
  generalize hp : PV.cptr cs off = p at h'
  cases h' with
  | cptr b o off0 cs0 W hd hc =>
   cases hp
   exact ⟨b, o, W, rfl, fun j c hj => ⟨(hd j c hj).2.1, (hd j c hj).2.2, hc j c hj, (hd j c hj).1.1, fun _ => (hd j c hj).1.2⟩, fun off' => SRep.cptr b o off' cs W hd hc⟩
  | _ => cases hp
 | false =>
  have h' : Rep (regP own w u) w (.cptr cs off) v := h
  generalize hp : PV.cptr cs off = p at h'
  cases h' with
  | cptr b o off0 cs0 W hd hc =>
   cases hp
   exact ⟨b, o, W, rfl, fun j c hj => ⟨(hd j c hj).2.1, (hd j c hj).2.2, hc j c hj, (hd j c hj).1.1, fun e => by cases e⟩, fun off' => Rep.cptr b o off' cs W hd hc⟩
  | _ => cases hp
theorem SRep.lit_inv {R : Nat → Prop} {u v : Value} (h : SRep R w (.lit u) v) (hu : scalarV u = true) : scalarV v = true ∧ v.oneCell' = true := by
 generalize hp : PV.lit u = p at h
 cases h with
 | lit _ _ h1 h2 =>
  cases hp
  rcases h2 with rfl | h2
  ·exact ⟨hu, h1⟩
  ·exact ⟨h2.2, h1⟩
 | _ => cases hp

theorem run_storeVar_at {t : TypeId} (ht : shp P t = some (false, 1)) {ad : Addr} {v o : Value} (hv : v.oneCell' = true) (hc : w.cell? ad = some o) (hf : w.frozen? ad = false) : (storeVar t ad v).run P w = .ok () (w.setCell ad v) := by
 have hcells : v.cells = #[v] := by cases v <;> first | rfl | simp [Value.oneCell'] at hv
 unfold storeVar
 simp only [Sem.run_bind, shp_size ht w, Result.andThen_ok, hcells]
 simp [storeCells, run_store P _ _ v _ hv, Addr.add_zero', hc, hf, Result.andThen]

theorem Rel0.storeReg (h : Rel0 N w0 pub V s a w) {c : Nat} (hm : s.mem c = .yreg true true) {t : TypeId} (ht : shp P t = some (false, 1)) {b o : Nat} {x v : Value} (hR : regB (V c) b) (hf : w.frozen? ⟨b, o, none⟩ = false) (hc : w.cell? ⟨b, o, none⟩ = some x) (hx : scalarV x = true) (hv : scalarV v = true) (hv1 : v.oneCell' = true) :
  ∃ w', (storeVar t ⟨b, o, none⟩ v).run P w = .ok () w' ∧ Rel0 N w0 pub V { s with mem := upd s.mem c (.yreg true true) } a w' := by
 refine ⟨_, run_storeVar_at ht hv1 hc hf, ?_⟩
 have hup : upd s.mem c (.yreg true true) = s.mem := by
  funext k; by_cases hk : k = c
  ·subst hk; simp [upd, hm]
  ·simp [upd, hk]
 rw [hup]
 have hu : s.mem c ≠ .undef := by rw [hm]; intro e; cases e
 have hlt : b < w.heap.size := (h.mem c).block_lt hu (.inr hR)
 have hother : ∀ g, g ≠ b → (w.setCell ⟨b, o, none⟩ v).heap[g]? = w.heap[g]? := fun g hg => by
  simp [World.setCell, Array.getElem?_modify, Ne.symm hg]
 have hsize : (w.setCell ⟨b, o, none⟩ v).heap.size = w.heap.size := by simp [World.setCell]
 have hmc := h.mem c
 have hnp : ∀ o, ¬ pub b o := fun o => hmc.excl' hm (.inr hR)
 have hsk : SkW (regB (V c)) w (w.setCell ⟨b, o, none⟩ v) := ⟨fun g k _ => World.frozen?_setCell .., fun g k y hg hy => by
  by_cases e : (⟨b, o, none⟩ : Addr) = ⟨g, k, none⟩
  ·cases e
   rw [hc] at hy; cases hy
   exact ⟨v, World.cell?_setCell_same _ _ _ hc, .inr ⟨hx, hv, hv1⟩⟩
  ·exact ⟨y, (World.cell?_setCell_other _ _ _ _ e).trans hy, .inl rfl⟩⟩
 have t : Tr pub w V s.mem pub (w.setCell ⟨b, o, none⟩ v) V s.mem (fun k => k = c) :=
  ⟨fun _ _ h => h, fun g k hg => World.cell?_of_block (a := ⟨g, k, none⟩) (hother g (fun e => hnp k (e ▸ hg))), fun _ _ h => h, fun _ _ _ => rfl, fun _ _ => rfl,
  fun n g hn hun hg => ⟨hother g (fun e => hn (h.apart n c g hun hu hg (.inr (e ▸ hR)))), fun _ ho => ho⟩, fun k s' own hk hk2 => by
   subst hk
   rw [hm] at hk2
   injection hk2 with e1 e2
   subst e1; subst e2
   exact ⟨hm, rfl, rfl, hsk⟩⟩
 have hO : w0.O b := by
  rw [hm] at hmc
  generalize V c = vc at hmc hR
  cases hmc with
  | yreg _ _ lo hi hv' _ _ hB =>
   obtain ⟨lo', hi', k1, k2, k3⟩ := hR
   rw [hv'] at k1
   simp at k1
   exact hB b (by omega) (by omega) rfl
 refine h.turn t ⟨rfl, rfl, rfl, by rw [hsize]; exact Nat.le_refl _, fun g hg => hother g (fun e => hg (e ▸ hO))⟩ (fun _ _ => rfl) (fun g k hg => by rw [hsize]; exact h.pubLt g k hg) (fun k hk => ?_) (fun i k g hik h1 h2 h3 h4 => hik (h.apart i k g h1 h2 h3 h4)) (fun _ _ _ h => h) (fun g k hg h0 => by rw [World.frozen?_setCell]; exact h.soft g k hg h0)
 subst hk
 rw [hm] at hmc ⊢
 generalize V k = vc at hmc
 cases hmc with
 | yreg _ _ lo hi hv' hh hp hB => exact .yreg true true lo hi hv' (by rw [hsize]; exact hh) hp hB
end
end Go.Px
namespace Go.Px
set_option linter.unusedSimpArgs false
set_option linter.unusedVariables false
open Go.RowKit

section
variable {P : Program} {N : Nat} {w0 : Base P} {w w' : World} {pub pub' : Nat → Nat → Prop} {V : Nat → Value} {s : St} {a : Act}

theorem agg_lits {m : Nat → PV} {cs : List PV} {v : Value} (h : RV pub w V m (.agg cs) v) : ∃ xs, v = .agg xs ∧ ∀ (j : Nat) u, cs[j]? = some (.lit u) → xs[j]? = some u := by
 have key : ∀ arr : Array Value, arr.size = cs.length → (∀ (j : Nat) c, cs[j]? = some c → RV pub w V m c (arr.getD j Go.undef)) → ∀ (j : Nat) u, cs[j]? = some (.lit u) → arr[j]? = some u := by
  intro arr hs hc j u hj
  have h1 := (hc j _ hj).lit_inv.1
  have hlt : j < arr.size := by rw [hs]; exact (List.getElem?_eq_some_iff.1 hj).1
  simp [hlt] at h1 ⊢; exact h1
 cases h with
 | pure h => cases h with | agg _ arr hs hd hc => exact ⟨arr, rfl, key arr hs fun j c hj => .pure (hc j c hj)⟩
 | ref h => cases h
 | agg _ arr hs hd hc => exact ⟨arr, rfl, key arr hs hc⟩
theorem Lst.nilq {p : PV} {l : List PV} {R : List Nat} (hl : Lst s.mem p l R) (h : Rel0 N w0 pub V s a w) {v : Value} (hv : RV pub w V s.mem p v) (h0 : l ≠ [] ∨ p = .nils) : ∃ ad n cap, v = .slice ad n cap ∧ ad.isNone = l.isEmpty := by
 by_cases hp : p = .nils
 ·subst hp
  cases hl
  exact ⟨none, 0, 0, hv.nils_inv, rfl⟩
 ·have hl0 : l ≠ [] := h0.resolve_right hp
  have he : l.isEmpty = false := by cases l <;> simp_all
  cases hl with
  | nils => exact absurd rfl hp
  | pure =>
   have := hv.slice_inv
   cases this with
   | slice0 ad cap => exact absurd rfl hl0
   | slice b o cap sz _ W hsz hcap hmx hd hc => exact ⟨_, _, _, rfl, by rw [he]; rfl⟩
  | own n k x e sz _ hm hk =>
   obtain ⟨x', e', sz', l', hm', _, hv'⟩ := hv.own_inv
   rw [hm] at hm'; cases hm'
   rw [hv' hk]
   have hmn := h.mem n
   rw [hm] at hmn
   cases hmn with
   | obj _ _ _ _ xs hsz hmx hl how hp hq hc =>
    rcases how.1.2 with ⟨h1, h2⟩ | ⟨g, cap, cur, h1, hB, hh, hnc, _⟩
    ·exact absurd (List.eq_nil_of_length_eq_zero h2) hl0
    ·rw [h1]; exact ⟨_, _, _, rfl, by rw [he]; rfl⟩
theorem AOp.sound {d : Nat} {op : Op} {p : PV} {U : List (Nat × PV)} {R : List Nat} {pub0 : Nat → Nat → Prop} (ha : AOp P s.ev s.mem d op p U R) (hR : Rel N w0 pub0 s a w) : Snd P N w0 pub0 s a w op p (upds s.mem U) := by
 obtain ⟨pub, V, c1, c2, h⟩ := hR
 cases ha with
 | move x v hv => exact .of_same c1 c2 h (a.eval x) (hv ▸ h.ev x) (fun _ _ _ _ _ => rfl)
 | assign x v hv => exact .of_same c1 c2 h (a.eval x) (hv ▸ h.ev x) (fun _ _ _ _ _ => rfl)
 | pick c x y b v hc hv =>
  have h1 := (hc ▸ h.ev c).lit_inv.1
  refine .of_same c1 c2 h (if b then a.eval x else a.eval y) ?_ (fun _ _ _ _ _ => by simp [execOp, h1, asBool])
  subst hv
  cases b
  ·exact h.ev y
  ·exact h.ev x
 | bin op t t' x y p q v hx hy hk hv hs =>
  obtain ⟨z, hz, hr⟩ := run_bin (P := P) op t x y (hx ▸ h.ev x) (hy ▸ h.ev y) hk hv hs
  exact .of_same c1 c2 h z (.pure hr) (fun _ _ _ _ _ => run_value hz)
 | neqErr t t' x ms ht hx =>
  rename_i b
  have hmt : P.underlying t = some (.interface (P.methodsAt t)) := by rw [ht]; simp [Program.methodsAt, ht]
  rcases (hx ▸ h.ev x).err_inv with ⟨rfl, t1, u1, h1⟩ | ⟨rfl, h1⟩
  ·refine .of_same c1 c2 h (.bool true) (.pure (.lit _ rfl)) (fun _ _ _ _ _ => ?_)
   refine run_value ?_
   rw [h1, eqGuard_at_iface]
   exact run_neq_held_nil w t t1 u1 hmt
  ·refine .of_same c1 c2 h (.bool false) (.pure (.lit _ rfl)) (fun _ _ _ _ _ => ?_)
   refine run_value ?_
   rw [h1, show a.eval (.const .nilIface) = .nilIface from rfl, eqGuard_nil_constR]
   exact run_neq_nil_nil w t hmt
 | neqNil t t' x ms ht hx =>
  have h1 := (hx ▸ h.ev x).lit_inv.1
  have hmt : P.underlying t = some (.interface (P.methodsAt t)) := by rw [ht]; simp [Program.methodsAt, ht]
  refine .of_same c1 c2 h (.bool false) (.pure (.lit _ rfl)) (fun _ _ _ _ _ => ?_)
  refine run_value ?_
  rw [h1, show a.eval (.const .nilIface) = .nilIface from rfl, eqGuard_nil_constR]
  exact run_neq_nil_nil w t hmt
 | eqlBool t t' x y a1 b1 ht hx hy =>
  have h1 := (hx ▸ h.ev x).lit_inv.1
  have h2 := (hy ▸ h.ev y).lit_inv.1
  refine .of_same c1 c2 h (.bool (a1 == b1)) (.pure (.lit _ rfl)) (fun _ _ _ _ _ => run_value ?_)
  rw [h1, h2, eqGuard_at_bool]
  have := run_equalIn_bool' (P := P) (w := w) 9999 t a1 b1 ht
  show Sem.run P (do pure (Value.bool (← Op.equal t (.bool a1) (.bool b1)))) w = _
  rw [Sem.run_bind]
  show Result.andThen ((Op.equalIn 10000 t (.bool a1) (.bool b1)).run P w) _ = _
  rw [this]; rfl
 | neqBool t t' x y a1 b1 ht hx hy =>
  have h1 := (hx ▸ h.ev x).lit_inv.1
  have h2 := (hy ▸ h.ev y).lit_inv.1
  refine .of_same c1 c2 h (.bool (a1 != b1)) (.pure (.lit _ rfl)) (fun _ _ _ _ _ => run_value ?_)
  rw [h1, h2, eqGuard_at_bool]
  have := run_equalIn_bool' (P := P) (w := w) 9999 t a1 b1 ht
  show Sem.run P (do pure (Value.bool (!(← Op.equal t (.bool a1) (.bool b1))))) w = _
  rw [Sem.run_bind]
  show Result.andThen ((Op.equalIn 10000 t (.bool a1) (.bool b1)).run P w) _ = _
  rw [this]; rfl
 | eqlAgg t t' x y ks cs ds r hf hx hy he =>
  obtain ⟨xs, h1, h2⟩ := agg_lits (hx ▸ h.ev x)
  obtain ⟨ys, h3, h4⟩ := agg_lits (hy ▸ h.ev y)
  exact .of_same c1 c2 h (.bool r) (.pure (.lit _ rfl)) (fun _ _ _ _ _ => run_value (by rw [h1, h3]; exact (run_eqAgg hf he h2 h4).1))
 | neqAgg t t' x y ks cs ds r hf hx hy he =>
  obtain ⟨xs, h1, h2⟩ := agg_lits (hx ▸ h.ev x)
  obtain ⟨ys, h3, h4⟩ := agg_lits (hy ▸ h.ev y)
  exact .of_same c1 c2 h (.bool (!r)) (.pure (.lit _ rfl)) (fun _ _ _ _ _ => run_value (by rw [h1, h3]; exact (run_eqAgg hf he h2 h4).2))
 | eqlNilS t t' x e sz by' p l R ht hx hl h0 =>
  obtain ⟨ad, n, cap, h1, h2⟩ := hl.nilq h (hx ▸ h.ev x) h0
  refine .of_same c1 c2 h (.bool l.isEmpty) (.pure (.lit _ rfl)) (fun _ _ _ _ _ => run_value ?_)
  rw [h1, eqGuard_at_slice, ← h2]
  show (binOp .eql t (.slice ad n cap) (.slice none 0 0)).run P w = _
  simp only [binOp]
  simp [run_equal_slice_nil w t e ad n cap (eltOf_spec ht).1]
 | eqlNilL t t' x e sz by' ad n cap ht hx =>
  have h1 := (hx ▸ h.ev x).lit_inv.1
  refine .of_same c1 c2 h (.bool ad.isNone) (.pure (.lit _ rfl)) (fun _ _ _ _ _ => run_value ?_)
  rw [h1, eqGuard_at_slice]
  show (binOp .eql t (.slice ad n cap) (.slice none 0 0)).run P w = _
  simp only [binOp]
  simp [run_equal_slice_nil w t e ad n cap (eltOf_spec ht).1]
 | neqNilS t t' x e sz by' p l R ht hx hl h0 =>
  obtain ⟨ad, n, cap, h1, h2⟩ := hl.nilq h (hx ▸ h.ev x) h0
  refine .of_same c1 c2 h (.bool (!l.isEmpty)) (.pure (.lit _ rfl)) (fun _ _ _ _ _ => run_value ?_)
  rw [h1, eqGuard_at_slice, ← h2]
  exact run_neq_slice_nil w t e ad n cap (eltOf_spec ht).1
 | un op t x p v hx hv =>
  obtain ⟨z, hz, hr⟩ := run_un (P := P) op (hx ▸ h.ev x) hv
  exact .of_same c1 c2 h z (.pure hr) (fun _ _ _ _ _ => run_value hz)
 | conv t t' x k k' n ht hs hx =>
  have h1 := (hx ▸ h.ev x).lit_inv.1
  refine .of_same c1 c2 h (.int k' (k'.wrap n)) (.pure (.lit _ rfl)) (fun _ _ _ _ _ => run_value ?_)
  rw [h1]
  obtain ⟨d', hd'⟩ := Option.isSome_iff_exists.1 hs
  cases d' <;> simp [convert, run_underlying hd', run_underlying ht, Conv.intToInt]
 | load_l t x g sz n off y cs v ht hg hx hm hv =>
  obtain ⟨x', cs', b, hm', hb, h1⟩ := (hx ▸ h.ev x).lptr_inv
  rw [hm] at hm'; cases hm'
  have hmn := h.mem n
  rw [hm] at hmn
  cases hmn with
  | blk _ _ g' arr T hvv hB hh hs hp hq hc hr =>
   rw [hb] at hvv
   simp only [Value.pointer.injEq, Option.some.injEq, Addr.mk.injEq, and_true] at hvv
   subst hvv
   obtain ⟨u, hu, hru⟩ := run_loadPV (P := P) (w := w) (m := s.mem) (V := V) (pub := pub) ht hg b 0 off cs (fun j => arr.getD j Go.undef) (fun j c hj => by
    have hlt : j < arr.size := by rw [hs]; exact (List.getElem?_eq_some_iff.1 hj).1
    refine ⟨?_, (hc j c hj).1, (hc j c hj).2⟩
    rw [Nat.zero_add, cell_of_row w b j arr T (0, 0) hh]; simp [hlt]) hv
   rw [Nat.zero_add] at hu
   exact .of_same c1 c2 h u hru (fun _ _ _ _ _ => run_value (by rw [h1]; exact hu))
 | load_c t x g sz off cs v ht hg hx hv =>
  obtain ⟨b, o, W, h1, hd, hc⟩ := (hx ▸ h.ev x).cptr_inv
  obtain ⟨u, hu, hru⟩ := run_loadPV (P := P) (w := w) (m := s.mem) (V := V) (pub := pub) ht hg b o off cs W (fun j c hj => ⟨(hd j c hj).2.1, (hd j c hj).2.2, .pure (hc j c hj)⟩) hv
  exact .of_same c1 c2 h u hru (fun _ _ _ _ _ => run_value (by rw [h1]; exact hu))
 | load_e t x g sz n k i off y e sz' l el v ht hg hx hm hk hi hv =>
  obtain ⟨x', e', sz'', l', hm', _, h1⟩ := (hx ▸ h.ev x).eptr_inv
  rw [hm] at hm'; cases hm'
  obtain ⟨gg, cap, hV, h2⟩ := h1 hk
  have hmn := h.mem n
  rw [hm] at hmn
  obtain ⟨g2, cap2, hV2, hel, hcell⟩ := hmn.elem hi
  rw [hV] at hV2
  simp only [Value.slice.injEq, Option.some.injEq, Addr.mk.injEq, and_true, true_and] at hV2
  obtain ⟨rfl, rfl⟩ := hV2
  obtain ⟨u, hu, hru⟩ := run_loadPV (P := P) (w := w) (m := s.mem) (V := V) (pub := pub) ht hg gg (i * sz') off el.cells (fun j => (w.cell? ⟨gg, i * sz' + j, none⟩).getD Go.undef) (fun j c hj => by
   obtain ⟨u, h3, h4, h5, _⟩ := hcell j c hj
   rw [h3]; exact ⟨rfl, h4, .pure h5⟩) hv
  exact .of_same c1 c2 h u hru (fun _ _ _ _ _ => run_value (by rw [h2]; exact hu))
 | store_l t x y g sz n off cs p ht hx hm hy hc hsz hfit R hR =>
  obtain ⟨x', cs', b, hm', hb, h1⟩ := (hx ▸ h.ev x).lptr_inv
  rw [hm] at hm'; cases hm'
  obtain ⟨w', hw, hrel⟩ := h.storeBlk (P := P) hm hb ht hc (hy ▸ h.ev y) hsz hfit
  exact ⟨Go.undef, w', fun _ _ _ _ _ => .inr ⟨run_skip (by rw [h1]; exact hw), rfl⟩, pub, V, c1, c2, hrel, .undef _⟩
 | store_e t x y g sz n k i off e sz' l el p p' R ht h0 hx hm hk hi hy hp hsz hfit =>
  obtain ⟨x', e', sz'', l', hm', _, h1⟩ := (hx ▸ h.ev x).eptr_inv
  rw [hm] at hm'; cases hm'
  obtain ⟨gg, cap, hV, h2⟩ := h1 hk
  have hrep := hp.rep h 0 p p' _ rfl rfl (hy ▸ h.ev y)
  have hcl := hrep.cells_of (hp.not_tuple p' (List.mem_cons_self ..))
  obtain ⟨w', hw, hrel⟩ := h.storeObj (P := P) hm hi hV ht hrep hsz h0 hfit ⟨hcl.1.trans hsz, hcl.2⟩
  exact ⟨Go.undef, w', fun _ _ _ _ _ => .inr ⟨run_skip (by rw [h2]; exact hw), rfl⟩, pub, V, c1, c2, hrel, .undef _⟩
 | nilChk x v hx hp =>
  refine .of_same c1 c2 h (a.eval x) (hx ▸ h.ev x) (fun _ _ _ _ _ => ?_)
  have hv := hx ▸ h.ev x
  cases p <;> try cases hp
  ·obtain ⟨b, o, W, h1, _⟩ := hv.cptr_inv
   simp [execOp, h1]
  ·obtain ⟨x', cs', b, hm', hb, h1⟩ := hv.lptr_inv
   simp [execOp, h1]
 | alloc t z hz hm =>
  obtain ⟨zv, hzv, hzs, hzc⟩ := zeroPV_spec (P := P) (w := w) (pub := pub) (V := V) hz
  have hrel := h.newBlk (64 * d) (by omega) hm zv.cells t z hzs (fun j c hj => ⟨(hzc j c hj).1, (hzc j c hj).2 _⟩)
  refine ⟨_, _, fun _ _ _ _ _ => .inl (run_value (z := .pointer (some ⟨w.heap.size, 0, none⟩)) (w' := w.alloc (.cells zv.cells t (0, 0))) ?_), pub, _, c1, c2, hrel, .ref (.lptr _ _ true z _ (upd_same _ _ _) (updV_same _ _ _))⟩
  simp [Instr.alloc, hzv, newVar, newRow]
 | box t x p R hx hc hm hR =>
  have hcl := hc.cells h (hx ▸ h.ev x)
  have hrel := h.newBlk (64 * d) (by omega) hm (a.eval x).cells t p.cells hcl.1 hcl.2
  refine ⟨_, _, fun _ _ _ _ _ => .inl (run_value (z := .pointer (some ⟨w.heap.size, 0, none⟩)) (w' := w.alloc (.cells (a.eval x).cells t (0, 0))) ?_), pub, _, c1, c2, hrel, .ref (.lptr _ _ true p.cells _ (upd_same _ _ _) (updV_same _ _ _))⟩
  simp [Instr.box, newVar, newRow]
 | build t parts z cs pl ps R hz hpl hps hc hR hcs =>
  obtain ⟨zv, hzv, hzs, hzc⟩ := zeroPV_spec (P := P) (w := w) (pub := pub) (V := V) hz
  have hlp : ps.length = parts.toList.length := by rw [← hps]; simp
  have hfill := fill_sound (Q := fun c u => u.oneCell' = true ∧ RV pub w V s.mem c u) (place := fun i => pl[i]?) (parts.toList.map fun x => (x.1, a.eval x.2)) ((parts.toList.map (·.1)).zip ps) zv.cells z cs
   (by rw [List.map_fst_zip (by simp [hlp])]; simp) (fun k iv ip h1 h2 => by
    simp only [List.getElem?_map, Option.map_eq_some_iff] at h1
    obtain ⟨x, hx, rfl⟩ := h1
    have h3 : ps[k]? = some ip.2 := by
     rw [List.getElem?_zip_eq_some] at h2; exact h2.2
    have h4 : ip.2 = s.ev x.2 := by
     rw [← hps] at h3
     simp only [List.getElem?_map, hx, Option.map_some, Option.some.injEq] at h3
     exact h3.symm
    have := (hc ip.2 (List.mem_of_getElem? h3)).cells h (v := a.eval x.2) (by rw [h4]; exact h.ev x.2)
    exact this) ⟨hzs, fun j c hj => ⟨(hzc j c hj).1, (hzc j c hj).2 _⟩⟩ hcs
  obtain ⟨arr, h1, h2⟩ := hfill
  refine .of_same c1 c2 h (.agg arr) (.agg cs arr h2.1 (fun j c hj => (h2.2 j c hj).1) (fun j c hj => (h2.2 j c hj).2)) (fun _ _ _ _ _ => run_value ?_)
  unfold fldPlaces at hpl
  split at hpl <;> try cases hpl
  rename_i fs hu
  have hm2 : ∀ (g : Field → Sem (Nat × Nat)), (∀ f i, P.info? f.type = some i → (g f).run P w = .ok (f.offset, i.size) w) → ∀ (l : List Field) (pl : List (Nat × Nat)), l.mapM (fun f => (P.info? f.type).map fun i => (f.offset, i.size)) = some pl → (l.mapM g).run P w = .ok pl w := by
   intro g hg l
   induction l with
   | nil => intro pl h; simp at h; subst h; simp
   | cons f l ih =>
    intro pl h
    simp only [List.mapM_cons, Option.bind_eq_bind, Option.bind_eq_some_iff, Option.pure_def, Option.some.injEq, Option.map_eq_some_iff] at h
    obtain ⟨q, ⟨i, hi, rfl⟩, pl', hpl', rfl⟩ := h
    rw [List.mapM_cons, Sem.run_bind, hg f i hi, Result.andThen_ok, Sem.run_bind, ih pl' hpl']; rfl
  have hmb : ∀ (g : Field → Sem (Nat × Nat)), (∀ f i, P.info? f.type = some i → (g f).run P w = .ok (f.offset, i.size) w) → (fs.mapM g).run P w = .ok pl.toArray w := by
   intro g hg
   rw [Array.mapM_eq_mapM_toList, Sem.run_map, hm2 g hg fs.toList pl hpl]; rfl
  have hin : (parts.map fun (i, x) => (i, a.eval x)).toList = parts.toList.map fun x => (x.1, a.eval x.2) := by simp
  unfold Instr.build
  rw [hin]
  simp only [Sem.run_bind, hzv, Result.andThen_ok, run_underlying hu]
  rw [hmb _ (fun f i hi => by simp [sizeOf, typeInfo, hi])]
  simp only [Result.andThen_ok, List.getElem?_toArray]
  rw [h1]
  rfl
 | buildArr t parts z cs n sz ps R hz ha hps hc hR hcs =>
  obtain ⟨zv, hzv, hzs, hzc⟩ := zeroPV_spec (P := P) (w := w) (pub := pub) (V := V) hz
  have hlp : ps.length = parts.toList.length := by rw [← hps]; simp
  have hfill := fill_sound (Q := fun c u => u.oneCell' = true ∧ RV pub w V s.mem c u) (place := fun i => some (i * sz, sz)) (parts.toList.map fun x => (x.1, a.eval x.2)) ((parts.toList.map (·.1)).zip ps) zv.cells z cs
   (by rw [List.map_fst_zip (by simp [hlp])]; simp) (fun k iv ip h1 h2 => by
    simp only [List.getElem?_map, Option.map_eq_some_iff] at h1
    obtain ⟨x, hx, rfl⟩ := h1
    have h3 : ps[k]? = some ip.2 := by
     rw [List.getElem?_zip_eq_some] at h2; exact h2.2
    have h4 : ip.2 = s.ev x.2 := by
     rw [← hps] at h3
     simp only [List.getElem?_map, hx, Option.map_some, Option.some.injEq] at h3
     exact h3.symm
    have := (hc ip.2 (List.mem_of_getElem? h3)).cells h (v := a.eval x.2) (by rw [h4]; exact h.ev x.2)
    exact this) ⟨hzs, fun j c hj => ⟨(hzc j c hj).1, (hzc j c hj).2 _⟩⟩ hcs
  obtain ⟨arr, h1, h2⟩ := hfill
  refine .of_same c1 c2 h (.agg arr) (.agg cs arr h2.1 (fun j c hj => (h2.2 j c hj).1) (fun j c hj => (h2.2 j c hj).2)) (fun _ _ _ _ _ => run_value ?_)
  unfold arrOf at ha
  split at ha <;> try cases ha
  rename_i n' e hu
  split at ha <;> cases ha
  rename_i ie hie
  have hin : (parts.map fun (i, x) => (i, a.eval x)).toList = parts.toList.map fun x => (x.1, a.eval x.2) := by simp
  unfold Instr.build
  rw [hin]
  simp only [Sem.run_bind, hzv, Result.andThen_ok, run_underlying hu]
  rw [show (sizeOf e).run P w = .ok ie.size w from by simp [sizeOf, typeInfo, hie]]
  simp only [Result.andThen_ok]
  rw [h1]
  rfl
 | buildSlice y t len parts e sz by' ps ps' R ht hsz0 hlen hz hzl hidx hps hp hsz hm =>
  obtain ⟨hu, x, hx, hx1, hx2⟩ := eltOf_spec ht
  subst hx1
  obtain ⟨z, hzz⟩ := Option.isSome_iff_exists.1 hz
  obtain ⟨zv, hzv, hzs, hzc⟩ := zeroPV_spec (P := P) (w := w) (pub := pub) (V := V) hzz
  have hzlen := hzl z hzz
  have hlp : ps.length = parts.toList.length := by rw [← hps]; simp
  have hlen2 : parts.toList.length = len := by have := congrArg List.length hidx; simpa using this
  have hl' := hp.length
  have hps'l : ps'.length = len := by omega
  let Q : PV → Value → Prop := fun c u => c = .undef ∨ (u.oneCell' = true ∧ Rep pub w c u)
  have hfs := fillPV_seq (sz := x.size) ps' 0 (List.replicate (len * x.size) .undef) hsz (by simp [hps'l])
  have hflat := flat_length hsz
  have hfs2 : fillPV (fun i => some (i * x.size, x.size)) (List.replicate (len * x.size) .undef) ((List.range len).zip ps') = some (flat ps') := by
   rw [List.range_eq_range', ← hps'l] 
   rw [hps'l] at hfs ⊢
   rw [hfs]; simp
  have hfill := fill_sound (Q := Q) (place := fun i => some (i * x.size, x.size)) (parts.toList.map fun y => (y.1, a.eval y.2)) ((List.range len).zip ps') ((Array.range (len * x.size)).map (zv.cells[· % zv.cells.size]!)) (List.replicate (len * x.size) .undef) (flat ps')
   (by rw [List.map_fst_zip (by simp [hps'l]), ← hidx]; simp) (fun k iv ip h1 h2 => by
    simp only [List.getElem?_map, Option.map_eq_some_iff] at h1
    obtain ⟨y', hy', rfl⟩ := h1
    have h3 : ps'[k]? = some ip.2 := by
     rw [List.getElem?_zip_eq_some] at h2; exact h2.2
    have hk : k < ps.length := by rw [← hl']; exact (List.getElem?_eq_some_iff.1 h3).1
    have h4 : ps[k]? = some (s.ev y'.2) := by
     rw [← hps]; simp [hy']
    have hr := hp.rep h k _ _ (a.eval y'.2) h4 h3 (h.ev y'.2)
    have hcl := hr.cells_of (hp.not_tuple _ (List.mem_of_getElem? h3))
    exact ⟨hcl.1, fun j c hj => .inr (hcl.2 j c hj)⟩) ⟨by simp, fun j c hj => .inl (by
     simp only [List.getElem?_replicate] at hj
     split at hj <;> simp_all)⟩ hfs2
  obtain ⟨arr, h1, h2⟩ := hfill
  have hrun : (Instr.buildSlice t len (parts.map fun (i, y) => (i, a.eval y))).run P w = .ok (.slice (some ⟨w.heap.size, 0, none⟩) len len) (w.alloc (.cells arr e)) := by
   have hin : (parts.map fun (i, y) => (i, a.eval y)).toList = parts.toList.map fun y => (y.1, a.eval y.2) := by simp
   have hgt : ¬ (len * x.size > 2 ^ 24) := by
    have : (65536 : Nat) ≤ 2 ^ 24 := by decide
    omega
   unfold Instr.buildSlice
   rw [hin]
   simp only [Sem.run_bind, run_underlying hu, Result.andThen_ok]
   by_cases h0 : len * x.size = 0
   ·have h1' : Instr.fill (fun i => some (i * x.size, x.size)) ((Array.range (len * x.size)).map ((#[] : Array Value)[· % (#[] : Array Value).size]!)) (parts.toList.map fun y => (y.1, a.eval y.2)) = some arr := by
     rw [← h1]; congr 1; rw [h0]; simp
    simp [sizeOf, typeInfo, hx, h0]
    rw [h0] at h1'
    simp at h1'
    simp [h1', newRow]
   ·simp [sizeOf, typeInfo, hx, hgt, h0, hzv, h1, newRow]
  have hown : (w.alloc (.cells arr e)).ownsRow w.heap.size e x.size (.slice (some ⟨w.heap.size, 0, none⟩) len len) ps'.length arr.toList := by
   rw [hps'l]
   refine ⟨by simp [h2.1, hflat, hps'l], .inr ⟨w.heap.size, len, arr, rfl, Nat.le_refl _, heap_alloc_new w _, Nat.le_refl _, ?_, by rw [h2.1, hflat, hps'l], ?_⟩⟩
   ·have : len ≤ len * x.size := Nat.le_mul_of_pos_right _ hsz0
    simp only [maxLen]; omega
   ·rw [List.take_of_length_le]; simp [h2.1, hflat, hps'l]
  have hmxx : ps'.length ≤ 9223372036854775807 := by
   rw [hps'l]
   have : len ≤ len * x.size := Nat.le_mul_of_pos_right _ hsz0
   omega
  obtain ⟨pub1, q1, q2, hrel1⟩ := h.newObj (64 * d) (by omega) hm y e x.size ps' _ arr.toList (eltOf_lt ht) ((Below.refl _ _).alloc (Nat.le_refl _) (.cells arr e)) hsz0 hmxx hsz hown (fun i c hi => by
   have := h2.2 i c hi
   have hg : arr.toList.getD i Go.undef = arr.getD i Go.undef := by simp
   rw [hg]
   rcases this with hc | hc
   ·exfalso
    subst hc
    obtain ⟨i', el, j', g1, g2, _, _⟩ := flat_at hsz hi
    have hk : i' < ps.length := by rw [← hl']; exact (List.getElem?_eq_some_iff.1 g1).1
    have hpi : i' < parts.toList.length := by omega
    have h4 : ps[i']? = some (s.ev (parts.toList[i']'hpi).2) := by
     rw [← hps, List.getElem?_map, List.getElem?_eq_getElem hpi]; rfl
    have hr := hp.rep h i' _ _ _ h4 g1 (h.ev _)
    have hcl := hr.cells_of (hp.not_tuple _ (List.mem_of_getElem? g1))
    have := (hcl.2 j' _ g2).2
    cases this
   ·exact hc)
  have hsz1 : w0.w.heap.size ≤ w.heap.size := h.below.size
  exact ⟨_, _, fun _ _ _ _ _ => .inl (run_value hrun), pub1, _, fun b o ho => q1 b o (c1 b o ho), fun b o ho => (q2 b o ho).elim (c2 b o) (fun h3 => .inr (.inl (by omega))), hrel1, .ref (.own (64 * d) _ _ y e x.size ps' (upd_same _ _ _) (Nat.le_refl _) (fun _ => (updV_same _ _ _).symm))⟩
 | makeSlice t x y e sz by' z el k k' n ht hsz0 hz hel hzl hp hx hy h0 hn hb hm =>
  obtain ⟨hu, i, hi, hi1, hi2⟩ := eltOf_spec ht
  subst hi1
  subst hi2
  obtain ⟨zv, hzv, hzs, hzc⟩ := zeroPV_spec (P := P) (w := w) (pub := pub) (V := V) hz
  have hiz : i.zero = some zv := by
   simp only [zeroValue, typeInfo, Sem.run_bind, run_program, Result.andThen_ok, hi, Sem.run_pure] at hzv
   cases hzz : i.zero with
   | none => simp [hzz] at hzv
   | some z' => simp [hzz] at hzv; rw [hzv]
  have h1 := (hx ▸ h.ev x).lit_inv.1
  have h2 := (hy ▸ h.ev y).lit_inv.1
  have hbytes : (i.bytes : Int) * n ≤ 281474976710656 := by
   have h3 : (i.bytes : Int) * n ≤ 128 * 1099511627776 := Int.mul_le_mul (by omega) hn h0 (by omega)
   omega
  have hrun := run_make w t e i zv hu hi hiz k k' n n h0 (Int.le_refl _) hbytes (by omega)
  have hms : (madeCells zv.cells (n.toNat * i.size)).size = n.toNat * i.size := size_madeCells _ _
  have hlr : ∀ q ∈ List.replicate n.toNat el, q.cells.length = i.size := fun q hq => by rw [List.eq_of_mem_replicate hq, (zc_at hel).1, hzl]
  have hfl := flat_length hlr
  rw [List.length_replicate] at hfl
  have hown : (w.alloc (.cells (madeCells zv.cells (n.toNat * i.size)) e)).ownsRow w.heap.size e i.size (.slice (some ⟨w.heap.size, 0, none⟩) n.toNat n.toNat) (List.replicate n.toNat el).length (madeCells zv.cells (n.toNat * i.size)).toList := by
   rw [List.length_replicate]
   refine ⟨by simp [hms], .inr ⟨w.heap.size, n.toNat, _, rfl, Nat.le_refl _, heap_alloc_new w _, Nat.le_refl _, by simp only [maxLen]; omega, hms, ?_⟩⟩
   rw [List.take_of_length_le]; simp [hms]
  obtain ⟨pub1, q1, q2, hrel1⟩ := h.newObj (64 * d) (by omega) hm true e i.size (List.replicate n.toNat el) _ _ (eltOf_lt ht) ((Below.refl _ _).alloc (Nat.le_refl _) (.cells (madeCells zv.cells (n.toNat * i.size)) e)) hsz0 (by rw [List.length_replicate]; omega) hlr hown (fun j c hj => by
   obtain ⟨i', el', j', g1, g2, g3, g4⟩ := flat_at hlr hj
   have hlt : j < n.toNat * i.size := by rw [← hfl]; exact (List.getElem?_eq_some_iff.1 hj).1
   have he : el' = el := List.eq_of_mem_replicate (List.mem_of_getElem? g1)
   subst he
   obtain ⟨c', g2, hcc⟩ := (zc_at hel).2 j' c g2
   have hmod : j % zv.cells.size = j' := by rw [g3, hzs, hzl, Nat.mul_comm, Nat.mul_add_mod]; exact Nat.mod_eq_of_lt g4
   have hval : (madeCells zv.cells (n.toNat * i.size)).toList.getD j Go.undef = zv.cells.getD j' Go.undef := by
    have hjs : j' < zv.cells.size := by omega
    simp [madeCells, hlt, hmod, hjs]
   rw [hval]
   have hr0 := ((hzc j' c' g2).2 s.mem).plain (hp c' (List.mem_of_getElem? g2))
   refine ⟨(hzc j' c' g2).1, ?_⟩
   rcases hcc with rfl | rfl
   ·exact hr0
   ·exact zc_rep hr0)
  have hsz1 : w0.w.heap.size ≤ w.heap.size := h.below.size
  refine ⟨_, _, fun _ _ _ _ _ => .inl (run_value (by rw [h1, h2]; exact hrun)), pub1, _, fun b o ho => q1 b o (c1 b o ho), fun b o ho => (q2 b o ho).elim (c2 b o) (fun h3 => .inr (.inl (by omega))), hrel1, .ref (.own (64 * d) _ _ true e i.size _ (upd_same _ _ _) (by simp) (fun _ => (updV_same _ _ _).symm))⟩
 | makeFunc f caps ps ps' R hps hp =>
  refine .of_same c1 c2 h (.func (.func f) #[] (caps.map a.eval)) (.pure (.fn f ps' _ (by have := hp.length; subst hps; simp at this; simp [this]) (fun j c hj => ?_))) (fun _ _ _ _ _ => run_value (by simp [Instr.makeFunc]))
  have hl := hp.length
  have hjl : j < ps.length := by rw [← hl]; exact (List.getElem?_eq_some_iff.1 hj).1
  obtain ⟨x, hx, hrv⟩ := h.at_op caps.toList j _ (by rw [hps]; exact List.getElem?_eq_getElem hjl)
  have hg : (caps.map a.eval).getD j Go.undef = a.eval x := by
   rw [Array.getElem?_toList] at hx
   simp [hx]
  rw [hg]
  exact hp.rep h j _ c _ (List.getElem?_eq_getElem hjl) hj hrv
 | fieldAddr_l t x f n off o' ht hx =>
  obtain ⟨x', cs', b, hm', hb, h1⟩ := (hx ▸ h.ev x).lptr_inv
  exact .of_same c1 c2 h (.pointer (some ⟨b, off + o', none⟩)) (.ref (.lptr n _ x' cs' b hm' hb)) (fun _ _ _ _ _ => run_value (by rw [h1]; exact run_fieldAt ht b off))
 | fieldAddr_c t x f off o' cs ht hx =>
  obtain ⟨b, o, W, h1, hd, hc⟩ := (hx ▸ h.ev x).cptr_inv
  exact .of_same c1 c2 h (.pointer (some ⟨b, o + (off + o'), none⟩)) (.pure (.cptr b o _ cs W hd hc)) (fun _ _ _ _ _ => run_value (by rw [h1, ← Nat.add_assoc]; exact run_fieldAt ht b (o + off)))
 | fieldAddr_e t x f n k i off o' y e sz l ht hx hm hk =>
  obtain ⟨x', e', sz'', l', hm', hle, h1⟩ := (hx ▸ h.ev x).eptr_inv
  rw [hm] at hm'; cases hm'
  obtain ⟨gg, cap, hV, h2⟩ := h1 hk
  exact .of_same c1 c2 h (.pointer (some ⟨gg, i * sz + (off + o'), none⟩)) (.ref (.eptr n k i _ _ y e sz l hm hle (fun _ => ⟨gg, cap, hV, rfl⟩))) (fun _ _ _ _ _ => run_value (by rw [h2, ← Nat.add_assoc]; exact run_fieldAt ht gg _))
 | field t x f cs pl o' sz g ft v ht hs hg hx hv =>
  obtain ⟨arr, h1, hsz, hc⟩ := (hx ▸ h.ev x).agg_inv
  split at ht <;> try cases ht
  rename_i fs hu
  simp only [Option.map_eq_some_iff, Prod.mk.injEq] at ht
  obtain ⟨f', hf', rfl, rfl⟩ := ht
  unfold loadPV at hv
  cases g with
  | false =>
   simp only [Bool.false_eq_true, if_false] at hv
   have hlt : f'.offset < arr.size := by rw [hsz]; exact (List.getElem?_eq_some_iff.1 hv).1
   refine .of_same c1 c2 h (arr.getD f'.offset Go.undef) (hc _ p hv).2 (fun _ _ _ _ _ => run_value ?_)
   rw [h1]
   simp [Instr.field, run_underlying hu, hf', asAgg, part, shp_agg hs w, hlt]
  | true =>
   simp only [if_true] at hv
   split at hv <;> cases hv
   rename_i hle
   refine .of_same c1 c2 h (.agg (arr.extract f'.offset (f'.offset + sz))) (.agg _ _ (by simp; omega) (fun j c hj => ?_) (fun j c hj => ?_)) (fun _ _ _ _ _ => run_value ?_)
   ·obtain ⟨h2, h3⟩ := take_drop_get _ _ _ _ _ hj
    have : (arr.extract f'.offset (f'.offset + sz)).getD j Go.undef = arr.getD (f'.offset + j) Go.undef := by
     have hlt : f'.offset + j < arr.size := by omega
     simp [Array.getElem?_extract, show j < min (f'.offset + sz) arr.size - f'.offset by omega, hlt]
    rw [this]; exact (hc _ c h2).1
   ·obtain ⟨h2, h3⟩ := take_drop_get _ _ _ _ _ hj
    have : (arr.extract f'.offset (f'.offset + sz)).getD j Go.undef = arr.getD (f'.offset + j) Go.undef := by
     have hlt : f'.offset + j < arr.size := by omega
     simp [Array.getElem?_extract, show j < min (f'.offset + sz) arr.size - f'.offset by omega, hlt]
    rw [this]; exact (hc _ c h2).2
   ·rw [h1]
    simp [Instr.field, run_underlying hu, hf', asAgg, part, shp_agg hs w, shp_size hs w]
 | indexAddr_s t x y e sz by' l k i el ht hx hy h0 hi hsz =>
  have hrep := (hx ▸ h.ev x).slice_inv
  have hil : i.toNat < l.length := (List.getElem?_eq_some_iff.1 hi).1
  generalize hvv : a.eval x = vv at hrep
  have h1 := (hy ▸ h.ev y).lit_inv.1
  cases hrep with
  | slice0 ad cap => simp at hil
  | slice b o cap sz' _ W hsz' hcap hmx hd hc =>
   have : sz' = sz := by rw [← hsz, hsz' el (List.mem_of_getElem? hi)]
   subst this
   refine .of_same c1 c2 h (.pointer (some ⟨b, (o + i.toNat * sz') + 0, none⟩)) (.pure (.cptr b (o + i.toNat * sz') 0 el.cells (fun j => W (i.toNat * sz' + j)) (fun j c hj => ?_) (fun j c hj => ?_))) (fun _ _ _ _ _ => run_value (by rw [hvv, h1]; exact run_indexAt ht k i b o _ _ h0 (by omega)))
   ·have := hd _ c (flat_get hsz' hi hj)
    rw [Nat.add_assoc]; exact this
   ·exact hc _ c (flat_get hsz' hi hj)
 | indexAddr_o t x y e sz by' n k' l k i el ht hx hm hk hy h0 hi =>
  obtain ⟨x', e', sz'', l', hm', _, hv'⟩ := (hx ▸ h.ev x).own_inv
  rw [hm] at hm'; cases hm'
  have hmn := h.mem n
  rw [hm] at hmn
  have hil : i.toNat < l.length := (List.getElem?_eq_some_iff.1 hi).1
  obtain ⟨gg, cap, hV, hel, hcell⟩ := hmn.elem hi
  have h1 := (hy ▸ h.ev y).lit_inv.1
  refine .of_same c1 c2 h (.pointer (some ⟨gg, (i.toNat * sz) + 0, none⟩)) (.pure (.cptr gg (i.toNat * sz) 0 el.cells (fun j => (w.cell? ⟨gg, i.toNat * sz + j, none⟩).getD Go.undef) (fun j c hj => ?_) (fun j c hj => ?_))) (fun _ _ _ _ _ => run_value (by
   rw [hv' hk, hV, h1]
   have := run_indexAt (P := P) (w := w) ht k i gg 0 l.length cap h0 (by omega)
   rw [Nat.zero_add] at this; exact this))
  ·obtain ⟨u, h3, h4, h5, h6⟩ := hcell j c hj
   exact ⟨h6 rfl, by rw [h3]; rfl, by rw [h3]; exact h4⟩
  ·obtain ⟨u, h3, h4, h5, h6⟩ := hcell j c hj
   rw [h3]; exact h5
 | indexAddr_x t x y e sz by' ee n k' b l k i ht hx hm hk hy h0 hi =>
  obtain ⟨x', e', sz'', l', hm', hle, hv'⟩ := (hx ▸ h.ev x).own_inv
  rw [hm] at hm'; cases hm'
  have hmn := h.mem n
  rw [hm] at hmn
  have hil : i.toNat < l.length := by omega
  obtain ⟨gg, cap, hV, hel, hcell⟩ := hmn.elem (List.getElem?_eq_getElem hil)
  have h1 := (hy ▸ h.ev y).lit_inv.1
  refine .of_same c1 c2 h (.pointer (some ⟨gg, i.toNat * sz + 0, none⟩)) (.ref (.eptr n k' i.toNat 0 _ b ee sz l hm hle (fun _ => ⟨gg, cap, hV, rfl⟩))) (fun _ _ _ _ _ => run_value (by
   rw [hv' hk, hV, h1]
   have := run_indexAt (P := P) (w := w) ht k i gg 0 l.length cap h0 (by omega)
   rw [Nat.zero_add] at this; exact this))
 | indexAddr_a t x y len sz n off k i ht hx hy h0 hi =>
  obtain ⟨x', cs', b, hm', hb, h1⟩ := (hx ▸ h.ev x).lptr_inv
  have h2 := (hy ▸ h.ev y).lit_inv.1
  exact .of_same c1 c2 h (.pointer (some ⟨b, off + i.toNat * sz, none⟩)) (.ref (.lptr n _ x' cs' b hm' hb)) (fun _ _ _ _ _ => run_value (by rw [h1, h2]; exact run_indexArr ht k i b off h0 hi))
 | indexStr t x y b k i u ht hx hy h0 hi =>
  have h1 := (hx ▸ h.ev x).lit_inv.1
  have h2 := (hy ▸ h.ev y).lit_inv.1
  refine .of_same c1 c2 h (.int .u8 u.toNat) (.pure (.lit _ rfl)) (fun _ _ _ _ _ => run_value ?_)
  rw [h1, h2]
  simp [Instr.index, asIntOf, run_underlying ht, h0, hi]
 | extract x i vs v hx hv =>
  obtain ⟨arr, h1, hs, hc⟩ := (hx ▸ h.ev x).tuple_inv
  have hlt : i < arr.size := by rw [hs]; exact (List.getElem?_eq_some_iff.1 hv).1
  refine .of_same c1 c2 h (arr.getD i Go.undef) (hc i p hv) (fun _ _ _ _ _ => run_value ?_)
  rw [h1]; simp [Instr.extract, hlt]
 | lenStr t x b ht hx =>
  have h1 := (hx ▸ h.ev x).lit_inv.1
  refine .of_same c1 c2 h (.int .i64 b.size) (.pure (.lit _ rfl)) (fun _ _ _ _ _ => ?_)
  simp [execOp, resolve, invoke, builtin, h1, Builtin.len_, run_underlying ht, goInt]
 | lenLst t x p l R e sz by' ht hx hl =>
  obtain ⟨ad, cap, h1⟩ := hl.len h (hx ▸ h.ev x)
  refine .of_same c1 c2 h (.int .i64 l.length) (.pure (.lit _ rfl)) (fun _ _ _ _ _ => ?_)
  simp [execOp, resolve, invoke, builtin, h1, Builtin.len_, run_underlying (eltOf_spec ht).1, goInt]
 | append t x y n k b e sz by' l lb z q R ht hz hzl hx hm hk hy hq hlb hb hn h63 =>
  obtain ⟨x', e', sz', l', hm', hle, hv'⟩ := (hx ▸ h.ev x).own_inv
  rw [hm] at hm'; cases hm'
  have hbd : (l.length + lb.length) * by' ≤ 140737488355328 := Nat.le_trans (Nat.mul_le_mul hn hb) (by decide)
  obtain ⟨v', w', hr, pub', p1, p2, hrel⟩ := h.appendOwn (P := P) h63 (ty := 0) hm ht hz hzl hq hlb (hy ▸ h.ev y) hbd (by omega)
  refine ⟨v', w', fun dst ty pos after guard => .inl ?_, pub', _, fun b o ho => p1 b o (c1 b o ho), fun b o ho => (p2 b o ho).elim (c2 b o) .inr, hrel, .ref (.own n _ _ b e sz (l ++ lb) (upd_same _ _ _) (by simp) (fun _ => (updV_same _ _ _).symm))⟩
  have hr' : (Builtin.append_ #[t, t] ty #[a.eval x, a.eval y]).run P w = .ok v' w' := by rw [hv' hk]; exact hr
  simp [execOp, resolve, invoke, builtin, hr']
 | appendNil b t x y e sz by' lb z q R ht hsz hz hzl hx hy hq hlb hb hn hm =>
  have h1 := (hx ▸ h.ev x).nils_inv
  have hbd : (0 + lb.length) * by' ≤ 140737488355328 := Nat.le_trans (Nat.mul_le_mul (by omega : 0 + lb.length ≤ 1099511627776) hb) (by decide)
  obtain ⟨pub1, q1, q2, hrel1⟩ := h.newObj (64 * d) (by omega) hm b e sz [] (.slice none 0 0) [] (eltOf_lt ht) (Below.refl _ _) hsz (by simp) (fun _ h => by cases h) (World.ownsRow_nil w _ e sz) (fun i c hi => by simp at hi)
  have hq' : Lst (upd s.mem (64 * d) (.obj b e sz [])) q lb R := by
   cases hq with
   | pure => exact .pure _
   | nils => exact .nils
   | own n k x' e' sz' _ hm' hk =>
    have hne : n ≠ 64 * d := fun e => by rw [e, hm] at hm'; cases hm'
    exact .own n k x' e' sz' _ (by rw [upd_ne _ _ hne]; exact hm') hk
  have hu' := hrel1.ev y
  have e1 : St.ev { s with mem := upd s.mem (64 * d) (.obj b e sz []) } y = q := by rw [← hy]; cases y <;> rfl
  rw [e1] at hu'
  obtain ⟨v', w', hr, pub', p1, p2, hrel⟩ := hrel1.appendOwn (P := P) (n := 64 * d) (by omega) (ty := 0) (upd_same _ _ _) ht hz hzl hq' hlb (u := a.eval y) hu' (by simpa using hbd) (by simp; omega)
  have e2 : upd (upd s.mem (64 * d) (.obj b e sz [])) (64 * d) (.obj b e sz ([] ++ lb)) = upd s.mem (64 * d) (.obj b e sz lb) := by funext k; by_cases hk : k = 64 * d <;> simp [upd, hk]
  rw [e2] at hrel
  have hsz0 : w0.w.heap.size ≤ w.heap.size := h.below.size
  refine ⟨v', w', fun dst ty pos after guard => .inl ?_, pub', _, fun b o ho => p1 b o (q1 b o (c1 b o ho)), fun b o ho => (p2 b o ho).elim (fun h3 => (q2 b o h3).elim (c2 b o) (fun h4 => .inr (.inl (by omega)))) .inr, hrel, .ref (.own (64 * d) _ _ b e sz lb (upd_same _ _ _) (Nat.le_refl _) (fun _ => (updV_same _ _ _).symm))⟩
  rw [updV_same] at hr
  have hr' : (Builtin.append_ #[t, t] ty #[a.eval x, a.eval y]).run P w = .ok v' w' := by rw [h1]; exact hr
  simp [execOp, resolve, invoke, builtin, hr']
 | max2 t t' x y k b c hx hy =>
  have h1 := (hx ▸ h.ev x).lit_inv.1
  have h2 := (hy ▸ h.ev y).lit_inv.1
  refine .of_same c1 c2 h (.int k (max b c)) (.pure (.lit _ rfl)) (fun _ _ _ _ _ => ?_)
  simp [execOp, resolve, invoke, builtin, h1, h2, Builtin.max_, Builtin.max2]
  omega
 | min2 t t' x y k b c hx hy =>
  have h1 := (hx ▸ h.ev x).lit_inv.1
  have h2 := (hy ▸ h.ev y).lit_inv.1
  refine .of_same c1 c2 h (.int k (min b c)) (.pure (.lit _ rfl)) (fun _ _ _ _ _ => ?_)
  simp [execOp, resolve, invoke, builtin, h1, h2, Builtin.min_, Builtin.min2]
  omega
 | sliceStr t x b lo hi i j ht hx hlo hhi h0 h1 h2 =>
  have hv := (hx ▸ h.ev x).lit_inv.1
  have hb := run_bounds (P := P) (w := w) (isS := false) (len := b.size) (cap := b.size) (operand_int h hlo) (operand_int h hhi) h0 h1 h2
  refine .of_same c1 c2 h (.string (b.extract i.toNat j.toNat)) (.pure (.lit _ rfl)) (fun _ _ _ _ _ => run_value ?_)
  rw [hv]
  unfold Instr.sliceAt
  simp [run_underlying ht, Instr.slice, hb]
 | sliceS t x l lo hi e sz by' i j ht hsz hx hlo hhi h0 h1 h2 =>
  obtain ⟨u, hu, hr⟩ := run_sub (P := P) ht (hx ▸ h.ev x).slice_inv hsz (operand_int h hlo) (operand_int h hhi) h0 h1 h2
  exact .of_same c1 c2 h u (.pure hr) (fun _ _ _ _ _ => run_value hu)
 | sliceO t x n k l lo hi e sz by' i j ht hx hm hk hlo hhi h0 h1 h2 =>
  obtain ⟨x', e', sz', l', hm', hle, hv'⟩ := (hx ▸ h.ev x).own_inv
  rw [hm] at hm'; cases hm'
  have hmn := h.mem n
  rw [hm] at hmn
  have hrep := Rep.slice_own hmn
  rw [← hv' hk] at hrep
  have hsz : ∀ e ∈ l, e.cells.length = sz := by cases hmn; assumption
  obtain ⟨u, hu, hr⟩ := run_sub (P := P) ht hrep hsz (operand_int h hlo) (operand_int h hhi) h0 h1 h2
  exact .of_same c1 c2 h u (.pure hr) (fun _ _ _ _ _ => run_value hu)
 | sliceX t x n k l lo hi e sz by' i j ht hx hm hk hpos hlo hhi h0 h1 h2 =>
  obtain ⟨x', e', sz', l', hm', hle, hv'⟩ := (hx ▸ h.ev x).own_inv
  rw [hm] at hm'; cases hm'
  have hmn := h.mem n
  rw [hm] at hmn
  obtain ⟨hu, xi, hxi, hx1, hx2⟩ := eltOf_spec ht
  subst hx1
  generalize hVn : V n = vn at hmn
  cases hmn with
  | obj _ _ _ _ xs hsz hmx hl how hp hq hc =>
   rcases how.1.2 with ⟨g1, g2⟩ | ⟨g, cap, cur, g1, _, hh, hnc, hcm, hcs, htk⟩
   ·omega
   ·subst g1
    have hb := run_bounds (P := P) (w := w) (isS := true) (len := l.length) (cap := cap) (operand_int h hlo) (operand_int h hhi) h0 h1 (by omega)
    refine .of_same c1 c2 h (.slice (some ⟨g, (if cap = i.toNat then 0 else i.toNat * xi.size), none⟩) (j.toNat - i.toNat) (cap - i.toNat)) (.ref (.osl n k i.toNat j.toNat _ true e xi.size l hm hle ⟨by omega, by omega⟩ (fun _ => ⟨g, cap, hVn, rfl⟩))) (fun _ _ _ _ _ => run_value ?_)
    rw [hv' hk, hVn]
    unfold Instr.sliceAt
    simp [run_underlying hu, Instr.slice, hb, sizeOf, typeInfo, hxi]
    by_cases hci : cap = i.toNat
    ·simp [hci]
    ·simp [hci, Addr.add]
     exact fun e => e.symm
 | lenL t x n k i j b e sz by' l ht hx hm hk =>
  obtain ⟨x', e', sz', l', hm', hle, hij, hv'⟩ := (hx ▸ h.ev x).osl_inv
  rw [hm] at hm'; cases hm'
  obtain ⟨g, cap, hV, hv⟩ := hv' hk
  refine .of_same c1 c2 h (.int .i64 ((j - i : Nat) : Int)) (.pure (.lit _ rfl)) (fun _ _ _ _ _ => ?_)
  simp [execOp, resolve, invoke, builtin, hv, Builtin.len_, run_underlying (eltOf_spec ht).1, goInt]
 | indexAddr_l t x y e sz by' n k' i j b l kk z ht hx hm hk hy h0 hz =>
  obtain ⟨x', e', sz'', l', hm', hle, hij, hv'⟩ := (hx ▸ h.ev x).osl_inv
  rw [hm] at hm'; cases hm'
  have hmn := h.mem n
  rw [hm] at hmn
  have hil : i + z.toNat < l.length := by omega
  obtain ⟨g, cap, hV, hv⟩ := hv' hk
  have hcap : l.length ≤ cap := by
   rw [hV] at hmn
   cases hmn with
   | obj _ _ _ _ xs hsz hmx hl how hp hq hc =>
    rcases how.1.2 with ⟨g1, g2⟩ | ⟨g', cap', cur, g1, _, hh, hnc, hcm, hcs, htk⟩
    ·cases g1
    ·cases g1; exact hnc
  have h1 := (hy ▸ h.ev y).lit_inv.1
  refine .of_same c1 c2 h (.pointer (some ⟨g, (i + z.toNat) * sz + 0, none⟩)) (.ref (.eptr n k' (i + z.toNat) 0 _ b e sz l hm hle (fun _ => ⟨g, cap, hV, rfl⟩))) (fun _ _ _ _ _ => run_value (by
   rw [hv, h1, if_neg (by omega)]
   have := run_indexAt (P := P) (w := w) ht kk z g (i * sz) (j - i) (cap - i) h0 hz
   rw [this, Nat.add_mul, Nat.add_zero]))
 | clearL t x n k i j e sz by' z el l ht hz hel hzl hp hx hm hk =>
  obtain ⟨x', e', sz', l', hm', hle, hij, hv'⟩ := (hx ▸ h.ev x).osl_inv
  rw [hm] at hm'; cases hm'
  have hmn := h.mem n
  rw [hm] at hmn
  obtain ⟨g, cap, hV, hv⟩ := hv' hk
  obtain ⟨hu, xi, hxi, hx1, hx2⟩ := eltOf_spec ht
  subst hx1
  obtain ⟨zv, hzv, hzs, hzc⟩ := zeroPV_spec (P := P) (w := w) (pub := pub) (V := V) hz
  have hl : ∀ q ∈ l, q.cells.length = xi.size := by cases hmn; assumption
  have hcap : l.length ≤ cap := by
   rw [hV] at hmn
   cases hmn with
   | obj _ _ _ _ xs hsz hmx hl how hp hq hc =>
    rcases how.1.2 with ⟨g1, g2⟩ | ⟨g', cap', cur, g1, _, hh, hnc, hcm, hcs, htk⟩
    ·cases g1
    ·cases g1; exact hnc
  have htup : ∀ (w' : World) (V' : Nat → Value) (m' : Nat → PV), RV pub w' V' m' (.tuple []) (.tuple #[]) := fun _ _ _ => .pure (.tuple [] #[] rfl (fun j c hj => by simp at hj))
  by_cases hz0 : j - i = 0
  ·have he : l.take i ++ List.replicate (j - i) el ++ l.drop j = l := by
    rw [hz0, show j = i by omega]
    simp
   rw [he]
   have hup : upds s.mem [(n, .obj true e xi.size l)] = s.mem := by
    funext q
    show upd s.mem n _ q = _
    unfold upd
    split
    ·rename_i hq; rw [hq, hm]
    ·rfl
   refine ⟨.tuple #[], w, fun dst ty pos after guard => .inl ?_, pub, V, c1, c2, by rw [hup]; exact h, htup _ _ _⟩
   have : a.eval x = .slice (some ⟨g, (if cap = i then 0 else i * xi.size), none⟩) 0 (cap - i) := by rw [hv, hz0]
   simp [execOp, resolve, invoke, builtin, this, Builtin.clear_, run_underlying hu]
  ·have hlr : ∀ q ∈ List.replicate (j - i) el, q.cells.length = xi.size := fun q hq => by rw [List.eq_of_mem_replicate hq, (zc_at hel).1, hzl]
   have hfl := flat_length hlr
   rw [List.length_replicate] at hfl
   have hms : (Builtin.zeroCells zv.cells (j - i)).toList.length = (j - i) * xi.size := by simp [Builtin.zeroCells, hzs, hzl]
   have hle2 : (i + (j - i)) * xi.size ≤ l.length * xi.size := Nat.mul_le_mul_right _ (by omega)
   rw [Nat.add_mul] at hle2
   obtain ⟨w', hw, hrel⟩ := h.spliceObj (P := P) hm hV (Builtin.zeroCells zv.cells (j - i)).toList (flat (List.replicate (j - i) el)) (i * xi.size) (l' := l.take i ++ List.replicate (j - i) el ++ l.drop j) (by omega) (by omega)
    (fun q hq => by
     rcases List.mem_append.1 hq with hq | hq
     ·rcases List.mem_append.1 hq with hq | hq
      ·exact hl q (List.mem_of_mem_take hq)
      ·exact hlr q hq
     ·exact hl q (List.mem_of_mem_drop hq)) (by simp; omega) (flat_mid hl hij.1 (by omega) _ hfl) (fun k c hk => by
     obtain ⟨i', el', j', g1, g2, g3, g4⟩ := flat_at hlr hk
     have hlt : k < (j - i) * xi.size := by rw [← hfl]; exact (List.getElem?_eq_some_iff.1 hk).1
     have he : el' = el := List.eq_of_mem_replicate (List.mem_of_getElem? g1)
     subst he
     obtain ⟨c', g2', hcc⟩ := (zc_at hel).2 j' c g2
     have hmod : k % zv.cells.size = j' := by rw [g3, hzs, hzl, Nat.mul_comm, Nat.mul_add_mod]; exact Nat.mod_eq_of_lt g4
     have hval : (Builtin.zeroCells zv.cells (j - i)).toList.getD k Go.undef = zv.cells.getD j' Go.undef := by
      have hjs : j' < zv.cells.size := by omega
      have hlt' : k < (j - i) * zv.cells.size := by rw [hzs, hzl]; exact hlt
      simp [Builtin.zeroCells, hlt', hmod, hjs]
     rw [hval]
     have hr0 := ((hzc j' c' g2').2 s.mem).plain (hp c' (List.mem_of_getElem? g2'))
     refine ⟨(hzc j' c' g2').1, ?_⟩
     rcases hcc with rfl | rfl
     ·exact hr0
     ·exact zc_rep hr0)
   refine ⟨.tuple #[], w', fun dst ty pos after guard => .inl ?_, pub, V, c1, c2, hrel, htup _ _ _⟩
   have hci : cap ≠ i := by omega
   have hev : a.eval x = .slice (some ⟨g, i * xi.size, none⟩) (j - i) (cap - i) := by rw [hv, if_neg hci]
   obtain ⟨q, hq⟩ : ∃ q, j - i = q + 1 := ⟨j - i - 1, by omega⟩
   rw [hq] at hev hw
   simp [execOp, resolve, invoke, builtin, hev, Builtin.clear_, run_underlying hu, hzv, hw]
 | lenY sk c t x l e sz by' ht hx =>
  obtain ⟨own, hm, hy⟩ := (hx ▸ h.ev x).yw_inv
  obtain ⟨ad, cap, h1, _⟩ := hy.slice
  refine .of_same c1 c2 h (.int .i64 l.length) (.pure (.lit _ rfl)) (fun _ _ _ _ _ => ?_)
  simp [execOp, resolve, invoke, builtin, h1, Builtin.len_, run_underlying (eltOf_spec ht).1, goInt]
 | indexAddr_y sk c t x y e sz by' l k i el ht hx hy h0 hi hsz =>
  obtain ⟨own, hm, hyr⟩ := (hx ▸ h.ev x).yw_inv
  obtain ⟨ad, cap, hv, hel⟩ := hyr.slice
  have hil : i.toNat < l.length := (List.getElem?_eq_some_iff.1 hi).1
  obtain ⟨b, o, rfl, hp⟩ := hel _ el hi
  have h1 := (hy ▸ h.ev y).lit_inv.1
  rw [hsz] at hp
  exact .of_same c1 c2 h _ (hp.rv hm) (fun _ _ _ _ _ => run_value (by rw [hv, h1]; exact run_indexAt ht k i b o _ _ h0 (by omega)))
 | fieldAddr_y sk c t x f off o' cs ht hx =>
  obtain ⟨own, hm, hyr⟩ := (hx ▸ h.ev x).yw_inv
  obtain ⟨b, o, W, h1, _, hp⟩ := hyr.cptr
  exact .of_same c1 c2 h (.pointer (some ⟨b, o + (off + o'), none⟩)) ((hp _).rv hm) (fun _ _ _ _ _ => run_value (by rw [h1, ← Nat.add_assoc]; exact run_fieldAt ht b (o + off)))
 | load_y sk c t x g sz off cs v ht hg hx hv =>
  obtain ⟨own, hm, hyr⟩ := (hx ▸ h.ev x).yw_inv
  obtain ⟨b, o, W, h1, hd, _⟩ := hyr.cptr
  obtain ⟨u, hu, hru⟩ := run_loadPV (P := P) (w := w) (m := s.mem) (V := V) (pub := pub) ht hg b o off (cs.map (wrapY sk c)) W (fun j q hj => by
   rw [List.getElem?_map, Option.map_eq_some_iff] at hj
   obtain ⟨q', hq, rfl⟩ := hj
   have := hd j q' hq
   exact ⟨this.1, this.2.1, this.2.2.1.wrap hm⟩) hv
  exact .of_same c1 c2 h u hru (fun _ _ _ _ _ => run_value (by rw [h1]; exact hu))
 | shrI t t' x y k yk b c hx hy h0 =>
  have h1 := (hx ▸ h.ev x).lit_inv.1
  have h2 := (hy ▸ h.ev y).lit_inv.1
  refine .of_same c1 c2 h (.int k (b.fdiv (2 ^ min c.toNat k.bits))) (.pure (.lit _ rfl)) (fun _ _ _ _ _ => run_value ?_)
  rw [h1, h2]
  have hn : ¬ c < 0 := by omega
  simp [go_sem, Op.shift, hn]
 | shlI t t' x y k yk b c hx hy h0 =>
  have h1 := (hx ▸ h.ev x).lit_inv.1
  have h2 := (hy ▸ h.ev y).lit_inv.1
  refine .of_same c1 c2 h (.int k (k.wrap (b * 2 ^ min c.toNat k.bits))) (.pure (.lit _ rfl)) (fun _ _ _ _ _ => run_value ?_)
  rw [h1, h2]
  have hn : ¬ c < 0 := by omega
  simp [go_sem, Op.shift, hn]
 | bitI op t t' x y k b c r hx hy hr =>
  have h1 := (hx ▸ h.ev x).lit_inv.1
  have h2 := (hy ▸ h.ev y).lit_inv.1
  refine .of_same c1 c2 h (.int k r) (.pure (.lit _ rfl)) (fun _ _ _ _ _ => run_value ?_)
  rw [h1, h2]
  unfold bitsPV at hr
  split at hr <;> cases hr <;> simp [go_sem, Op.intBits]
 | convSB t t' e x b hs hd he hlt hx hsz hm =>
  have h1 := (hx ▸ h.ev x).lit_inv.1
  have hrun := Lib.run_convert_string_bytes (P := P) w t t' e b hs hd he
  have hml : b.size ≤ maxLen := by simp only [maxLen]; omega
  have hcl := grownCap_ge w b.size 0 e
  have hcm := grownCap_le_maxLen w b.size 0 e hml
  have hbl : (bytesL b).length = b.size := by
   unfold bytesL
   rw [List.length_map, Array.length_toList]
   rfl
  have hcs : (Lib.bytesCells w e b).size = grownCap w b.size 0 e := by
   have : b.data.size = b.size := rfl
   simp only [Lib.bytesCells, Array.size_append, Array.size_map, Array.size_replicate, this]
   omega
  have htk : (Lib.bytesCells w e b).toList.take b.size = (bytesL b).map (Value.int .u8) := by
   have : b.data.toList.length = b.size := by
    rw [Array.length_toList]
    rfl
   simp only [Lib.bytesCells, Array.toList_append, Array.toList_map]
   rw [List.take_append_of_le_length (by rw [List.length_map, this]; exact Nat.le_refl _), List.take_of_length_le (by rw [List.length_map, this]; exact Nat.le_refl _)]
   simp [bytesL]
  have hrow : rowG (Lib.bytesWorld w e b) (e + 1099511627776) 1 (.slice (some ⟨w.heap.size, 0, none⟩) b.size (grownCap w b.size 0 e)) ((bytesL b).map fun n => PV.lit (.int .u8 n)).length ((bytesL b).map (Value.int .u8)) := by
   rw [List.length_map, hbl]
   refine ⟨by simp [hbl], .inr ⟨w.heap.size, _, Lib.bytesCells w e b, rfl, Nat.zero_le _, ⟨_, by rw [tyOf, if_pos (by omega), Nat.add_sub_cancel]; exact Lib.bytesWorld_at_new w e b, .inr ⟨by omega, Nat.le_refl _⟩⟩, hcl, hcm, by rw [hcs, Nat.mul_one], by rw [Nat.mul_one]; exact htk⟩⟩
  have hbel : Below w.heap.size w (Lib.bytesWorld w e b) := ⟨by simp [Lib.bytesWorld, World.freeze, World.alloc, World.drew, -World.alloc_eq, -World.drew_eq], by simp [Lib.bytesWorld, World.freeze, World.alloc, World.drew, -World.alloc_eq, -World.drew_eq], by simp [Lib.bytesWorld, World.freeze, World.alloc, World.drew, -World.alloc_eq, -World.drew_eq], by rw [Lib.bytesWorld_size]; omega, fun k hk => Lib.bytesWorld_at_old w e b k hk⟩
  have hlr : ∀ q ∈ (bytesL b).map (fun n => PV.lit (.int .u8 n)), q.cells.length = 1 := fun q hq => by
   obtain ⟨n, _, rfl⟩ := List.mem_map.1 hq
   rfl
  obtain ⟨pub1, q1, q2, hrel1⟩ := h.newObjG (64 * d) (by omega) hm true (e + 1099511627776) 1 ((bytesL b).map fun n => PV.lit (.int .u8 n)) _ _ hbel (by omega) (by rw [List.length_map, hbl]; omega) hlr hrow (fun g hg => by
   simp [Value.ownBlock] at hg
   subst hg
   rw [Lib.bytesWorld_size]
   omega) (fun i c hi => by
   obtain ⟨i', el', j', g1, g2, g3, g4⟩ := flat_at hlr hi
   obtain rfl : j' = 0 := by omega
   rw [List.getElem?_map] at g1
   obtain ⟨z, hz, rfl⟩ := Option.map_eq_some_iff.1 g1
   simp [PV.cells] at g2
   subst g2
   have hi' : i = i' := by omega
   subst hi'
   have : ((bytesL b).map (Value.int .u8)).getD i Go.undef = .int .u8 z := by
    rw [List.getD_eq_getElem?_getD, List.getElem?_map, hz]; rfl
   rw [this]
   exact ⟨rfl, .lit _ rfl⟩)
  have hsz1 : w0.w.heap.size ≤ w.heap.size := h.below.size
  refine ⟨_, _, fun _ _ _ _ _ => .inl (run_value (by rw [h1]; exact hrun)), pub1, _, fun b o ho => q1 b o (c1 b o ho), fun b o ho => (q2 b o ho).elim (c2 b o) (fun h3 => .inr (.inl (by omega))), hrel1, .ref (.own (64 * d) _ _ true _ 1 _ (upd_same _ _ _) (by rw [List.length_map, hbl]; exact Nat.le_refl _) (fun _ => (updV_same _ _ _).symm))⟩
 | convBS t t' e x p xs R hs he hd hx hl =>
  have hsz : ∀ q ∈ xs.map fun n => PV.lit (.int .u8 n), q.cells.length = 1 := fun q hq => by
   obtain ⟨n, _, rfl⟩ := List.mem_map.1 hq
   rfl
  refine .of_same c1 c2 h (.string (strB xs)) (.pure (.lit _ rfl)) (fun _ _ _ _ _ => run_value ?_)
  rcases hl.src h (hx ▸ h.ev x) hsz with ⟨cap, hv, hl0⟩ | ⟨ad, cap, news, hv, hnl, hnews, hn1, hnr⟩
  ·have : xs = [] := by simpa using hl0
   subst this
   rw [hv, run_convert_bytes_string w t t' e none 0 cap hs he hd]
   rfl
  ·rw [hv, run_convert_bytes_string w t t' e (some ad) _ cap hs he hd]
   have hnx : news = xs.map (Value.int .u8) := by
    refine List.ext_getElem (by simpa using hnl) (fun j h1 h2 => ?_)
    have hj : j < xs.length := by simpa using h2
    have hfl : (flat (xs.map fun n => PV.lit (.int .u8 n)))[j]? = some (.lit (.int .u8 xs[j])) := by
     have := flat_get (sz := 1) hsz (i := j) (e := .lit (.int .u8 xs[j])) (by simp [hj]) (j := 0) (c := .lit (.int .u8 xs[j])) rfl
     simpa using this
    have hrj := (hnr j _ hfl).2
    have he : news.getD j Go.undef = .int .u8 xs[j] := by
     generalize news.getD j Go.undef = v at hrj
     cases hrj; rfl
    rw [List.getElem_map, ← he]
    simp [h1]
   have hload := run_loadCells_list (P := P) w ad news hnews
   rw [hnx] at hload
   have hlen : (xs.map fun n => PV.lit (.int .u8 n)).length = xs.length := by simp
   rw [hlen]
   rw [show (xs.map (Value.int .u8)).length = xs.length by simp] at hload
   rw [run_bytesToString w ad xs.length cap xs hload]
   rfl
 | store_y c t x y off cs u u' ht hx hm hc hy hu hs =>
  have hx' : a.eval x = a.eval x := rfl
  obtain ⟨own, hm', hyr⟩ := RV.yw_inv (sk := true) (c := c) (p := .cptr cs off) (hx ▸ h.ev x)
  obtain ⟨b, o, W, h1, hd, _⟩ := hyr.cptr
  obtain ⟨k1, k2, k3, k4, k5⟩ := hd off _ hc
  obtain ⟨h2, h3⟩ := (hy ▸ h.ev y).lit_inv
  obtain ⟨w', hw, hrel⟩ := h.storeReg (P := P) hm ht k4 (k5 rfl) k1 (SRep.lit_inv k3 hu).1 hs h3
  exact ⟨Go.undef, w', fun _ _ _ _ _ => .inr ⟨run_skip (by rw [h1, h2]; exact hw), rfl⟩, pub, V, c1, c2, hrel, .undef _⟩
end
end Go.Px
namespace Go.Px
set_option linter.unusedSimpArgs false
set_option linter.unusedVariables false
open Go.RowKit

inductive RR (pub : Nat → Nat → Prop) (w : World) (B : Nat → Prop) : PV → Value → List Nat → Prop where
 | pure (p : PV) (v : Value) (h : Rep pub w p v) : RR pub w B p v []
 | fresh (x : Bool) (e sz : Nat) (l : List PV) (v : Value) (h : MemOk pub w (fun _ => Go.undef) (fun _ => .undef) B v (.obj x e sz l)) : RR pub w B (.fresh x e sz l) v v.ownBlock.toList
 | agg (cs : List PV) (arr : Array Value) (gs : List (List Nat)) (hs : arr.size = cs.length) (hg : gs.length = cs.length) (hd : ∀ (j : Nat) c, cs[j]? = some c → (arr.getD j Go.undef).oneCell' = true)
   (hc : ∀ (j : Nat) c g, cs[j]? = some c → gs[j]? = some g → RR pub w B c (arr.getD j Go.undef) g) : RR pub w B (.agg cs) (.agg arr) gs.flatten
 | tuple (cs : List PV) (arr : Array Value) (gs : List (List Nat)) (hs : arr.size = cs.length) (hg : gs.length = cs.length)
   (hc : ∀ (j : Nat) c g, cs[j]? = some c → gs[j]? = some g → RR pub w B c (arr.getD j Go.undef) g) : RR pub w B (.tuple cs) (.tuple arr) gs.flatten

def okFn (P : Program) (f : FuncId) : Bool :=
 match P.funcs[f]? with
 | some fn => fn.body.isSome && fn.name != "runtime.NumGoroutine"
 | none => false

def PC (P : Program) (f : FuncId) (args : List PV) (r : PV) : Prop :=
 okFn P f = true ∧ ∀ (w : World) (pub : Nat → Nat → Prop) (vals : List Value), GP P w → (∀ b o, pub b o → b < w.heap.size) → vals.length = args.length → (∀ (i : Nat) p v, args[i]? = some p → vals[i]? = some v → Rep pub w p v) →
  Calls P f vals.toArray w fun e w' => ∃ v, e = .returned v ∧ Below w.heap.size w w' ∧ ∃ pub' gs, (∀ b o, pub b o → pub' b o) ∧ (∀ b o, pub' b o → pub b o ∨ w.heap.size ≤ b) ∧ (∀ b o, pub' b o → b < w'.heap.size ∧ (w.heap.size ≤ b → w'.frozen? ⟨b, o, none⟩ = false)) ∧ RR pub' w' (fun b => w.heap.size ≤ b) r v gs ∧ gs.Nodup

inductive RecvL : Nat → List PV → List PV → List (Nat × PV) → Nat → Prop where
 | nil (n : Nat) : RecvL n [] [] [] n
 | plain (n : Nat) (p : PV) (ps ps' : List PV) (U : List (Nat × PV)) (n' : Nat) (hp : p.plain = true) (h : RecvL n ps ps' U n') : RecvL n (p :: ps) (p :: ps') U n'
 | fresh (n : Nat) (x : Bool) (e sz : Nat) (l ps ps' : List PV) (U : List (Nat × PV)) (n' : Nat) (h : RecvL (n + 1) ps ps' U n') : RecvL n (.fresh x e sz l :: ps) (.own n l.length :: ps') ((n, .obj x e sz l) :: U) n'
 | agg (n : Nat) (cs cs' ps ps' : List PV) (U U' : List (Nat × PV)) (n1 n2 : Nat) (hc : RecvL n cs cs' U n1) (h : RecvL n1 ps ps' U' n2) : RecvL n (.agg cs :: ps) (.agg cs' :: ps') (U ++ U') n2
 | tuple (n : Nat) (cs cs' ps ps' : List PV) (U U' : List (Nat × PV)) (n1 n2 : Nat) (hc : RecvL n cs cs' U n1) (h : RecvL n1 ps ps' U' n2) : RecvL n (.tuple cs :: ps) (.tuple cs' :: ps') (U ++ U') n2

theorem RecvL.length {n : Nat} {ps ps' : List PV} {U : List (Nat × PV)} {n' : Nat} (h : RecvL n ps ps' U n') : ps'.length = ps.length := by
 induction h <;> simp_all
theorem RecvL.names {n : Nat} {ps ps' : List PV} {U : List (Nat × PV)} {n' : Nat} (h : RecvL n ps ps' U n') : n ≤ n' ∧ ∀ q ∈ U, n ≤ q.1 ∧ q.1 < n' := by
 induction h with
 | nil n => exact ⟨Nat.le_refl _, fun q hq => by cases hq⟩
 | plain n p ps ps' U n' hp _ ih => exact ih
 | fresh n x e sz l ps ps' U n' _ ih =>
  refine ⟨by omega, fun q hq => ?_⟩
  rcases List.mem_cons.1 hq with h | h
  ·subst h; exact ⟨Nat.le_refl _, by have := ih.1; show n < n'; omega⟩
  ·have := ih.2 q h; omega
 | agg n cs cs' ps ps' U U' n1 n2 _ _ ih1 ih2 =>
  refine ⟨by omega, fun q hq => ?_⟩
  rcases List.mem_append.1 hq with h | h
  ·have := ih1.2 q h; omega
  ·have := ih2.2 q h; omega
 | tuple n cs cs' ps ps' U U' n1 n2 _ _ ih1 ih2 =>
  refine ⟨by omega, fun q hq => ?_⟩
  rcases List.mem_append.1 hq with h | h
  ·have := ih1.2 q h; omega
  ·have := ih2.2 q h; omega

theorem upds_append (m : Nat → PV) (U U' : List (Nat × PV)) : upds m (U ++ U') = upds (upds m U) U' := by
 induction U generalizing m with
 | nil => rfl
 | cons q U ih => exact ih _
theorem upds_ne {m : Nat → PV} {U : List (Nat × PV)} {k : Nat} (h : ∀ q ∈ U, q.1 ≠ k) : upds m U k = m k := by
 induction U generalizing m with
 | nil => rfl
 | cons q U ih =>
  have := h q (List.mem_cons_self ..)
  rw [upds, ih (fun r hr => h r (List.mem_cons_of_mem _ hr)), upd_ne _ _ (Ne.symm this)]

section
variable {P : Program} {N : Nat} {w0 : Base P} {w w' : World} {pub pub' : Nat → Nat → Prop} {V : Nat → Value} {s : St} {a : Act}

theorem Rel0.worldPub (h : Rel0 N w0 pub V s a w) (hb : Below w.heap.size w w') (p1 : ∀ b o, pub b o → pub' b o) (p2 : ∀ b o, pub' b o → pub b o ∨ w.heap.size ≤ b) (p3 : ∀ b o, pub' b o → b < w'.heap.size ∧ (w.heap.size ≤ b → w'.frozen? ⟨b, o, none⟩ = false)) :
  Rel0 N w0 pub' V s a w' ∧ ∀ p v, RV pub w V s.mem p v → RV pub' w' V s.mem p v := by
 have hsz : w0.w.heap.size ≤ w.heap.size := h.below.size
 have t : Tr pub w V s.mem pub' w' V s.mem (fun _ => False) :=
  ⟨p1, fun b o ho => hb.cell (p := ⟨b, o, none⟩) (h.pubLt b o ho), fun _ _ h => h, fun _ _ _ => rfl, fun _ _ => rfl,
  fun n g _ hu hg => by
   have hlt := (h.mem n).block_lt hu hg
   exact ⟨hb.block g hlt, fun o ho => (p2 g o ho).resolve_right (by omega)⟩, fun _ _ _ hT => hT.elim⟩
 exact ⟨h.turn t (BelowB.of hsz hb) (fun _ _ => rfl) (fun b o ho => (p3 b o ho).1) (fun _ hn => hn.elim) (fun n k g hne h1 h2 h3 h4 => hne (h.apart n k g h1 h2 h3 h4)) (fun _ _ _ h => h) (fun b o ho hb0 => by
  by_cases hn : w.heap.size ≤ b
  ·exact (p3 b o ho).2 hn
  ·rw [frozenOB' (hb.block b (by omega))]
   exact h.soft b o ((p2 b o ho).resolve_right hn) hb0), fun p v hv => t.rv hv⟩

theorem Rel0.adopt (h : Rel0 N w0 pub V s a w) (n : Nat) (hn63 : n % 64 ≠ 63) (hn : s.mem n = .undef) {v : Value} {x : Bool} {e sz : Nat} {l : List PV} {V' : Nat → Value} {m' : Nat → PV} {B : Nat → Prop} (hB : ∀ g, B g → w0.O g) (hm : MemOk pub w V' m' B v (.obj x e sz l))
  (hap : ∀ k g, s.mem k ≠ .undef → inB (V k) g → blockOf v = some g → False) :
  Rel0 N w0 pub (updV V n v) { s with mem := upd s.mem n (.obj x e sz l) } a w ∧ ∀ p u, RV pub w V s.mem p u → RV pub w (updV V n v) (upd s.mem n (.obj x e sz l)) p u := by
 have refs : ∀ q u, RefOk V s.mem q u → RefOk (updV V n v) (upd s.mem n (.obj x e sz l)) q u := by
  intro q u hq
  cases hq with
  | own k j _ x e sz l hm hk hh =>
   have hne : k ≠ n := fun e => by rw [e, hn] at hm; cases hm
   exact .own k j u x e sz l ((upd_ne _ _ hne).trans hm) hk (fun e => (hh e).trans (updV_ne _ _ hne).symm)
  | lptr k off x cs b hm hv =>
   have hne : k ≠ n := fun e => by rw [e, hn] at hm; cases hm
   exact .lptr k off x cs b ((upd_ne _ _ hne).trans hm) ((updV_ne _ _ hne).trans hv)
  | eptr k j i off _ x e sz l hm hk hh =>
   have hne : k ≠ n := fun e => by rw [e, hn] at hm; cases hm
   exact .eptr k j i off u x e sz l ((upd_ne _ _ hne).trans hm) hk (fun e => by rw [updV_ne _ _ hne]; exact hh e)
  | osl k j i i2 _ x e sz l hm hk hij hh =>
   have hne : k ≠ n := fun e => by rw [e, hn] at hm; cases hm
   exact .osl k j i i2 u x e sz l ((upd_ne _ _ hne).trans hm) hk hij (fun e => by rw [updV_ne _ _ hne]; exact hh e)
 have t : Tr pub w V s.mem pub w (updV V n v) (upd s.mem n (.obj x e sz l)) (fun k => k = n) :=
  ⟨fun _ _ h => h, fun _ _ _ => rfl, refs, fun k hk _ => updV_ne _ _ hk, fun k hk => upd_ne _ _ hk, fun k g _ hu hg => ⟨rfl, fun _ ho => ho⟩, fun c s' own hT hmc => by subst hT; rw [hn] at hmc; cases hmc⟩
 have inv : ∀ g, inB v g → blockOf v = some g := fun g hg => hm.one (fun e => by cases e) (fun s' o e => by cases e) hg
 refine ⟨h.turn t (BelowB.refl _ _) (fun k hk => updV_ne _ _ (fun e => hn63 (e ▸ hk))) h.pubLt (fun k hk => ?_) (fun i k g hne h1 h2 h3 h4 => ?_) (fun i own _ hmi => by
  by_cases hi : i = n
  ·subst hi; rw [upd_same] at hmi; cases hmi
  ·rwa [upd_ne _ _ hi] at hmi) h.soft, fun p u hu => t.rv hu⟩
 ·subst hk
  rw [updV_same, upd_same]
  cases hm with
  | obj _ _ _ _ xs hsz hmx hl how hp hq hc =>
   exact .obj x e sz l xs hsz hmx hl ⟨how.1, fun g hg => hB g (how.2 g hg)⟩ hp hq hc
 ·by_cases hi : i = n
  ·subst hi
   rw [updV_same] at h3
   rw [updV_ne _ _ (Ne.symm hne)] at h4
   rw [upd_ne _ _ (Ne.symm hne)] at h2
   exact hap k g h2 h4 (inv g h3)
  ·by_cases hk : k = n
   ·subst hk
    rw [updV_same] at h4
    rw [updV_ne _ _ hne] at h3
    rw [upd_ne _ _ hne] at h1
    exact hap i g h1 h3 (inv g h4)
   ·rw [updV_ne _ _ hi] at h3
    rw [updV_ne _ _ hk] at h4
    rw [upd_ne _ _ hi] at h1
    rw [upd_ne _ _ hk] at h2
    exact hne (h.apart i k g h1 h2 h3 h4)

theorem MemOk.obj_block {B : Nat → Prop} {m : Nat → PV} {v : Value} {x : Bool} {e sz : Nat} {l : List PV} (h : MemOk pub w V m B v (.obj x e sz l)) : blockOf v = v.ownBlock ∧ ∀ g, v.ownBlock = some g → B g := by
 cases h with
 | obj _ _ _ _ xs hsz hmx hl how hp hq hc =>
  refine ⟨?_, how.2⟩
  rcases how.1.2 with ⟨h1, _⟩ | ⟨g, cap, cur, h1, hB, _⟩ <;> rw [h1] <;> rfl

theorem RR.plain_inv {B : Nat → Prop} {p : PV} {v : Value} {g : List Nat} (h : RR pub w B p v g) (hp : p.plain = true) : Rep pub w p v := by
 cases h with
 | pure _ _ h => exact h
 | fresh => cases hp
 | agg => cases hp
 | tuple => cases hp
theorem RR.fresh_inv {B : Nat → Prop} {x : Bool} {e sz : Nat} {l : List PV} {v : Value} {g : List Nat} (h : RR pub w B (.fresh x e sz l) v g) : MemOk pub w (fun _ => Go.undef) (fun _ => .undef) B v (.obj x e sz l) ∧ g = v.ownBlock.toList := by
 cases h with
 | pure _ _ h => cases h
 | fresh _ _ _ _ _ h => exact ⟨h, rfl⟩
theorem RR.agg_inv {B : Nat → Prop} {cs : List PV} {v : Value} {g : List Nat} (h : RR pub w B (.agg cs) v g) : ∃ (arr : Array Value) (gs : List (List Nat)), v = .agg arr ∧ arr.size = cs.length ∧ gs.length = cs.length ∧ (∀ (j : Nat) c, cs[j]? = some c → (arr.getD j Go.undef).oneCell' = true) ∧
  (∀ (j : Nat) c g, cs[j]? = some c → gs[j]? = some g → RR pub w B c (arr.getD j Go.undef) g) ∧ gs.flatten = g := by
 cases h with
 | pure _ _ h =>
  cases h with
  | agg _ arr hs hd hc =>
   refine ⟨arr, List.replicate cs.length [], rfl, hs, by simp, hd, fun j c g hj hg => ?_, by simp⟩
   have : g = [] := by
    simp only [List.getElem?_replicate] at hg
    split at hg <;> simp_all
   subst this; exact .pure _ _ (hc j c hj)
 | agg _ arr gs hs hg hd hc => exact ⟨arr, gs, rfl, hs, hg, hd, hc, rfl⟩
theorem RR.tuple_inv {B : Nat → Prop} {cs : List PV} {v : Value} {g : List Nat} (h : RR pub w B (.tuple cs) v g) : ∃ (arr : Array Value) (gs : List (List Nat)), v = .tuple arr ∧ arr.size = cs.length ∧ gs.length = cs.length ∧
  (∀ (j : Nat) c g, cs[j]? = some c → gs[j]? = some g → RR pub w B c (arr.getD j Go.undef) g) ∧ gs.flatten = g := by
 cases h with
 | pure _ _ h =>
  cases h with
  | tuple _ arr hs hc =>
   refine ⟨arr, List.replicate cs.length [], rfl, hs, by simp, fun j c g hj hg => ?_, by simp⟩
   have : g = [] := by
    simp only [List.getElem?_replicate] at hg
    split at hg <;> simp_all
   subst this; exact .pure _ _ (hc j c hj)
 | tuple _ arr gs hs hg hc => exact ⟨arr, gs, rfl, hs, hg, hc, rfl⟩

theorem RecvL.sound {n : Nat} {ps ps' : List PV} {U : List (Nat × PV)} {n' : Nat} (hr : RecvL n ps ps' U n') : ∀ {V : Nat → Value} {s : St} (_ : Rel0 N w0 pub V s a w) (B : Nat) (_ : w0.w.heap.size ≤ B) (G : List Nat)
  (_ : ∀ k g, s.mem k ≠ .undef → inB (V k) g → g < B ∨ g ∈ G) (vs : List Value) (gss : List (List Nat)) (_ : vs.length = ps.length) (_ : gss.length = ps.length)
  (_ : ∀ (i : Nat) p v g, ps[i]? = some p → vs[i]? = some v → gss[i]? = some g → RR pub w (fun b => B ≤ b) p v g) (_ : gss.flatten.Nodup) (_ : ∀ g ∈ gss.flatten, g ∉ G) (_ : ∀ k, n ≤ k → k < n' → s.mem k = .undef ∧ k % 64 ≠ 63),
  ∃ V', Rel0 N w0 pub V' { s with mem := upds s.mem U } a w ∧ (∀ k g, upds s.mem U k ≠ .undef → inB (V' k) g → g < B ∨ g ∈ G ++ gss.flatten) ∧ (∀ p v, RV pub w V s.mem p v → RV pub w V' (upds s.mem U) p v) ∧
   ∀ (i : Nat) p v, ps'[i]? = some p → vs[i]? = some v → RV pub w V' (upds s.mem U) p v := by
 induction hr with
 | nil n =>
  intro V s h B hB G hG vs gss hv hg hRR hnd hng hun
  have : gss = [] := List.eq_nil_of_length_eq_zero hg
  subst this
  exact ⟨V, h, fun k g h1 h2 => by simpa using hG k g h1 h2, fun _ _ h => h, fun i p v h => by simp at h⟩
 | plain n p ps ps' U n' hp hr ih =>
  intro V s h B hB G hG vs gss hv hg hRR hnd hng hun
  match vs, gss, hv, hg with
  | v :: vs, g :: gss, hv, hg =>
   have h0 := hRR 0 p v g rfl rfl rfl
   have hrep := h0.plain_inv hp
   simp only [List.flatten_cons] at hnd hng ⊢
   obtain ⟨V', h1, h2, h3, h4⟩ := ih h B hB G hG vs gss (by simpa using hv) (by simpa using hg) (fun i q u g' a1 a2 a3 => hRR (i + 1) q u g' (by simpa using a1) (by simpa using a2) (by simpa using a3)) (List.nodup_append.1 hnd).2.1 (fun g' hg' => hng g' (by simp [hg'])) hun
   refine ⟨V', h1, fun k g' a1 a2 => ?_, h3, fun i q u a1 a2 => ?_⟩
   ·rcases h2 k g' a1 a2 with h | h
    ·exact .inl h
    ·exact .inr (by simp only [List.mem_append] at h ⊢; rcases h with h | h <;> simp [h])
   ·cases i with
    | zero => simp at a1 a2; subst a1; subst a2; exact .pure hrep
    | succ i => exact h4 i q u (by simpa using a1) (by simpa using a2)
 | fresh n x e sz l ps ps' U n' hr ih =>
  intro V s h B hB G hG vs gss hv hg hRR hnd hng hun
  match vs, gss, hv, hg with
  | v :: vs, g :: gss, hv, hg =>
   have h0 := hRR 0 _ v g rfl rfl rfl
   obtain ⟨hm, rfl⟩ := h0.fresh_inv
   have hbo := hm.obj_block
   have hnn := hr.names.1
   simp only [List.flatten_cons] at hnd hng ⊢
   obtain ⟨h1, h2⟩ := h.adopt n (hun n (Nat.le_refl _) (by omega)).2 (hun n (Nat.le_refl _) (by omega)).1 (fun g hg => .inl (Nat.le_trans hB hg)) hm (fun k g' a1 a2 a3 => by
    have hgo : g' ∈ v.ownBlock.toList := by rw [← hbo.1, a3]; simp
    rcases hG k g' a1 a2 with h5 | h5
    ·have : B ≤ g' := hbo.2 g' (by rw [← hbo.1]; exact a3)
     omega
    ·exact hng g' (by simp at hgo ⊢; exact .inl hgo) h5)
   obtain ⟨V', h3, h4, h5, h6⟩ := ih h1 B hB (G ++ v.ownBlock.toList) (fun k g' a1 a2 => by
    by_cases hk : k = n
    ·subst hk
     rw [updV_same] at a2
     exact .inr (by rw [← hbo.1, hm.one (fun e => by cases e) (fun s' o e => by cases e) a2]; simp)
    ·simp only [upd_ne _ _ hk] at a1
     rw [updV_ne _ _ hk] at a2
     rcases hG k g' a1 a2 with h | h
     ·exact .inl h
     ·exact .inr (by simp [h])) vs gss (by simpa using hv) (by simpa using hg) (fun i q u g' a1 a2 a3 => hRR (i + 1) q u g' (by simpa using a1) (by simpa using a2) (by simpa using a3)) (List.nodup_append.1 hnd).2.1
    (fun g' hg' hgG => by
     rcases List.mem_append.1 hgG with h | h
     ·exact hng g' (by simp only [List.mem_append]; exact .inr hg') h
     ·exact (List.nodup_append.1 hnd).2.2 g' h g' hg' rfl) (fun k k1 k2 => by simp only [upd_ne _ _ (show k ≠ n by omega)]; exact hun k (by omega) k2)
   refine ⟨V', h3, fun k g' a1 a2 => ?_, fun p u hp => h5 _ _ (h2 _ _ hp), fun i q u a1 a2 => ?_⟩
   ·have := h4 k g' a1 a2
    rwa [List.append_assoc] at this
   ·cases i with
    | zero =>
     simp at a1 a2; subst a1; subst a2
     exact h5 _ _ (.ref (.own n _ _ x e sz l (upd_same _ _ _) (Nat.le_refl _) (fun _ => (updV_same _ _ _).symm)))
    | succ i => exact h6 i q u (by simpa using a1) (by simpa using a2)
 | agg n cs cs' ps ps' U U' n1 n2 hc hr ihc ih =>
  intro V s h B hB G hG vs gss hv hg hRR hnd hng hun
  match vs, gss, hv, hg with
  | v :: vs, g :: gss, hv, hg =>
   have h0 := hRR 0 _ v g rfl rfl rfl
   obtain ⟨arr, gs, rfl, hs, hgl, hd, hcc, rfl⟩ := h0.agg_inv
   have n1' := hc.names
   have n2' := hr.names
   simp only [List.flatten_cons] at hnd hng ⊢
   obtain ⟨V1, h1, h2, h3, h4⟩ := ihc h B hB G hG arr.toList gs (by simpa using hs) hgl (fun i q u g' a1 a2 a3 => by
    have : arr.getD i Go.undef = u := by rw [Array.getElem?_toList] at a2; simp [a2]
    rw [← this]; exact hcc i q g' a1 a3) (List.nodup_append.1 hnd).1 (fun g' hg' => hng g' (by simp only [List.mem_append]; exact .inl hg')) (fun k k1 k2 => hun k k1 (by omega))
   obtain ⟨V2, h5, h6, h7, h8⟩ := ih h1 B hB (G ++ gs.flatten) h2 vs gss (by simpa using hv) (by simpa using hg) (fun i q u g' a1 a2 a3 => hRR (i + 1) q u g' (by simpa using a1) (by simpa using a2) (by simpa using a3)) (List.nodup_append.1 hnd).2.1
    (fun g' hg' hgG => by
     rcases List.mem_append.1 hgG with h | h
     ·exact hng g' (by simp only [List.mem_append]; exact .inr hg') h
     ·exact (List.nodup_append.1 hnd).2.2 g' h g' hg' rfl) (fun k k1 k2 => by
     show upds s.mem U k = .undef ∧ k % 64 ≠ 63
     rw [upds_ne (fun q hq => by have := n1'.2 q hq; omega)]; exact hun k (by omega) k2)
   rw [upds_append]
   refine ⟨V2, h5, fun k g' a1 a2 => ?_, fun p u hp => h7 _ _ (h3 _ _ hp), fun i q u a1 a2 => ?_⟩
   ·have := h6 k g' a1 a2
    rwa [List.append_assoc] at this
   ·cases i with
    | zero =>
     simp at a1 a2; subst a1; subst a2
     have hl := hc.length
     refine .agg cs' arr (hs.trans hl.symm) (fun j c hj => ?_) (fun j c hj => ?_)
     ·exact hd j _ (List.getElem?_eq_getElem (by rw [← hl]; exact (List.getElem?_eq_some_iff.1 hj).1))
     ·have hlt : j < arr.size := by rw [hs, ← hl]; exact (List.getElem?_eq_some_iff.1 hj).1
      exact h7 _ _ (h4 j c _ hj (by rw [Array.getElem?_toList]; simp [hlt]))
    | succ i => exact h8 i q u (by simpa using a1) (by simpa using a2)
 | tuple n cs cs' ps ps' U U' n1 n2 hc hr ihc ih =>
  intro V s h B hB G hG vs gss hv hg hRR hnd hng hun
  match vs, gss, hv, hg with
  | v :: vs, g :: gss, hv, hg =>
   have h0 := hRR 0 _ v g rfl rfl rfl
   obtain ⟨arr, gs, rfl, hs, hgl, hcc, rfl⟩ := h0.tuple_inv
   have n1' := hc.names
   have n2' := hr.names
   simp only [List.flatten_cons] at hnd hng ⊢
   obtain ⟨V1, h1, h2, h3, h4⟩ := ihc h B hB G hG arr.toList gs (by simpa using hs) hgl (fun i q u g' a1 a2 a3 => by
    have : arr.getD i Go.undef = u := by rw [Array.getElem?_toList] at a2; simp [a2]
    rw [← this]; exact hcc i q g' a1 a3) (List.nodup_append.1 hnd).1 (fun g' hg' => hng g' (by simp only [List.mem_append]; exact .inl hg')) (fun k k1 k2 => hun k k1 (by omega))
   obtain ⟨V2, h5, h6, h7, h8⟩ := ih h1 B hB (G ++ gs.flatten) h2 vs gss (by simpa using hv) (by simpa using hg) (fun i q u g' a1 a2 a3 => hRR (i + 1) q u g' (by simpa using a1) (by simpa using a2) (by simpa using a3)) (List.nodup_append.1 hnd).2.1
    (fun g' hg' hgG => by
     rcases List.mem_append.1 hgG with h | h
     ·exact hng g' (by simp only [List.mem_append]; exact .inr hg') h
     ·exact (List.nodup_append.1 hnd).2.2 g' h g' hg' rfl) (fun k k1 k2 => by
     show upds s.mem U k = .undef ∧ k % 64 ≠ 63
     rw [upds_ne (fun q hq => by have := n1'.2 q hq; omega)]; exact hun k (by omega) k2)
   rw [upds_append]
   refine ⟨V2, h5, fun k g' a1 a2 => ?_, fun p u hp => h7 _ _ (h3 _ _ hp), fun i q u a1 a2 => ?_⟩
   ·have := h6 k g' a1 a2
    rwa [List.append_assoc] at this
   ·cases i with
    | zero =>
     simp at a1 a2; subst a1; subst a2
     have hl := hc.length
     refine .tuple cs' arr (hs.trans hl.symm) (fun j c hj => ?_)
     have hlt : j < arr.size := by rw [hs, ← hl]; exact (List.getElem?_eq_some_iff.1 hj).1
     exact h7 _ _ (h4 j c _ hj (by rw [Array.getElem?_toList]; simp [hlt]))
    | succ i => exact h8 i q u (by simpa using a1) (by simpa using a2)
end
end Go.Px
namespace Go.Px
set_option linter.unusedSimpArgs false
set_option linter.unusedVariables false
open Go.RowKit

inductive Item where
 | code (c : Code)
 | ops (all : Array Oper) (rest : List Oper)
 | blk (id : Nat)
 | again (J : St → Prop)

def den (P : Program) (N : Nat) (w0 : Base P) (pub0 : Nat → Nat → Prop) (Q : St → Prop) : List Item → Exit → Act → World → Prop
 | [], .normal, a, w => ∃ s, Q s ∧ Rel N w0 pub0 s a w
 | [], .ret, a, w => ∃ s, Q s ∧ Rel N w0 pub0 s a w
 | [], _, _, _ => False
 | .code c :: k, .normal, a, w => c.wp P (den P N w0 pub0 Q k) a w
 | .code _ :: k, e, a, w => den P N w0 pub0 Q k e a w
 | .ops all rest :: k, .normal, a, w => wpList P all (den P N w0 pub0 Q k) rest a w
 | .ops _ _ :: k, e, a, w => den P N w0 pub0 Q k e a w
 | .blk id :: k, .exit i, a, w => if i = id then den P N w0 pub0 Q k .normal a w else den P N w0 pub0 Q k (.exit i) a w
 | .blk _ :: k, e, a, w => den P N w0 pub0 Q k e a w
 | .again J :: _, .normal, a, w => ∃ s, J s ∧ Rel N w0 pub0 s a w
 | .again _ :: k, e, a, w => den P N w0 pub0 Q k e a w

def Run (P : Program) (N : Nat) (Q : St → Prop) (k : List Item) (s : St) : Prop := ∀ w0 pub0 a w, Rel N w0 pub0 s a w → den P N w0 pub0 Q k .normal a w

def Weak (N : Nat) (s s' : St) : Prop := ∀ (P : Program) (w0 : Base P) (pub0 : Nat → Nat → Prop) (a : Act) (w : World), Rel N w0 pub0 s a w → Rel N w0 pub0 s' a w

section
variable {P : Program} {N : Nat} {Q : St → Prop} {k : List Item} {s : St}

theorem Run.weak {s' : St} (h : Weak N s s') (hr : Run P N Q k s') : Run P N Q k s := fun w0 pub0 a w hR => hr w0 pub0 a w (h P w0 pub0 a w hR)
theorem Weak.trans {s1 s2 s3 : St} (h : Weak N s1 s2) (h' : Weak N s2 s3) : Weak N s1 s3 := fun P w0 pub0 a w hR => h' _ _ _ _ _ (h _ _ _ _ _ hR)
theorem Weak.refl (s : St) : Weak N s s := fun _ _ _ _ _ h => h

theorem Run.done (h : Q s) : Run P N Q [] s := fun w0 pub0 a w hR => ⟨s, h, hR⟩
theorem Run.seq {x y : Code} (h : Run P N Q (.code x :: .code y :: k) s) : Run P N Q (.code (.seq x y) :: k) s := fun w0 pub0 a w hR => by
 have := h w0 pub0 a w hR
 refine wp_seq (Code.wp_mono (fun e a w q => ?_) this)
 cases e <;> exact q
theorem Run.skip (h : Run P N Q k s) : Run P N Q (.code .skip :: k) s := fun w0 pub0 a w hR => wp_skip (h w0 pub0 a w hR)
theorem Run.block {id : Nat} {c : Code} (h : Run P N Q (.code c :: .blk id :: k) s) : Run P N Q (.code (.block id c) :: k) s := fun w0 pub0 a w hR => by
 refine wp_block (Code.wp_mono (fun e a w q => ?_) (h w0 pub0 a w hR))
 cases e <;> exact q
theorem Run.blk {id : Nat} (h : Run P N Q k s) : Run P N Q (.blk id :: k) s := fun w0 pub0 a w hR => h w0 pub0 a w hR
theorem Run.cond {c : Operand} {x y : Code} {b : Bool} (hc : s.ev c = .lit (.bool b)) (h1 : b = true → Run P N Q (.code x :: k) s) (h2 : b = false → Run P N Q (.code y :: k) s) : Run P N Q (.code (.cond c x y) :: k) s := fun w0 pub0 a w hR => by
 obtain ⟨pub, V, c1, c2, h⟩ := hR
 have hv := (hc ▸ h.ev c).lit_inv.1
 exact wp_cond_split hv (fun e => h1 e w0 pub0 a w ⟨pub, V, c1, c2, h⟩) (fun e => h2 e w0 pub0 a w ⟨pub, V, c1, c2, h⟩)

def popTo (id : Nat) : List Item → Option (List Item)
 | [] => none
 | .blk i :: k => if id = i then some k else popTo id k
 | _ :: k => popTo id k
theorem den_exit {w0 : Base P} {pub0 : Nat → Nat → Prop} {id : Nat} {a : Act} {w : World} : ∀ {k k' : List Item}, popTo id k = some k' → den P N w0 pub0 Q k' .normal a w → den P N w0 pub0 Q k (.exit id) a w
 | [], _, h, _ => by cases h
 | .blk i :: k, k', h, hd => by
  simp only [popTo] at h
  simp only [den]
  split at h
  ·cases h; rename_i e; rw [if_pos e]; exact hd
  ·rename_i e; rw [if_neg e]; exact den_exit h hd
 | .code _ :: k, k', h, hd => den_exit (k := k) h hd
 | .ops _ _ :: k, k', h, hd => den_exit (k := k) h hd
 | .again _ :: k, k', h, hd => den_exit (k := k) h hd
theorem Run.exit {id : Nat} {k' : List Item} (hp : popTo id k = some k') (h : Run P N Q k' s) : Run P N Q (.code (.exit id) :: k) s := fun w0 pub0 a w hR => wp_exit (den_exit hp (h w0 pub0 a w hR))
theorem den_ret {w0 : Base P} {pub0 : Nat → Nat → Prop} {a : Act} {w : World} : ∀ {k : List Item}, (∃ s, Q s ∧ Rel N w0 pub0 s a w) → den P N w0 pub0 Q k .ret a w
 | [], h => h
 | .blk _ :: k, h => den_ret (k := k) h
 | .code _ :: k, h => den_ret (k := k) h
 | .ops _ _ :: k, h => den_ret (k := k) h
 | .again _ :: k, h => den_ret (k := k) h
theorem Run.ret (h : Q s) : Run P N Q (.code .ret :: k) s := fun w0 pub0 a w hR => wp_ret (den_ret ⟨s, h, hR⟩)
theorem Run.again {J : St → Prop} {s' : St} (hw : Weak N s s') (h : J s') : Run P N Q (.again J :: k) s := fun w0 pub0 a w hR => ⟨s', h, hw _ _ _ _ _ hR⟩

theorem Run.loop {c : Code} (I : Nat → St → Prop) {s' : St} (n : Nat) (hw : Weak N s s') (h0 : I n s') (hr : ∀ n s, I n s → Run P N Q (.code c :: .again (fun s' => ∃ m, m < n ∧ I m s') :: k) s) : Run P N Q (.code (.loop c) :: k) s := fun w0 pub0 a w hR => by
 refine wp_loop_ghost (fun n a w => ∃ s, I n s ∧ Rel N w0 pub0 s a w) n ⟨s', h0, hw _ _ _ _ _ hR⟩ (fun n a w ⟨s1, hI, hR1⟩ => ?_)
 refine Code.wp_mono (fun e a w q => ?_) (hr n s1 hI w0 pub0 a w hR1)
 cases e with
 | normal =>
  obtain ⟨s2, ⟨m, hm, hI2⟩, hR2⟩ := q
  exact ⟨m, hm, s2, hI2, hR2⟩
 | _ => exact q

theorem Run.region {id : Nat} {l : List Oper} (h : Run P N Q (.ops l.toArray l :: k) s) : Run P N Q (.code (.region id l.toArray false) :: k) s := fun w0 pub0 a w hR => wp_region_lit (h w0 pub0 a w hR)
theorem Run.nil {all : Array Oper} (h : Run P N Q k s) : Run P N Q (.ops all [] :: k) s := fun w0 pub0 a w hR => wpList_nil (h w0 pub0 a w hR)

def St.next (s : St) (d : Nat) (p : PV) (U : List (Nat × PV)) : St := ⟨upd s.slot d p, upds s.mem U⟩

theorem Run.op {all : Array Oper} {rest : List Oper} {d : Nat} {op : Op} {ty : TypeId} {pos : String} {after : Array Edge} {p : PV} {U : List (Nat × PV)} {R : List Nat} (ha : AOp P s.ev s.mem d op p U R) (hd : d < N) (h : Run P N Q (.ops all rest :: k) (s.next d p U)) :
  Run P N Q (.ops all (⟨some d, op, ty, pos, after, none⟩ :: rest) :: k) s := fun w0 pub0 a w hR => by
 obtain ⟨v, w', hrun, pub, V, c1, c2, hrel, hv⟩ := ha.sound hR
 have hput := hrel.put d hd hv
 have hk := h w0 pub0 _ _ ⟨pub, V, c1, c2, hput⟩
 refine wpList_plain rfl fun K hK => ?_
 unfold Oper.wp
 rcases hrun (some d) ty pos after none with h1 | ⟨h1, rfl⟩
 ·rw [h1]; exact hK _ _ hk
 ·rw [h1]; exact hK _ _ hk
theorem Run.op0 {all : Array Oper} {rest : List Oper} {op : Op} {ty : TypeId} {pos : String} {after : Array Edge} {p : PV} {U : List (Nat × PV)} {R : List Nat} (ha : AOp P s.ev s.mem 0 op p U R) (h : Run P N Q (.ops all rest :: k) ⟨s.slot, upds s.mem U⟩) :
  Run P N Q (.ops all (⟨none, op, ty, pos, after, none⟩ :: rest) :: k) s := fun w0 pub0 a w hR => by
 obtain ⟨v, w', hrun, pub, V, c1, c2, hrel, hv⟩ := ha.sound hR
 have hk := h w0 pub0 _ _ ⟨pub, V, c1, c2, hrel⟩
 refine wpList_plain rfl fun K hK => ?_
 unfold Oper.wp
 rcases hrun none ty pos after none with h1 | ⟨h1, rfl⟩
 ·rw [h1]; exact hK _ _ hk
 ·rw [h1]; exact hK _ _ hk

def gslot (all : Array Oper) (g : Nat) : Option Nat := (all[g]?).bind (·.dst)
theorem yielded_of {all : Array Oper} {g t : Nat} {b : Bool} (hg : gslot all g = some t) {tmps : Array Value} (hv : tmps.getD t Go.undef = .bool b) : yielded all tmps g = some b := by
 unfold gslot at hg
 unfold yielded
 simp only [hg]
 have h1 : tmps[t]?.getD Go.undef = .bool b := by simpa using hv
 cases h2 : tmps[t]? with
 | none => rw [h2] at h1; cases h1
 | some v => rw [h2] at h1; simp at h1; subst h1; simp [h2]

theorem Run.guard {all : Array Oper} {rest : List Oper} {dst : Option Nat} {op : Op} {ty : TypeId} {pos : String} {after : Array Edge} {g t : Nat} {want b : Bool} (hg : gslot all g = some t) (hs : s.slot t = .lit (.bool b))
  (h1 : b = want → Run P N Q (.ops all (⟨dst, op, ty, pos, after, none⟩ :: rest) :: k) s)
  (h2 : b = !want → (∀ d, dst = some d → d < N) ∧ Run P N Q (.ops all rest :: k) (match dst with | some d => s.next d (.tuple []) [] | none => s)) : Run P N Q (.ops all (⟨dst, op, ty, pos, after, some (g, want)⟩ :: rest) :: k) s := fun w0 pub0 a w hR => by
 have hR' := hR
 obtain ⟨pub, V, c1, c2, h⟩ := hR
 have hv := h.slots t
 rw [hs] at hv
 have hv := hv.lit_inv.1
 have hy := yielded_of hg hv
 by_cases hb : b = want
 ·have := h1 hb w0 pub0 a w hR'
  simp only [den, wpList] at this ⊢
  have hw1 : Region.wanted ⟨dst, op, ty, pos, after, some (g, want)⟩ (yielded all a.tmps) = true := by simp [Region.wanted, hy, hb]
  have hw2 : Region.wanted ⟨dst, op, ty, pos, after, none⟩ (yielded all a.tmps) = true := rfl
  rw [if_pos hw2] at this
  rw [if_pos hw1]
  exact this
 ·have hb' : b = !want := by cases b <;> cases want <;> simp_all
  obtain ⟨hd, hr⟩ := h2 hb'
  have hw1 : Region.wanted ⟨dst, op, ty, pos, after, some (g, want)⟩ (yielded all a.tmps) = false := by simp [Region.wanted, hy]; exact hb
  simp only [den, wpList]
  rw [if_neg (by rw [hw1]; simp)]
  cases dst with
  | none => exact hr w0 pub0 a w hR'
  | some d => exact hr w0 pub0 _ w ⟨pub, V, c1, c2, h.put d (hd d rfl) (.pure (.tuple [] #[] rfl (fun j c hj => by simp at hj)))⟩
end
end Go.Px
