/-
  PROVED: general facts on pure values, contracts of functions, steps of programs and loops over lists, over any program. No condition beyond those that each theorem names.
-/
import Derived.Deep.Draws
import Derived.Handed
import Derived.JoinedOf
import Derived.KernelRfl
import Derived.Lib.AtoiAll
import Derived.Lib.Bytealg
import Derived.Lib.IndexMore
import Derived.Lib.Join
import Derived.Lib.LaidTab
import Derived.Lib.Replace
import Derived.Lib.SlicesCompact
import Derived.Shelf.Vars
import Derived.Sort.Grow
import Derived.Sort.Row
import Derived.Stop.LaidErr
import Derived.Test.YtiinfmdopfkefaaGreatQ2
namespace Go.Px
set_option linter.unusedSimpArgs false
set_option linter.unusedVariables false
open Go.RowKit

/-! ### Optional values -/
theorem bindE {α β : Type} {x : Option α} {K : α → Option β} {r : β} (h : x.bind K = some r) : ∃ v, x = some v ∧ K v = some r := by
 cases x with
 | none => cases h
 | some v => exact ⟨v, rfl, h⟩
theorem condT {α : Type} {c : Bool} {x y : Option α} {r : α} (hc : c = true) (h : (bif c then x else y) = some r) : x = some r := by subst hc; exact h
theorem condF {α : Type} {c : Bool} {x y : Option α} {r : α} (hc : c = false) (h : (bif c then x else y) = some r) : y = some r := by subst hc; exact h

def idxL {α : Type} (l : List α) (i : Int) : Option α := if 0 ≤ i then l[i.toNat]? else none
theorem idxL_spec {α : Type} {l : List α} {i : Int} {v : α} (h : idxL l i = some v) : 0 ≤ i ∧ l[i.toNat]? = some v := by
 unfold idxL at h
 split at h
 ·exact ⟨by assumption, h⟩
 ·cases h
theorem idxL_map {α : Type} (f : α → PV) {l : List α} {i : Int} {v : α} (h : idxL l i = some v) : (l.map f)[i.toNat]? = some (f v) := by
 rw [List.getElem?_map, (idxL_spec h).2]; rfl
theorem idxL_lt {α : Type} {l : List α} {i : Int} {v : α} (h : idxL l i = some v) : i.toNat < l.length := (List.getElem?_eq_some_iff.1 (idxL_spec h).2).1
def idxS (b : ByteArray) (i : Int) : Option Int := if 0 ≤ i then (b[i.toNat]?).map (fun u => (u.toNat : Int)) else none
theorem idxS_spec {b : ByteArray} {i : Int} {v : Int} (h : idxS b i = some v) : 0 ≤ i ∧ ∃ u : UInt8, b[i.toNat]? = some u ∧ v = u.toNat := by
 unfold idxS at h
 split at h
 ·obtain ⟨u, h1, h2⟩ := Option.map_eq_some_iff.1 h
  exact ⟨by assumption, u, h1, h2.symm⟩
 ·cases h
def appL {α : Type} (a b : List α) : Option (List α) := if a.length + b.length ≤ 1099511627776 then some (a ++ b) else none
theorem appL_spec {α : Type} {a b c : List α} (h : appL a b = some c) : a.length + b.length ≤ 1099511627776 ∧ c = a ++ b := by
 unfold appL at h
 split at h
 ·exact ⟨by assumption, (Option.some.inj h).symm⟩
 ·cases h
theorem appL_map {α : Type} (f : α → PV) {a b c : List α} (h : appL a b = some c) : a.map f ++ b.map f = c.map f := by rw [(appL_spec h).2, List.map_append]
theorem appL_len {α : Type} (f : α → PV) {a b c : List α} (h : appL a b = some c) : (a.map f).length + (b.map f).length ≤ 1099511627776 := by simpa using (appL_spec h).1
def catS (a b : ByteArray) : Option ByteArray := if a.size + b.size ≤ 9223372036854775807 then some (a ++ b) else none
def subL {α : Type} (l : List α) (lo hi : Int) : Option (List α) := if 0 ≤ lo ∧ lo ≤ hi ∧ hi ≤ l.length then some ((l.take hi.toNat).drop lo.toNat) else none
theorem subL_spec {α : Type} {l r : List α} {lo hi : Int} (h : subL l lo hi = some r) : (0 ≤ lo ∧ lo ≤ hi ∧ hi ≤ l.length) ∧ r = (l.take hi.toNat).drop lo.toNat := by
 unfold subL at h
 split at h
 ·exact ⟨by assumption, (Option.some.inj h).symm⟩
 ·cases h
theorem subL_map {α : Type} (f : α → PV) {l r : List α} {lo hi : Int} (h : subL l lo hi = some r) : ((l.map f).take hi.toNat).drop lo.toNat = r.map f := by rw [(subL_spec h).2, List.map_drop, List.map_take]
theorem subL_le {α : Type} (f : α → PV) {l r : List α} {lo hi : Int} (h : subL l lo hi = some r) : 0 ≤ lo ∧ lo ≤ hi ∧ hi ≤ (l.map f).length := by simpa using (subL_spec h).1
def subS (b : ByteArray) (lo hi : Int) : Option ByteArray := if 0 ≤ lo ∧ lo ≤ hi ∧ hi ≤ b.size then some (b.extract lo.toNat hi.toNat) else none
def makeL {α : Type} (z : α) (n : Int) : Option (List α) := if 0 ≤ n ∧ n ≤ 1099511627776 then some (List.replicate n.toNat z) else none
theorem makeL_spec {α : Type} {z : α} {n : Int} {r : List α} (h : makeL z n = some r) : n = (n.toNat : Int) ∧ n.toNat ≤ 1099511627776 ∧ r = List.replicate n.toNat z := by
 unfold makeL at h
 split at h
 ·exact ⟨by omega, by omega, (Option.some.inj h).symm⟩
 ·cases h
def setL {α : Type} (l : List α) (i : Int) (v : α) : List α := l.set i.toNat v
theorem setL_map {α : Type} (f : α → PV) (l : List α) (i : Int) (v : α) : (l.map f).set i.toNat (f v) = (setL l i v).map f := by unfold setL; rw [List.map_set]
def F0 : Nat := 18446744073709551616
theorem cells_map {α : Type} {f : α → PV} {sz : Nat} (h : ∀ x, (f x).cells.length = sz) {l : List α} : ∀ e ∈ l.map f, e.cells.length = sz := by
 intro e he; obtain ⟨x, _, rfl⟩ := List.mem_map.1 he; exact h x

section
variable {P : Program} {N : Nat} {Q : St → Prop} {k : List Item} {S M : List (Nat × PV)}

/-! ### Lengths are within Go's numbers -/
theorem RV.slice_len {pub : Nat → Nat → Prop} {w : World} {V : Nat → Value} {m : Nat → PV} {l : List PV} {v : Value} (h : RV pub w V m (.slice l) v) : l.length ≤ 9223372036854775807 := by
 have h := h.slice_inv
 cases h with
 | slice0 => simp
 | slice b o cap sz _ W hsz hcap hmx hd hc => exact hmx
theorem R.bndS {t : Nat} {l : List PV} (hs : look S t = some (.slice l)) (h : l.length ≤ 9223372036854775807 → Run P N Q k (St.of S M)) : Run P N Q k (St.of S M) := fun w0 pub0 a w hR => by
 have hR' := hR
 obtain ⟨pub, V, c1, c2, hrel⟩ := hR'
 have h1 := hrel.slots t
 rw [look_slot hs] at h1
 exact h h1.slice_len w0 pub0 a w hR
theorem R.bndO {n e sz : Nat} {x : Bool} {l : List PV} (hs : look M n = some (.obj x e sz l)) (h : l.length ≤ 9223372036854775807 → Run P N Q k (St.of S M)) : Run P N Q k (St.of S M) := fun w0 pub0 a w hR => by
 have hR' := hR
 obtain ⟨pub, V, c1, c2, hrel⟩ := hR'
 have h1 := hrel.mem n
 rw [look_mem hs] at h1
 cases h1 with
 | obj _ _ _ _ xs hsz hmx hl how hp hq hc => exact h hmx w0 pub0 a w hR

/-! ### Casts -/
def Cast (M : List (Nat × PV)) (p q : PV) : Prop :=
 p = q ∨ (p = .nils ∧ q = .slice []) ∨ ∃ n k e sz l, p = .own n k ∧ look M n = some (.obj false e sz l) ∧ k = l.length ∧ q = .slice l
theorem Cast.rv {p q : PV} (h : Cast M p q) {w0 : Base P} {pub : Nat → Nat → Prop} {V : Nat → Value} {a : Act} {w : World} (hrel : Rel0 N w0 pub V (St.of S M) a w) {v : Value} (hv : RV pub w V (St.of S M).mem p v) : RV pub w V (St.of S M).mem q v := by
 rcases h with rfl | ⟨rfl, rfl⟩ | ⟨n, k, e, sz, l, rfl, hm, hk, rfl⟩
 ·exact hv
 ·rw [hv.nils_inv]; exact .pure (.slice0 none 0)
 ·obtain ⟨x', e', sz', l', hm', _, hv'⟩ := hv.own_inv
  rw [look_mem hm] at hm'; cases hm'
  rw [hv' hk]
  exact .pure (Rep.slice_own (by have := hrel.mem n; rwa [look_mem hm] at this))
inductive Casts (M : List (Nat × PV)) : List PV → List PV → Prop where
 | nil : Casts M [] []
 | cons {p q : PV} {ps qs : List PV} (h : Cast M p q) (hs : Casts M ps qs) : Casts M (p :: ps) (q :: qs)
theorem Casts.at {ps qs : List PV} (h : Casts M ps qs) : ps.length = qs.length ∧ ∀ (j : Nat) q, qs[j]? = some q → ∃ p, ps[j]? = some p ∧ Cast M p q := by
 induction h with
 | nil => exact ⟨rfl, fun j q h => by simp at h⟩
 | cons h hs ih =>
  refine ⟨by simp [ih.1], fun j q hj => ?_⟩
  cases j with
  | zero => simp at hj; subst hj; exact ⟨_, rfl, h⟩
  | succ j => simpa using ih.2 j q (by simpa using hj)
theorem Weak.slot {t : Nat} {p q : PV} (hl : look S t = some p) (hq : ∀ (P : Program) (w0 : Base P) (pub : Nat → Nat → Prop) (V : Nat → Value) (a : Act) (w : World), Rel0 N w0 pub V (St.of S M) a w → ∀ v, RV pub w V (St.of S M).mem p v → RV pub w V (St.of S M).mem q v) : Weak N (St.of S M) (St.of ((t, q) :: S) M) := by
 intro _ w0 pub0 a w ⟨pub, V, c1, c2, h⟩
 refine ⟨pub, V, c1, c2, ⟨h.defers, h.size, h.below, h.fixed, h.pubLt, fun u => ?_, h.mem, h.apart, h.soft, h.skel⟩⟩
 by_cases hu : u = t
 ·subst hu
  have h1 := h.slots u
  rw [look_slot hl] at h1
  rw [look_slot (show look ((u, q) :: S) u = some q by simp [look])]
  exact hq _ _ _ _ _ _ h _ h1
 ·have : (St.of ((t, q) :: S) M).slot u = (St.of S M).slot u := by
   have := congrFun (look_upd S t q) u
   simp only [St.of]
   rw [← this, upd_ne _ _ hu]
  rw [this]; exact h.slots u
theorem R.castS {t : Nat} {p : PV} (q : PV) (hl : look S t = some p) (hq : Cast M p q) (h : Run P N Q k (St.of ((t, q) :: S) M)) : Run P N Q k (St.of S M) :=
 Run.weak (Weak.slot hl fun _ _ _ _ _ _ hrel _ hv => hq.rv hrel hv) h
/-! ### Ways that meet again -/
theorem Run.cut {c : Code} {s : St} {J : St → Prop} (h : Run P N Q (.code c :: .again J :: k) s) (hk : ∀ s', J s' → Run P N Q k s') : Run P N Q (.code c :: k) s := fun w0 pub0 a w hR => by
 refine Code.wp_mono (fun e a w q => ?_) (h w0 pub0 a w hR)
 cases e with
 | normal =>
  obtain ⟨s2, hJ, hR2⟩ := q
  exact hk s2 hJ w0 pub0 a w hR2
 | _ => exact q
theorem R.join {β : Type} {c : Code} (S0 M0 : List (Nat × PV)) (X Y : β → List (Nat × PV) → List (Nat × PV)) (J : β → Prop) (hrun : Run P N Q (.code c :: .again (fun s => ∃ b, J b ∧ s = St.of (X b S0) (Y b M0)) :: k) (St.of S M))
  (hk : ∀ b, J b → Run P N Q k (St.of (X b S0) (Y b M0))) : Run P N Q (.code c :: k) (St.of S M) :=
 Run.cut hrun fun s' ⟨b, hJ, e⟩ => e ▸ hk b hJ
theorem R.meet {β : Type} {S0 M0 : List (Nat × PV)} {X Y : β → List (Nat × PV) → List (Nat × PV)} {J : β → Prop} (b : β) (hJ : J b) (hS : AllLook S (X b S0)) (hM : AllLook M (Y b M0)) (hr : ((X b S0).all fun q => refsB 3 ((Y b M0).map (·.1)) q.2) = true)
  (hrm : ((Y b M0).all fun q => refsM ((Y b M0).map (·.1)) q.2) = true) : Run P N Q (.again (fun s => ∃ b, J b ∧ s = St.of (X b S0) (Y b M0)) :: k) (St.of S M) :=
 Run.again (Weak.sub hS hM hr hrm) ⟨b, hJ, rfl⟩
theorem R.regG {id : Nat} {l : List Oper} (S1 M1 : List (Nat × PV)) (h : SLx P N l.toArray (fun _ => none) 0 l (St.of S M) (fun s => Weak N s (St.of S1 M1))) (h2 : Run P N Q k (St.of S1 M1)) : Run P N Q (.code (.region id l.toArray false) :: k) (St.of S M) := fun w0 pub0 a w hR =>
 wp_region_lit (SLx.sound (fun s a w hs hR => h2 w0 pub0 a w (hs _ _ _ _ _ hR)) l 0 _ a w h hR)
theorem R.drawG {id : Nat} {l : List Oper} (S1 M1 : List (Nat × PV)) (F : Nat → Foot) (hm : P.follows .mixedOrders = true) (hB : Region.lexB .any l.toArray = true) (hF : footFrom l.toArray F l.length 0 (Array.replicate l.length false) = true)
  (h : SLx P N l.toArray F 0 l (St.of S M) (fun s => Weak N s (St.of S1 M1))) (h2 : Run P N Q k (St.of S1 M1)) : Run P N Q (.code (.region id l.toArray true) :: k) (St.of S M) :=
 Run.draw F hm hB hF (SLx.mono (fun s hs w0 pub0 a w hR => h2 w0 pub0 a w (hs _ _ _ _ _ hR)) l 0 _ h)
theorem X.endG {all : Array Oper} {F : Nat → Foot} {i : Nat} {S1 M1 : List (Nat × PV)} (hS : AllLook S S1) (hM : AllLook M M1) (hr : (S1.all fun q => refsB 3 (M1.map (·.1)) q.2) = true) (hrm : (M1.all fun q => refsM (M1.map (·.1)) q.2) = true) :
  SLx P N all F i [] (St.of S M) (fun s => Weak N s (St.of S1 M1)) := X.nil (K := fun s => Weak N s (St.of S1 M1)) (Weak.sub hS hM hr hrm)
theorem X.ifG {all : Array Oper} {F : Nat → Foot} {i : Nat} {rest : List Oper} {d : Nat} {ty : TypeId} {pos : String} {after : Array Edge} {K : St → Prop} {op : Op} {g t : Nat} {want b : Bool} (hg : gslot all g = some t) (hs : look S t = some (.lit (.bool b))) (hd : Nat.ble (d + 1) N = true)
  (h1 : b = want → SLx P N all F i (⟨some d, op, ty, pos, after, none⟩ :: rest) (St.of S M) K) (h2 : b = !want → SLx P N all F (i + 1) rest (St.of ((d, .tuple []) :: S) M) K) :
  SLx P N all F i (⟨some d, op, ty, pos, after, some (g, want)⟩ :: rest) (St.of S M) K := by
 by_cases hb : b = want
 ·exact X.gyes hg hs hb (h1 hb)
 ·have hb' : b = !want := by cases b <;> cases want <;> simp_all
  exact X.gno hg hs hb' hd (h2 hb')
end
end Go.Px
namespace Go.Px
set_option linter.unusedSimpArgs false
set_option linter.unusedVariables false
open Go.RowKit

theorem elimL {α β γ : Type} {f : α → γ} {g : β → γ} {a : α} {x : γ} (h : Sum.elim f g (.inl a) = x) : f a = x := h
theorem elimR {α β γ : Type} {f : α → γ} {g : β → γ} {b : β} {x : γ} (h : Sum.elim f g (.inr b) = x) : g b = x := h

abbrev sumBind {α β γ : Type} (x : Option (α ⊕ β)) (g : β → Option γ) (f : α → Option γ) : Option γ := x.bind (Sum.elim f g)

theorem drop_atI {α : Type} {l : List α} {z : Int} (h0 : 0 ≤ z) (h : decide (z < (l.length : Int)) = true) : ∃ x xs, l.drop z.toNat = x :: xs ∧ idxL l z = some x ∧ l.drop (z + 1).toNat = xs ∧ z < (l.length : Int) := by
 have h := of_decide_eq_true h
 have hlt : z.toNat < l.length := by omega
 refine ⟨l[z.toNat], l.drop (z.toNat + 1), List.drop_eq_getElem_cons hlt, ?_, ?_, h⟩
 ·simp [idxL, h0, hlt]
 ·rw [show (z + 1).toNat = z.toNat + 1 by omega]
theorem drop_endI {α : Type} {l : List α} {z : Int} (h0 : 0 ≤ z) (h : decide (z < (l.length : Int)) = false) : l.drop z.toNat = [] := by
 have h := of_decide_eq_false h
 exact List.drop_eq_nil_of_le (by omega)

def allSz (sz : Nat) : List PV → Bool
 | [] => true
 | p :: ps => Nat.beq p.cells.length sz && allSz sz ps
theorem allSz_spec {sz : Nat} : ∀ {ps : List PV}, allSz sz ps = true → ∀ p ∈ ps, p.cells.length = sz
 | [], _, p, hp => by cases hp
 | q :: ps, h, p, hp => by
  simp only [allSz, Bool.and_eq_true] at h
  rcases List.mem_cons.1 hp with rfl | hp
  ·exact Nat.eq_of_beq_eq_true h.1
  ·exact allSz_spec h.2 p hp

section
variable {P : Program} {N : Nat} {Q : St → Prop} {k : List Item} {S M : List (Nat × PV)}
theorem R.loop2 {β : Type} {c : Code} (S0 M0 : List (Nat × PV)) (X Y : β → List (Nat × PV) → List (Nat × PV)) (J : Nat → β → Prop) (n0 : Nat) (b0 : β) (hS : AllLook S (X b0 S0)) (hM : AllLook M (Y b0 M0)) (hr : ((X b0 S0).all fun q => refsB 3 ((Y b0 M0).map (·.1)) q.2) = true) (hrm : ((Y b0 M0).all fun q => refsM ((Y b0 M0).map (·.1)) q.2) = true)
  (h0 : J n0 b0) (hrun : ∀ (JJ : St → Prop) n b, (∀ m b' S' M', m < n → J m b' → AllLook S' (X b' S0) → AllLook M' (Y b' M0) → ((X b' S0).all fun q => refsB 3 ((Y b' M0).map (·.1)) q.2) = true → ((Y b' M0).all fun q => refsM ((Y b' M0).map (·.1)) q.2) = true → Run P N Q (.again JJ :: k) (St.of S' M')) → J n b →
   Run P N Q (.code c :: .again JJ :: k) (St.of (X b S0) (Y b M0))) : Run P N Q (.code (.loop c) :: k) (St.of S M) :=
 R.loop S0 M0 X Y J n0 b0 hS hM hr hrm h0 fun n b hJ => hrun _ n b (fun m b' S' M' hlt hJ' h1 h2 h3 h4 => R.again m b' hlt hJ' h1 h2 h3 h4) hJ
theorem R.join2 {β : Type} {c : Code} (S0 M0 : List (Nat × PV)) (X Y : β → List (Nat × PV) → List (Nat × PV)) (J : β → Prop)
  (hrun : ∀ JJ : St → Prop, (∀ b S' M', J b → AllLook S' (X b S0) → AllLook M' (Y b M0) → ((X b S0).all fun q => refsB 3 ((Y b M0).map (·.1)) q.2) = true → ((Y b M0).all fun q => refsM ((Y b M0).map (·.1)) q.2) = true → Run P N Q (.again JJ :: k) (St.of S' M')) → Run P N Q (.code c :: .again JJ :: k) (St.of S M))
  (hk : ∀ b, J b → Run P N Q k (St.of (X b S0) (Y b M0))) : Run P N Q (.code c :: k) (St.of S M) :=
 R.join S0 M0 X Y J (hrun _ fun b S' M' hJ h1 h2 h3 h4 => R.meet b hJ h1 h2 h3 h4) hk

end

section
variable {P : Program} {N : Nat} {all : Array Oper} {F : Nat → Foot} {i : Nat} {rest : List Oper} {S M : List (Nat × PV)} {K : St → Prop} {d : Nat} {ty : TypeId} {pos : String} {after : Array Edge}
theorem X.makeSlice2 {t : TypeId} {x y : Operand} {e sz by' : Nat} {z : List PV} {k k' : IntKind} {j : Int} {α : Type} {zv : α} {v : List α} (f : α → PV) (hv : makeL zv j = some v) (ht : eltOf P t = some (e, sz, by')) (hz : zeroPV P e = some z) (hel : (f zv).cells = z.map zc) (hx : evO S x = some (.lit (.int k j))) (hy : evO S y = some (.lit (.int k' j))) (hp : ∀ c ∈ z, c.plain = true) (h0 : Nat.ble 1 sz = true) (hzl : z.length = sz) (hb : Nat.ble by' 128 = true) (hm : look M (64 * d) = none) (hd : Nat.ble (d + 1) N = true) (hF : (F i).okB [64 * d] [64 * d] = true)
  (h : SLx P N all F (i + 1) rest (St.of ((d, .own (64 * d) (v.map f).length) :: S) ((64 * d, .obj true e sz (v.map f)) :: M)) K) : SLx P N all F i (⟨some d, .makeSlice t x y, ty, pos, after, none⟩ :: rest) (St.of S M) K := by
 obtain ⟨h1, h2, rfl⟩ := makeL_spec hv
 refine X.makeSlice (f zv) ht hz (.inr hel) hx hy h1 h2 hp h0 hzl hb hm hd hF ?_
 simpa using h
theorem X.sliceS2 {t : TypeId} {x : Operand} {l q : List PV} {lo hi : Option Operand} {e sz by' : Nat} {a c : Int} (ht : eltOf P t = some (e, sz, by')) (hx : evO S x = some (.slice l)) (hsz : ∀ e ∈ l, e.cells.length = sz) (hlo : Bound S lo 0 a) (hhi : Bound S hi l.length c) (h0 : 0 ≤ a ∧ a ≤ c ∧ c ≤ l.length) (hq : (l.take c.toNat).drop a.toNat = q) (hd : Nat.ble (d + 1) N = true)
  (h : SLx P N all F (i + 1) rest (St.of ((d, .slice q) :: S) M) K) : SLx P N all F i (⟨some d, .slice t x lo hi none, ty, pos, after, none⟩ :: rest) (St.of S M) K := by
 subst hq; exact X.sliceS ht hx hsz hlo hhi h0 hd h
theorem X.indexStr2 {t : TypeId} {x y : Operand} {b : ByteArray} {k : IntKind} {j v : Int} (hv : idxS b j = some v) (ht : P.underlying t = some .string) (hx : evO S x = some (.lit (.string b))) (hy : evO S y = some (.lit (.int k j))) (hd : Nat.ble (d + 1) N = true) (h : SLx P N all F (i + 1) rest (St.of ((d, .lit (.int .u8 v)) :: S) M) K) :
  SLx P N all F i (⟨some d, .index t x y, ty, pos, after, none⟩ :: rest) (St.of S M) K := by
 obtain ⟨h0, u, hu, rfl⟩ := idxS_spec hv
 exact X.indexStr ht hx hy h0 hu hd h
theorem X.eqlBool {t t' : TypeId} {x y : Operand} {a b : Bool} (ht : P.underlying t = some .bool) (hx : evO S x = some (.lit (.bool a))) (hy : evO S y = some (.lit (.bool b))) (hd : Nat.ble (d + 1) N = true) (h : SLx P N all F (i + 1) rest (St.of ((d, .lit (.bool (a == b))) :: S) M) K) :
  SLx P N all F i (⟨some d, .binOp .eql t x y t', ty, pos, after, none⟩ :: rest) (St.of S M) K :=
 X.ofOp (U := []) (R := []) (.eqlBool t t' x y a b ht (evO_spec hx) (evO_spec hy)) hd (okB_nil _) h
theorem X.neqBool {t t' : TypeId} {x y : Operand} {a b : Bool} (ht : P.underlying t = some .bool) (hx : evO S x = some (.lit (.bool a))) (hy : evO S y = some (.lit (.bool b))) (hd : Nat.ble (d + 1) N = true) (h : SLx P N all F (i + 1) rest (St.of ((d, .lit (.bool (a != b))) :: S) M) K) :
  SLx P N all F i (⟨some d, .binOp .neq t x y t', ty, pos, after, none⟩ :: rest) (St.of S M) K :=
 X.ofOp (U := []) (R := []) (.neqBool t t' x y a b ht (evO_spec hx) (evO_spec hy)) hd (okB_nil _) h
end
end Go.Px
namespace Go.Px
open Go
theorem toListOf (s : String) (l : List Char) (h : s = String.ofList l) : s.toList = l := by rw [h]; exact String.toList_ofList
theorem headOf {α : Type} {l : List α} {c : α} (h : l.head? = some c) : ∃ r, l = c :: r := by
 cases l with
 | nil => cases h
 | cons x xs => cases h; exact ⟨xs, rfl⟩
theorem stripCut (r : List (List Char)) : stripLifts liftWords ("cut".toList :: r) = ([], "cut".toList :: r) := by kernel_rfl
theorem cutHeads {P : Program} (h : (behindMainWord (wordsSigns P.initOrder.toList)).head? = some "cut".toList) : P.headLifts = [] := by
 obtain ⟨r, e⟩ := headOf h
 unfold Program.headLifts
 rw [e, stripCut]
 simp
theorem cutEnter {P : Program} (h : (behindMainWord (wordsSigns P.initOrder.toList)).head? = some "cut".toList) (h1 : P.laysLater = false) (h2 : P.bearsReflect = false) (h3 : P.doorFits [] = true) : P.mayEnter = true := by
 obtain ⟨r, e⟩ := headOf h
 unfold Program.mayEnter
 rw [e]
 simp only [stripCut, h1, h2, h3, List.head?_cons, Bool.not_false, Bool.or_true, Bool.and_true, List.contains_nil, Bool.not_false]
 simp
theorem cutLifts {P : Program} (h : (behindMainWord (wordsSigns P.initOrder.toList)).head? = some "cut".toList) : P.liftsFinal = false := by
 have k := cutHeads h
 obtain ⟨r, e⟩ := headOf h
 unfold Program.liftsFinal
 rw [e, k]
 have : (some "cut".toList == some "carried".toList) = false := by kernel_rfl
 simp only [List.head?_cons, this, Bool.false_and, List.contains_nil, Bool.or_false]
theorem cutMake {P : Program} (h : (behindMainWord (wordsSigns P.initOrder.toList)).head? = some "cut".toList) : P.make = some .cut := by
 obtain ⟨r, e⟩ := headOf h
 unfold Program.make
 rw [e]
 have h1 : ("cut".toList == "gc".toList) = false := by kernel_rfl
 have h2 : ("cut".toList == "spec".toList) = false := by kernel_rfl
 have h3 : ("cut".toList == "cut".toList) = true := by kernel_rfl
 simp only [h1, h2, h3, Bool.or_self, Bool.true_or, if_true]
 simp
end Go.Px
namespace Go.Px
set_option linter.unusedSimpArgs false
set_option linter.unusedVariables false
open Go.RowKit
def recvT : Nat → List PV → Option (List PV × List (Nat × PV) × Nat)
 | n, [] => some ([], [], n)
 | n, .agg cs :: ps => match recvF n cs with
  | some (cs', U, n1) => match recvT n1 ps with
   | some (ps', U', n') => some (.agg cs' :: ps', U ++ U', n')
   | none => none
  | none => none
 | n, p :: ps => bif p.plain then (match recvT n ps with
  | some (ps', U, n') => some (p :: ps', U, n')
  | none => none) else none
section
variable {P : Program} {N : Nat} {all : Array Oper} {F : Nat → Foot} {i : Nat} {rest : List Oper} {S M : List (Nat × PV)} {K : St → Prop} {d : Nat} {ty : TypeId} {pos : String} {after : Array Edge}
end
section
variable {P : Program} {N : Nat} {Q : St → Prop} {k : List Item} {S M : List (Nat × PV)}
end
end Go.Px
namespace Go.Px
set_option linter.unusedSimpArgs false
set_option linter.unusedVariables false
open Go.RowKit

def AllAt (M : List (Nat × PV)) : List (Nat × Nat) → List (Nat × PV) → List (Nat × PV) → Prop
 | [], [], [] => True
 | (n, c) :: Hs, (n', p) :: M0, (n'', q) :: M1 => n' = n ∧ n'' = n ∧ (∃ p', look M c = some p' ∧ HandR p p') ∧ Kin p q ∧ AllAt M Hs M0 M1
 | _, _, _ => False

def nodupB : List Nat → Bool
 | [] => true
 | n :: l => (l.all fun k => !Nat.beq n k) && nodupB l
theorem nodupB_spec : ∀ {l : List Nat}, nodupB l = true → l.Nodup
 | [], _ => List.nodup_nil
 | n :: l, h => by
  simp only [nodupB, Bool.and_eq_true, List.all_eq_true, Bool.not_eq_true'] at h
  refine List.nodup_cons.2 ⟨fun hm => ?_, nodupB_spec h.2⟩
  have := h.1 n hm
  rw [Nat.beq_refl] at this
  cases this

theorem nameOf_cons (q : Nat × Nat) (Hs : List (Nat × Nat)) (n : Nat) : nameOf (q :: Hs) n = if q.1 = n then some q.2 else nameOf Hs n := by
 unfold nameOf
 rw [List.find?_cons]
 by_cases h : q.1 = n
 ·simp [h]
 ·have : (q.1 == n) = false := by simpa using h
  simp [h, this]

section
variable {M : List (Nat × PV)}
theorem AllAt.inv {q : Nat × Nat} {Hs : List (Nat × Nat)} {M0 M1 : List (Nat × PV)} (h : AllAt M (q :: Hs) M0 M1) : ∃ p r M0' M1', M0 = (q.1, p) :: M0' ∧ M1 = (q.1, r) :: M1' ∧ (∃ p', look M q.2 = some p' ∧ HandR p p') ∧ Kin p r ∧ AllAt M Hs M0' M1' := by
 match M0, M1, h with
 | (n', p) :: M0, (n'', r) :: M1, h =>
  obtain ⟨h1, h2, h3, h4, h5⟩ := h
  subst h1; subst h2
  exact ⟨p, r, M0, M1, rfl, rfl, h3, h4, h5⟩
theorem AllAt.nil_inv {M0 M1 : List (Nat × PV)} (h : AllAt M [] M0 M1) : M0 = [] ∧ M1 = [] := by
 match M0, M1, h with
 | [], [], _ => exact ⟨rfl, rfl⟩
theorem AllAt.at_ {S : List (Nat × PV)} : ∀ {Hs : List (Nat × Nat)} {M0 M1 : List (Nat × PV)}, AllAt M Hs M0 M1 → ∀ n c, nameOf Hs n = some c → HandR (memOf M0 n) ((St.of S M).mem c) ∧ Kin (memOf M0 n) (memOf M1 n)
 | [], _, _, _, n, c, h => by simp [nameOf] at h
 | q :: Hs, M0, M1, h, n, c, hn => by
  obtain ⟨p, r, M0', M1', rfl, rfl, h3, h4, h5⟩ := h.inv
  rw [nameOf_cons] at hn
  rw [memOf_cons, memOf_cons]
  by_cases e : q.1 = n
  ·rw [if_pos e] at hn
   injection hn with hn
   subst hn
   simp only [if_pos e.symm]
   obtain ⟨p', h3, h3'⟩ := h3
   exact ⟨by rw [look_mem h3]; exact h3', h4⟩
  ·rw [if_neg e] at hn
   simp only [if_neg (Ne.symm e)]
   exact AllAt.at_ h5 n c hn
theorem AllAt.dom : ∀ {Hs : List (Nat × Nat)} {M0 M1 : List (Nat × PV)}, AllAt M Hs M0 M1 → ∀ n, memOf M0 n ≠ .undef → ∃ c, nameOf Hs n = some c
 | [], _, _, h, n, hn => by
  obtain ⟨rfl, rfl⟩ := h.nil_inv
  exact absurd (memOf_nil n) hn
 | q :: Hs, M0, M1, h, n, hn => by
  obtain ⟨p, r, M0', M1', rfl, rfl, h3, h4, h5⟩ := h.inv
  rw [nameOf_cons]
  rw [memOf_cons] at hn
  by_cases e : q.1 = n
  ·exact ⟨_, if_pos e⟩
  ·rw [if_neg (Ne.symm e)] at hn
   rw [if_neg e]
   exact AllAt.dom h5 n hn
end
theorem nameOf_of_mem : ∀ {Hs : List (Nat × Nat)}, (Hs.map (·.1)).Nodup → ∀ {n c : Nat}, (n, c) ∈ Hs → nameOf Hs n = some c
 | [], _, _, _, h => by cases h
 | q :: Hs, hN, n, c, h => by
  simp only [List.map_cons, List.nodup_cons] at hN
  rw [nameOf_cons]
  rcases List.mem_cons.1 h with h | h
  ·subst h; simp
  ·have : q.1 ≠ n := fun e => hN.1 (List.mem_map.2 ⟨(n, c), h, e.symm⟩)
   rw [if_neg this]
   exact nameOf_of_mem hN.2 h
theorem find_of_mem : ∀ {Hs : List (Nat × Nat)}, (Hs.map (·.2)).Nodup → ∀ {n c : Nat}, (n, c) ∈ Hs → (Hs.find? fun q => q.2 == c) = some (n, c)
 | [], _, _, _, h => by cases h
 | q :: Hs, hN, n, c, h => by
  simp only [List.map_cons, List.nodup_cons] at hN
  rw [List.find?_cons]
  rcases List.mem_cons.1 h with h | h
  ·subst h; simp
  ·have : q.2 ≠ c := fun e => hN.1 (List.mem_map.2 ⟨(n, c), h, e.symm⟩)
   have hb : (q.2 == c) = false := by simpa using this
   rw [hb]
   exact find_of_mem hN.2 h
theorem AllAt.handF {S M : List (Nat × PV)} {Hs : List (Nat × Nat)} {M0 M1 : List (Nat × PV)} (h : AllAt M Hs M0 M1) (h0 : handB M0 = true) (h1 : handB M1 = true) (n1 : (Hs.map (·.1)).Nodup) (n2 : (Hs.map (·.2)).Nodup) : HandF (St.of S M).mem Hs M0 M1 where
 at_ := fun n c hn => (h.at_ n c hn).1
 dom := h.dom
 back := fun k q hq => by
  have hm := List.mem_of_find?_eq_some hq
  have hk := List.find?_some hq
  simp at hk
  subst hk
  exact nameOf_of_mem n1 hm
 none_ := fun n c hn => find_of_mem n2 (nameOf_mem hn)
 kin := fun n c hn => (h.at_ (S := S) n c hn).2
 h0 := h0
 h1 := h1

def recvP : Nat → List PV → Option (List PV × List (Nat × PV) × Nat)
 | n, [] => some ([], [], n)
 | n, .fresh x e sz l :: ps => match recvP (n + 1) ps with
  | some (ps', U, n') => some (.own n l.length :: ps', (n, .obj x e sz l) :: U, n')
  | none => none
 | n, .agg cs :: ps => match recvF n cs with
  | some (cs', U, n1) => match recvP n1 ps with
   | some (ps', U', n') => some (.agg cs' :: ps', U ++ U', n')
   | none => none
  | none => none
 | n, p :: ps => bif p.plain then (match recvP n ps with
  | some (ps', U, n') => some (p :: ps', U, n')
  | none => none) else none
theorem recvP_spec : ∀ (ps : List PV) (n : Nat) (ps' : List PV) (U : List (Nat × PV)) (n' : Nat), recvP n ps = some (ps', U, n') → RecvL n ps ps' U n'
 | [], n, ps', U, n', h => by
  simp only [recvP, Option.some.injEq, Prod.mk.injEq] at h
  obtain ⟨rfl, rfl, rfl⟩ := h
  exact .nil n
 | p :: ps, n, ps', U, n', h => by
  unfold recvP at h
  split at h
  ·rename_i heq; cases heq
  ·rename_i x e sz l qs heq
   cases heq
   split at h <;> cases h
   rename_i h1
   exact .fresh _ _ _ _ _ _ _ _ _ (recvP_spec ps _ _ _ _ h1)
  ·rename_i cs qs heq
   cases heq
   split at h <;> try cases h
   rename_i h0
   split at h <;> cases h
   rename_i h1
   exact .agg _ _ _ _ _ _ _ _ _ (recvF_spec _ _ _ _ _ h0) (recvP_spec ps _ _ _ _ h1)
  ·rename_i q qs hne hne2 heq
   cases heq
   cases hp : p.plain with
   | false => rw [hp] at h; cases h
   | true =>
    rw [hp] at h
    simp only [cond_true] at h
    split at h <;> cases h
    rename_i h1
    exact .plain _ _ _ _ _ _ hp (recvP_spec ps _ _ _ _ h1)
def recv1 (n : Nat) (r : PV) : Option (PV × List (Nat × PV) × Nat) :=
 match r with
 | .tuple cs => match recvP n cs with
  | some (cs', U, n') => some (.tuple cs', U, n')
  | none => none
 | r => match recvP n [r] with
  | some ([p], U, n') => some (p, U, n')
  | _ => none
theorem recv1_spec {n : Nat} {r p : PV} {U : List (Nat × PV)} {n' : Nat} (h : recv1 n r = some (p, U, n')) : RecvL n [r] [p] U n' := by
 unfold recv1 at h
 split at h
 ·split at h <;> cases h
  rename_i h1
  have := RecvL.tuple n _ _ [] [] _ [] _ _ (recvP_spec _ _ _ _ _ h1) (.nil _)
  rwa [List.append_nil] at this
 ·split at h <;> cases h
  rename_i h1
  exact recvP_spec _ _ _ _ _ h1

theorem covB_spec {Hs : List (Nat × Nat)} {R : List Nat} {M1 : List (Nat × PV)} (h : (Hs.all fun q => R.contains q.2 || !isRead (memOf M1 q.1)) = true) : ∀ n c, nameOf Hs n = some c → c ∈ R ∨ isRead (memOf M1 n) = false := fun n c hn => by
 have := List.all_eq_true.1 h (n, c) (nameOf_mem hn)
 simpa using this
def lookN : List (Nat × Nat) → Nat → Option Nat
 | [], _ => none
 | (m, k) :: L, n => bif Nat.beq m n then some k else lookN L n
def relen1 (L : List (Nat × Nat)) : PV → PV
 | .own c k => match lookN L c with
  | some k' => .own c k'
  | none => .own c k
 | p => p
def relenV (L : List (Nat × Nat)) : PV → PV
 | .agg cs => .agg (cs.map (relen1 L))
 | p => relen1 L p
def relS (L : List (Nat × Nat)) (S : List (Nat × PV)) : List (Nat × PV) := S.map fun q => (q.1, relenV L q.2)
def pairs1 (L0 : List (Nat × Nat)) : PV → List (Nat × Nat)
 | .own c k => match lookN L0 c with
  | some j => [(k, j)]
  | none => []
 | _ => []
def pairsV (L0 : List (Nat × Nat)) : PV → List (Nat × Nat)
 | .agg cs => cs.flatMap (pairs1 L0)
 | p => pairs1 L0 p
def pairsS (L0 : List (Nat × Nat)) (S : List (Nat × PV)) : List (Nat × Nat) := S.flatMap fun q => pairsV L0 q.2
def LenAt (M M' : List (Nat × PV)) : List (Nat × Nat) → List (Nat × Nat) → Prop
 | [], [] => True
 | (c, j) :: L0, (c', k) :: L => c' = c ∧ (∃ x e sz l, look M c = some (.obj x e sz l) ∧ j = l.length) ∧ (∃ x e sz l, look M' c = some (.obj x e sz l) ∧ k = l.length) ∧ LenAt M M' L0 L
 | _, _ => False
theorem AllEq.mem' : ∀ {C : List (Nat × Nat)}, AllEq C → ∀ q ∈ C, q.1 = q.2
 | [], _, q, h => by cases h
 | p :: C, h, q, hq => by
  rcases List.mem_cons.1 hq with e | e
  ·subst e; exact h.1
  ·exact AllEq.mem' h.2 q e
theorem LenAt.look {M M' : List (Nat × PV)} : ∀ {L0 L : List (Nat × Nat)}, LenAt M M' L0 L → ∀ c, (lookN L0 c = none ∧ lookN L c = none) ∨ ∃ x e sz l x' e' sz' l', lookN L0 c = some l.length ∧ lookN L c = some l'.length ∧ Go.Px.look M c = some (.obj x e sz l) ∧ Go.Px.look M' c = some (.obj x' e' sz' l')
 | [], [], _, c => .inl ⟨rfl, rfl⟩
 | (c1, j) :: L0, (c2, k) :: L, h, c => by
  obtain ⟨rfl, ⟨x, e, sz, l, h1, rfl⟩, ⟨x', e', sz', l', h2, rfl⟩, h3⟩ := h
  unfold lookN
  cases hb : Nat.beq c2 c with
  | true =>
   have := Nat.eq_of_beq_eq_true hb
   subst this
   exact .inr ⟨x, e, sz, l, x', e', sz', l', rfl, rfl, h1, h2⟩
  | false => exact LenAt.look h3 c
theorem relen1_spec {S M M' : List (Nat × PV)} {L0 L : List (Nat × Nat)} (hL : LenAt M M' L0 L) {p : PV} (hE : ∀ q ∈ pairs1 L0 p, q.1 = q.2) : Relen1 (St.of S M).mem (St.of S M').mem p (relen1 L p) := by
 cases p with
 | own c k =>
  rcases hL.look c with ⟨h1, h2⟩ | ⟨x, e, sz, l, x', e', sz', l', h1, h2, h3, h4⟩
  ·simp only [relen1, h2]; exact .same _
  ·simp only [relen1, h2]
   have := hE (k, l.length) (by simp [pairs1, h1])
   exact .own c k e sz e' sz' x x' l l' (look_mem h3) this (look_mem h4)
 | _ => exact .same _
theorem relS_look (L : List (Nat × Nat)) : ∀ (S : List (Nat × PV)) (t : Nat), look (relS L S) t = (look S t).map (relenV L)
 | [], t => rfl
 | (n, p) :: S, t => by
  show (bif Nat.beq n t then some (relenV L p) else look (relS L S) t) = (bif Nat.beq n t then some p else look S t).map (relenV L)
  cases Nat.beq n t with
  | true => rfl
  | false => exact relS_look L S t
theorem look_in : ∀ {S : List (Nat × PV)} {t : Nat} {p : PV}, look S t = some p → ∃ q ∈ S, q.2 = p
 | [], t, p, h => by cases h
 | (n, q) :: S, t, p, h => by
  unfold look at h
  cases hb : Nat.beq n t with
  | true => rw [hb] at h; exact ⟨_, List.mem_cons_self .., Option.some.inj h⟩
  | false =>
   rw [hb] at h
   obtain ⟨r, hr, e⟩ := look_in (S := S) h
   exact ⟨r, List.mem_cons_of_mem _ hr, e⟩
theorem relS_spec {S M M' : List (Nat × PV)} {L0 L : List (Nat × Nat)} (hL : LenAt M M' L0 L) (hE : AllEq (pairsS L0 S)) (t : Nat) : RelenP (St.of S M).mem (St.of S M').mem ((St.of S M).slot t) ((St.of (relS L S) M).slot t) := by
 have hE' := hE.mem'
 unfold St.of
 simp only [relS_look]
 cases h : look S t with
 | none => exact .one _ _ (.same _)
 | some p =>
  simp only [Option.map_some, Option.getD_some]
  obtain ⟨q, hq, rfl⟩ := look_in h
  have hp : ∀ r ∈ pairsV L0 q.2, r.1 = r.2 := fun r hr => hE' r (List.mem_flatMap.2 ⟨q, hq, hr⟩)
  generalize q.2 = p at hp
  cases p with
  | agg cs =>
   refine .agg cs _ (by simp) (fun j c c' h1 h2 => ?_)
   rw [List.getElem?_map, h1] at h2
   simp at h2
   subst h2
   exact relen1_spec (S := S) hL fun r hr => hp r (List.mem_flatMap.2 ⟨c, List.mem_of_getElem? h1, hr⟩)
  | _ => exact .one _ _ (relen1_spec (S := S) hL hp)

section
variable {P : Program} {N : Nat} {all : Array Oper} {F : Nat → Foot} {i d : Nat} {rest : List Oper} {S M : List (Nat × PV)} {K : St → Prop} {ty : TypeId} {pos : String} {after : Array Edge} {Q : St → Prop} {k : List Item}

theorem X.callM {fo : Operand} {args : Array Operand} {ats : Array TypeId} {f : FuncId} {caps ps ps' ps2 : List PV} {r p : PV} {R : List Nat} {M0 M1 U M' : List (Nat × PV)} {n' : Nat} (Hs : List (Nat × Nat)) (hc : PCM P f ps2 M0 r M1) (hf : evO S fo = some (.fn f caps)) (hps : evL S args.toList = some ps) (hp : HandL Hs (St.of S M).mem ps ps' R)
  (ha : ps' ++ caps = ps2) (hat : AllAt M Hs M0 M1) (h0 : handB M0 = true) (h1 : handB M1 = true) (hN : (nodupB (Hs.map (·.1)) && nodupB (Hs.map (·.2))) = true) (hcov : (Hs.all fun q => R.contains q.2 || !isRead (memOf M1 q.1)) = true) (hr : recv1 (64 * d) r = some (p, U, n')) (hU : noneIn M U = true) (hM : U.reverse ++ ((backU Hs M1).reverse ++ M) = M') (hd : Nat.ble (d + 1) N = true) (hF : (F i).okB R ((backU Hs M1).map (·.1) ++ U.map (·.1)) = true) (h : SLx P N all F (i + 1) rest (St.of ((d, p) :: S) M') K) :
  SLx P N all F i (⟨some d, .call { callee := .value fo, args := args, argTypes := ats }, ty, pos, after, none⟩ :: rest) (St.of S M) K := by
 subst ha
 subst hM
 have hN' := Bool.and_eq_true_iff.1 hN
 have hbU : (backU Hs M1 ++ U).map (·.1) = (backU Hs M1).map (·.1) ++ U.map (·.1) := by simp
 refine ⟨_, .callM _ d fo args ats ty pos after none f caps ps ps' r p R Hs M0 M1 U n' _ (fun g want e => by cases e) (evO_spec hf) (evL_spec hps) hp hc (hat.handF h0 h1 (nodupB_spec hN'.1) (nodupB_spec hN'.2)) (nodupB_spec hN'.2) (covB_spec hcov) (fun t => .one _ _ (.same _)) (.inr rfl) (recv1_spec hr) (fun q hq => ⟨look_none (noneIn_spec hU q hq).1, (noneIn_spec hU q hq).2⟩) (Nat.le_of_ble_eq_true hd) (okB_spec (by rw [hbU]; exact hF)), ?_⟩
 rw [slot_of, upds_of S (backU Hs M1 ++ U) M, List.reverse_append, List.append_assoc]
 exact h

theorem X.callR {fo : Operand} {args : Array Operand} {ats : Array TypeId} {f : FuncId} {caps ps ps' ps2 : List PV} {r p : PV} {R : List Nat} {M0 M1 U M' S' : List (Nat × PV)} {n' : Nat} (Hs : List (Nat × Nat)) (L0 L : List (Nat × Nat)) (hc : PCM P f ps2 M0 r M1) (hf : evO S fo = some (.fn f caps)) (hps : evL S args.toList = some ps) (hp : HandL Hs (St.of S M).mem ps ps' R)
  (ha : ps' ++ caps = ps2) (hat : AllAt M Hs M0 M1) (h0 : handB M0 = true) (h1 : handB M1 = true) (hN : (nodupB (Hs.map (·.1)) && nodupB (Hs.map (·.2))) = true) (hcov : (Hs.all fun q => R.contains q.2 || !isRead (memOf M1 q.1)) = true) (hL : LenAt M ((backU Hs M1).reverse ++ M) L0 L) (hS : relS L S = S') (hE : AllEq (pairsS L0 S)) (hr : recv1 (64 * d) r = some (p, U, n')) (hU : noneIn M U = true) (hM : U.reverse ++ ((backU Hs M1).reverse ++ M) = M') (hd : Nat.ble (d + 1) N = true) (hF : F i = none) (h : SLx P N all F (i + 1) rest (St.of ((d, p) :: S') M') K) :
  SLx P N all F i (⟨some d, .call { callee := .value fo, args := args, argTypes := ats }, ty, pos, after, none⟩ :: rest) (St.of S M) K := by
 subst ha
 subst hM
 subst hS
 have hN' := Bool.and_eq_true_iff.1 hN
 refine ⟨_, .callM _ d fo args ats ty pos after none f caps ps ps' r p R Hs M0 M1 U n' (St.of (relS L S) M).slot (fun g want e => by cases e) (evO_spec hf) (evL_spec hps) hp hc (hat.handF h0 h1 (nodupB_spec hN'.1) (nodupB_spec hN'.2)) (nodupB_spec hN'.2) (covB_spec hcov) (fun t => ?_) (.inl hF) (recv1_spec hr) (fun q hq => ⟨look_none (noneIn_spec hU q hq).1, (noneIn_spec hU q hq).2⟩) (Nat.le_of_ble_eq_true hd) (by rw [hF]; trivial), ?_⟩
 ·have e1 : upds (St.of S M).mem (backU Hs M1) = (St.of S ((backU Hs M1).reverse ++ M)).mem := upds_of S (backU Hs M1) M
  rw [e1]
  exact relS_spec hL hE t
 ·rw [upds_of S (backU Hs M1 ++ U) M, List.reverse_append, List.append_assoc, slot_of (relS L S) M d p]
  exact h

theorem HandL.pureB {Hs : List (Nat × Nat)} {p p' : PV} {ps ps' : List PV} {R R' : List Nat} {C : List (Nat × Nat)} (hp : purL M [p] = some ([p'], R, C)) (hC : AllEq C) (h : HandL Hs (St.of S M).mem ps ps' R') : HandL Hs (St.of S M).mem (p :: ps) (p' :: ps') (R ++ R') :=
 .pure p p' ps ps' R R' (purL_spec hp hC) h
theorem HandL.ownB {Hs : List (Nat × Nat)} (n : Nat) {c j e sz : Nat} {x : Bool} {l ps ps' : List PV} {R : List Nat} (hm : look M c = some (.obj x e sz l)) (hk : j = l.length) (hn : nameOf Hs n = some c) (h : HandL Hs (St.of S M).mem ps ps' R) : HandL Hs (St.of S M).mem (.own c j :: ps) (.own n j :: ps') (c :: R) :=
 .own n c j e sz x l ps ps' R hn (look_mem hm) hk h
def regsB : List (Nat × PV) → List (Nat × PV) → Bool
 | [], _ => true
 | (n, .yreg true _) :: M0, (m, .yreg true true) :: M1 => Nat.beq n m && regsB M0 M1
 | (_, .yreg true _) :: _, _ => false
 | (n, _) :: M0, (m, _) :: M1 => Nat.beq n m && regsB M0 M1
 | _ :: _, [] => false
theorem regsB_spec : ∀ {M0 M1 : List (Nat × PV)}, regsB M0 M1 = true → handB M0 = true → ∀ n own, memOf M0 n = .yreg true own → memOf M1 n = .yreg true own
 | [], _, _, _, n, own, hn => by rw [memOf_nil] at hn; cases hn
 | (k, p) :: M0, M1, h, h0, n, own, hn => by
  have h0' : handB M0 = true := by
   unfold handB at h0
   split at h0
   ·rename_i heq; cases heq
   ·rename_i heq; cases heq; simp only [Bool.and_eq_true] at h0; exact h0.2
   ·rename_i heq; cases heq; simp only [Bool.and_eq_true] at h0; exact h0.2.2
   ·rename_i heq; cases heq; simp only [Bool.and_eq_true] at h0; exact h0.2
   ·rename_i heq; cases heq; simp only [Bool.and_eq_true] at h0; exact h0.2
   ·cases h0
  rw [memOf_cons] at hn
  unfold regsB at h
  split at h
  ·rename_i heq; cases heq
  ·rename_i heq; cases heq
   simp only [Bool.and_eq_true] at h
   have hk := Nat.eq_of_beq_eq_true h.1
   subst hk
   rw [memOf_cons]
   by_cases e : n = k
   ·subst e
    simp only [if_true] at hn ⊢
    have : own = true := by
     unfold handB at h0
     split at h0 <;> rename_i heq <;> first | (cases heq; cases hn; rfl) | (cases heq; cases hn) | cases heq | cases h0
    rw [this]
   ·simp only [if_neg e] at hn ⊢
    exact regsB_spec h.2 h0' n own hn
  ·cases h
  ·rename_i heq
   cases heq
   simp only [Bool.and_eq_true] at h
   have hk := Nat.eq_of_beq_eq_true h.1
   subst hk
   rw [memOf_cons]
   by_cases e : n = k
   ·subst e
    simp only [if_true] at hn
    subst hn
    rename_i hne
    exact (hne _ rfl).elim
   ·simp only [if_neg e] at hn ⊢
    exact regsB_spec h.2 h0' n own hn
  ·cases h

theorem PCM.start {f : FuncId} {fn : Func} {c : Code} {args : List PV} {M0 M1 : List (Nat × PV)} {r : PV} (hf : P.funcs[f]? = some fn) (hN : fn.ntmps = N) (hb : fn.body = some c) (hok : okFn P f = true) (hn : Nat.ble args.length N = true) (h0 : handB M0 = true) (h1 : handB M1 = true) (h01 : M0.map (·.1) = M1.map (·.1)) (hu : M1.all (fun q => match q.2 with | .undef => false | _ => true) = true) (hrg : regsB M0 M1 = true)
  (h : Run P N (FinM P fn r M1) [.code c] (St.of (slotsOf 0 args) M0)) : PCM P f args M0 r M1 := by
 subst hN
 have key : ∀ (M0 M1 : List (Nat × PV)), M0.map (·.1) = M1.map (·.1) → M1.all (fun q => match q.2 with | .undef => false | _ => true) = true → ∀ n, memOf M0 n ≠ .undef → memOf M1 n ≠ .undef := by
  intro M0
  induction M0 with
  | nil => intro M1 _ _ n hn; exact absurd (memOf_nil n) hn
  | cons q M0 ih =>
   intro M1 h hu n hn
   match M1, h, hu with
   | p :: M1, h, hu =>
    simp only [List.map_cons, List.cons.injEq] at h
    simp only [List.all_cons, Bool.and_eq_true] at hu
    rw [memOf_cons] at hn ⊢
    by_cases e : n = q.1
    ·rw [if_pos (e.trans h.1)]
     intro hp
     rw [hp] at hu
     exact absurd hu.1 (by simp)
    ·rw [if_neg e] at hn
     rw [if_neg (fun e' => e (e'.trans h.1.symm))]
     exact ih M1 h.2 hu.2 n hn
 refine PCM.intro hf hb hok (Nat.le_of_ble_eq_true hn) h0 h1 (key M0 M1 h01 hu) (regsB_spec hrg h0) ?_
 have e : (⟨initSlot args, memOf M0⟩ : St) = St.of (slotsOf 0 args) M0 := by
  unfold memOf St.of
  congr 1
  funext t
  rw [initSlot_get, look_slotsOf]; simp
 rw [e]; exact h

def BackL (M : List (Nat × PV)) : List (Nat × PV) → Prop
 | [] => True
 | (n, p) :: M1 => look M n = some p ∧ BackL M M1
theorem BackL.spec {S : List (Nat × PV)} : ∀ {M1 : List (Nat × PV)}, BackL M M1 → ∀ n, memOf M1 n ≠ .undef → (St.of S M).mem n = memOf M1 n
 | [], _, n, hn => absurd (memOf_nil n) hn
 | (m, p) :: M1, h, n, hn => by
  rw [memOf_cons] at hn ⊢
  by_cases e : n = m
  ·rw [if_pos e, e]; exact look_mem h.1
  ·rw [if_neg e] at hn
   rw [if_neg e]
   exact BackL.spec h.2 n hn

theorem R.finM1o {fn : Func} {t n j e sz : Nat} {x : Bool} {l : List PV} {r : PV} {M1 : List (Nat × PV)} (hres : fn.results = #[.tmp t]) (hv : look S t = some (.own n j)) (hm : look M n = some (.obj x e sz l)) (hj : j = l.length) (hn : Nat.beq (n % 64) 63 = false) (hB : BackL M M1) (hr : .fresh x e sz l = r) : Run P N (FinM P fn r M1) (.code .ret :: k) (St.of S M) :=
 Run.ret ⟨⟨[.own n j], [.fresh x e sz l], [n], by rw [hres]; exact .tmp t _ [] [] (look_slot hv) .nil, .own n j x e sz l [] [] [] (look_mem hm) hj (by simp) .nil, hr, fun m h => by
  simp at h; subst h; intro e; rw [e] at hn; cases hn⟩, hB.spec⟩
end
end Go.Px
namespace Go.Px
set_option linter.unusedSimpArgs false
set_option linter.unusedVariables false
open Go.RowKit

def litC : PV → Prop
 | .lit _ => True
 | _ => False
inductive FlatR : PV → Prop where
 | lit (v : Value) : FlatR (.lit v)
 | nil : FlatR (.slice [])
 | fresh (x : Bool) (e sz : Nat) (l : List PV) (h : ∀ q ∈ l, ∀ c ∈ q.cells, litC c) : FlatR (.fresh x e sz l)
 | agg (cs : List PV) (h : ∀ c ∈ cs, FlatR c) : FlatR (.agg cs)
 | tuple (cs : List PV) (h : ∀ c ∈ cs, FlatR c) : FlatR (.tuple cs)

section
variable {pub pub' : Nat → Nat → Prop} {w : World} {B : Nat → Prop}
theorem Rep.litC {c : PV} {v : Value} (h : Rep pub w c v) (hc : Go.Px.litC c) : Rep pub' w c v := by
 cases h with
 | lit v h => exact .lit v h
 | _ => exact hc.elim
theorem Rep.slice_nil {v : Value} (h : Rep pub w (.slice []) v) : Rep pub' w (.slice []) v := by
 generalize hp : PV.slice [] = p at h
 cases h with
 | slice0 a cap => cases hp; exact .slice0 a cap
 | slice b o cap sz l V hsz hcap hmx hd hc =>
  cases hp
  exact .slice b o cap sz [] V hsz hcap hmx (fun i c hi => by simp at hi) (fun i c hi => by simp at hi)
 | _ => cases hp
theorem RR.repub (hs : ∀ g o, B g → (pub' g o ↔ pub g o)) {r : PV} {v : Value} {gs : List Nat} (h : RR pub w B r v gs) (hf : FlatR r) : RR pub' w B r v gs := by
 induction h with
 | pure p v h =>
  have key : ∀ (p : PV), FlatR p → ∀ v, Rep pub w p v → Rep pub' w p v := by
   intro p hp
   induction hp with
   | lit u => intro v h; exact h.litC (by trivial)
   | nil => intro v h; exact h.slice_nil
   | fresh x e sz l _ => intro v h; cases h
   | agg cs _ ih =>
    intro v h
    cases h with
    | agg _ arr hs hd hc => exact .agg cs arr hs hd (fun j c hj => ih c (List.mem_of_getElem? hj) _ (hc j c hj))
   | tuple cs _ ih =>
    intro v h
    cases h with
    | tuple _ arr hs hc => exact .tuple cs arr hs (fun j c hj => ih c (List.mem_of_getElem? hj) _ (hc j c hj))
  exact .pure p v (key p hf v h)
 | fresh x e sz l v h =>
  have hB := h.obj_block
  have hl : ∀ q ∈ l, ∀ c ∈ q.cells, Go.Px.litC c := by cases hf with | fresh _ _ _ _ h => exact h
  refine .fresh x e sz l v ?_
  cases h with
  | obj _ _ _ _ xs hsz hmx hll how hp hq hc =>
   refine .obj x e sz l xs hsz hmx hll how (fun g o hg ho => hp g o hg ((hs g o (hB.2 g hg)).1 ho)) (fun hx g o hg ho => (hs g o (hB.2 g hg)).2 (hq hx g o hg ho)) (fun i c hi => ⟨(hc i c hi).1, (hc i c hi).2.litC ?_⟩)
   have := List.mem_of_getElem? hi
   obtain ⟨q, hq', hc'⟩ := List.mem_flatMap.1 this
   exact hl q hq' c hc'
 | agg cs arr gs hs' hg hd hc ih =>
  have hl : ∀ c ∈ cs, FlatR c := by cases hf with | agg _ h => exact h
  exact .agg cs arr gs hs' hg hd (fun j c g hj hgj => ih j c g hj hgj (hl c (List.mem_of_getElem? hj)))
 | tuple cs arr gs hs' hg hc ih =>
  have hl : ∀ c ∈ cs, FlatR c := by cases hf with | tuple _ h => exact h
  exact .tuple cs arr gs hs' hg (fun j c g hj hgj => ih j c g hj hgj (hl c (List.mem_of_getElem? hj)))
end

inductive LendL (M0 : List (Nat × PV)) : List PV → List PV → Prop where
 | nil : LendL M0 [] []
 | same (p : PV) (ps ps' : List PV) (hp : p.plain = true) (h : LendL M0 ps ps') : LendL M0 (p :: ps) (p :: ps')
 | own (n k e sz : Nat) (x : Bool) (l ps ps' : List PV) (hm : memOf M0 n = .obj x e sz l) (hk : k = l.length) (h : LendL M0 ps ps') : LendL M0 (.own n k :: ps) (.slice l :: ps')
 | lptr (n off : Nat) (x : Bool) (cs ps ps' : List PV) (hm : memOf M0 n = .blk x cs) (hc : ∀ c ∈ cs, c.plain = true) (h : LendL M0 ps ps') : LendL M0 (.lptr n off :: ps) (.cptr cs off :: ps')
 | yng (n : Nat) (own : Bool) (p : PV) (ps ps' : List PV) (hm : memOf M0 n = .yreg false own) (h : LendL M0 ps ps') : LendL M0 (.yng n p :: ps) (p :: ps')
 | agg (cs cs' ps ps' : List PV) (hc : LendL M0 cs cs') (h : LendL M0 ps ps') : LendL M0 (.agg cs :: ps) (.agg cs' :: ps')
theorem LendL.length {M0 : List (Nat × PV)} {ps ps' : List PV} (h : LendL M0 ps ps') : ps'.length = ps.length := by
 induction h <;> simp_all

def lentB (V : Nat → Value) (M0 : List (Nat × PV)) (b : Nat) : Prop := ∃ n, memOf M0 n ≠ .undef ∧ inB (V n) b

end Go.Px
namespace Go.Px
set_option linter.unusedSimpArgs false
set_option linter.unusedVariables false
open Go.RowKit

def FlatL : List PV → Prop
 | [] => True
 | c :: cs => FlatR c ∧ FlatL cs
theorem FlatL.mem : ∀ {cs : List PV}, FlatL cs → ∀ c ∈ cs, FlatR c
 | [], _, c, h => by cases h
 | c :: cs, h, d, hd => by
  rcases List.mem_cons.1 hd with e | e
  ·subst e; exact h.1
  ·exact FlatL.mem h.2 d e
def LitL : List PV → Prop
 | [] => True
 | c :: cs => litC c ∧ LitL cs
theorem LitL.mem : ∀ {cs : List PV}, LitL cs → ∀ c ∈ cs, litC c
 | [], _, c, h => by cases h
 | c :: cs, h, d, hd => by
  rcases List.mem_cons.1 hd with e | e
  ·subst e; exact h.1
  ·exact LitL.mem h.2 d e
theorem PC.pubF {P : Program} {f : FuncId} {args : List PV} {e sz : Nat} {l : List PV} (h : PC P f args (.fresh true e sz l)) : PC P f args (.fresh false e sz l) := by
 refine ⟨h.1, fun w pub vals a0 a1 a2 a3 => (h.2 w pub vals a0 a1 a2 a3).mono ?_⟩
 rintro ex w' ⟨v, rfl, hbel, pub', gs, p1, p2, p3, hRR, hnd⟩
 obtain ⟨hm, rfl⟩ := hRR.fresh_inv
 have hB := hm.obj_block
 cases hm with
 | obj _ _ _ _ xs hsz hmx hll how hp hq hc =>
  refine ⟨v, rfl, hbel, fun b o => pub' b o ∨ (v.ownBlock = some b ∧ o < l.length * sz), _, fun b o h => .inl (p1 b o h), fun b o h => ?_, fun b o h => ?_, .fresh false e sz l v (.obj false e sz l xs hsz hmx hll how (fun g o hg ho => ?_) (fun _ g o hg ho => .inr ⟨hg, ho⟩) (fun i c hi => ⟨(hc i c hi).1, (hc i c hi).2.mono (fun b o h => .inl h) (fun _ _ _ => rfl)⟩)), hnd⟩
  ·rcases h with h | h
   ·exact p2 b o h
   ·exact .inr (hB.2 b h.1)
  ·rcases h with h | h
   ·exact p3 b o h
   ·rcases how.1.2 with ⟨h1, _⟩ | ⟨g, cap, cur, h1, _, ⟨fr, h2, hf⟩, hnc, _, hcs, _⟩
    ·rw [h1] at h; cases h.1
    ·rw [h1] at h
     have := h.1
     simp [Value.ownBlock] at this
     subst this
     exact ⟨(Array.getElem?_eq_some_iff.1 h2).1, fun _ => not_frozen h2 hf (by
      have h3 := h.2
      have h4 : l.length * sz ≤ cap * sz := Nat.mul_le_mul_right _ hnc
      omega)⟩
  ·rcases ho with ho | ho
   ·have := (hp g o hg ho).1; cases this
   ·exact ⟨rfl, ho.2⟩
end Go.Px
namespace Go.Px
set_option linter.unusedSimpArgs false
set_option linter.unusedVariables false
open Go.RowKit

def Foot.okT : Foot → Nat → Bool
 | none, _ => true
 | some (_, _, sr, _), n => sr.contains n
def Foot.okU : Foot → List Nat → Nat → Bool
 | none, _, _ => true
 | some (r, _, _, sw), R, n => R.all (fun k => r.contains k) && sw.contains n
theorem okT_spec {m : Nat → PV} {F : Foot} {n : Nat} (h : F.okT n = true) : F.okS m [] [n] [] := by
 match F, h with
 | none, _ => trivial
 | some (r, w, sr, sw), h =>
  simp only [Foot.okT, List.contains_eq_mem, decide_eq_true_eq] at h
  exact ⟨fun k hk => by (cases hk), fun k hk => by simp at hk; subst hk; exact h, fun q hq => by cases hq⟩
theorem okU_spec {m : Nat → PV} {F : Foot} {R : List Nat} {n : Nat} {p : PV} (h : F.okU R n = true) (hk : KL (m n) p) : F.okS m R [] [(n, p)] := by
 match F, h with
 | none, _ => trivial
 | some (r, w, sr, sw), h =>
  simp only [Foot.okU, Bool.and_eq_true, List.all_eq_true, List.contains_eq_mem, decide_eq_true_eq] at h
  exact ⟨h.1, fun k hk => by (cases hk), fun q hq => by simp at hq; subst hq; exact .inr ⟨h.2, rfl, hk⟩⟩
theorem KL.obj_inv {x : Bool} {e sz : Nat} {l : List PV} {q : PV} (h : KL (.obj x e sz l) q) : ∃ l', q = .obj x e sz l' ∧ l'.length = l.length := by
 rcases h with h | ⟨x', e', sz', l1, l2, h1, h2, h3⟩
 ·exact ⟨l, h.symm, rfl⟩
 ·cases h1; exact ⟨l2, h2, h3⟩
section
variable {P : Program} {N : Nat} {all : Array Oper} {F : Nat → Foot} {i : Nat} {rest : List Oper} {S M : List (Nat × PV)} {K : St → Prop} {d : Nat} {ty : TypeId} {pos : String} {after : Array Edge}
theorem X.index_xs {t : TypeId} {x y : Operand} {e sz by' ee n k' : Nat} {b : Bool} {l : List PV} {k : IntKind} {j : Int} {m : Nat} (ht : eltOf P t = some (e, sz, by')) (hx : evO S x = some (.own n k')) (hm : look M n = some (.obj b ee sz l)) (hk : k' = l.length) (hy : evO S y = some (.lit (.int k j))) (hj : j = m) (hi : m < l.length) (hd : Nat.ble (d + 1) N = true) (hF : (F i).okT n = true) (h : SLx P N all F (i + 1) rest (St.of ((d, .eptr n k' m 0) :: S) M) K) :
  SLx P N all F i (⟨some d, .indexAddr t x y, ty, pos, after, none⟩ :: rest) (St.of S M) K := by
 refine ⟨_, .opS _ (some d) (.indexAddr t x y) ty pos after none (.eptr n k' m 0) [] [] [n] (fun g want e => by cases e) (fun m2 _ h2 => ?_) (fun d' hd' => by cases hd'; exact Nat.le_of_ble_eq_true hd) (okT_spec hF), ?_⟩
 ·have := h2 n (by simp)
  rw [look_mem hm] at this
  obtain ⟨l', e1, e2⟩ := this.obj_inv
  subst hj
  exact ⟨_, by simpa using AOp.indexAddr_x (P := P) (σ := (St.of S M).ev) (m := m2) (d := d) t x y e sz by' ee n k' b l' k (m : Int) ht (evO_spec hx) e1 (by omega) (evO_spec hy) (by omega) (by omega)⟩
 ·show SLx P N all F (i + 1) rest ⟨upd (St.of S M).slot d (.eptr n k' m 0), (St.of S M).mem⟩ K
  rw [slot_of]; exact h
theorem X.store_es {t : TypeId} {x y : Operand} {n k j off e sz' : Nat} {l l2 : List PV} {el p p' : PV} {R : List Nat} {C : List (Nat × Nat)} {g : Bool} {sz : Nat} (ht : shp P t = some (g, sz)) (hx : evO S x = some (.eptr n k j off)) (hm : look M n = some (.obj true e sz' l)) (hk : k = l.length) (hi : l[j]? = some el) (hy : evO S y = some p) (hp : purL M [p] = some ([p'], R, C)) (hC : AllEq C) (h0 : Nat.ble 1 sz = true) (hl : p'.cells.length = sz) (hfit : Nat.ble (off + sz) sz' = true) (hF : (F i).okU (n :: R) n = true) (h2 : l.set j (setEl el off p') = l2) (h : SLx P N all F (i + 1) rest (St.of S ((n, .obj true e sz' l2) :: M)) K) :
  SLx P N all F i (⟨none, .store t x y, ty, pos, after, none⟩ :: rest) (St.of S M) K := by
 subst h2
 refine ⟨_, .opS _ none (.store t x y) ty pos after none .undef [(n, .obj true e sz' (l.set j (setEl el off p')))] (n :: R) [] (fun g want e => by cases e) (fun m2 h1 _ => ?_) (fun d' hd' => by cases hd') (okU_spec hF (by rw [look_mem hm]; exact .inr ⟨_, _, _, _, _, rfl, rfl, by simp⟩)), ?_⟩
 ·exact ⟨_, AOp.store_e (P := P) (σ := (St.of S M).ev) (m := m2) (d := 0) t x y g sz n k j off e sz' l el p p' R ht (Nat.le_of_ble_eq_true h0) (evO_spec hx) ((h1 n (by simp)).trans (look_mem hm)) hk hi (evO_spec hy) ((purL_spec (S := S) hp hC).local fun q hq => h1 q (by simp [hq])) hl (Nat.le_of_ble_eq_true hfit)⟩
 ·show SLx P N all F (i + 1) rest ⟨(St.of S M).slot, upds (St.of S M).mem [(n, .obj true e sz' (l.set j (setEl el off p')))]⟩ K
  rw [mem_of]; exact h
end
end Go.Px
namespace Go.Px
set_option linter.unusedSimpArgs false
set_option linter.unusedVariables false
open Go.RowKit

section
variable {P : Program} {N : Nat} {all : Array Oper} {F : Nat → Foot} {i : Nat} {rest : List Oper} {S M : List (Nat × PV)} {K : St → Prop} {d : Nat} {ty : TypeId} {pos : String} {after : Array Edge} {Q : St → Prop} {k : List Item}
theorem X.lenY (sk : Bool) (c : Nat) {t : TypeId} {x : Operand} {l : List PV} {j e sz by' : Nat} (ht : eltOf P t = some (e, sz, by')) (hx : evO S x = some (yw sk c (.slice l))) (hj : l.length = j) (hd : Nat.ble (d + 1) N = true) (h : SLx P N all F (i + 1) rest (St.of ((d, .lit (.int .i64 j)) :: S) M) K) :
  SLx P N all F i (⟨some d, .call { callee := .builtin .len, args := #[x], argTypes := #[t] }, ty, pos, after, none⟩ :: rest) (St.of S M) K := by
 subst hj
 exact X.ofOp (U := []) (R := []) (.lenY sk c t x l e sz by' ht (evO_spec hx)) hd (okB_nil _) h
theorem X.indexY (sk : Bool) (c : Nat) {t : TypeId} {x y : Operand} {e sz by' : Nat} {l : List PV} {kk : IntKind} {j : Int} {el : PV} (ht : eltOf P t = some (e, sz, by')) (hx : evO S x = some (yw sk c (.slice l))) (hy : evO S y = some (.lit (.int kk j))) (h0 : 0 ≤ j) (hi : l[j.toNat]? = some el) (hsz : el.cells.length = sz) (hd : Nat.ble (d + 1) N = true) (h : SLx P N all F (i + 1) rest (St.of ((d, yw sk c (.cptr el.cells 0)) :: S) M) K) :
  SLx P N all F i (⟨some d, .indexAddr t x y, ty, pos, after, none⟩ :: rest) (St.of S M) K :=
 X.ofOp (U := []) (R := []) (.indexAddr_y sk c t x y e sz by' l kk j el ht (evO_spec hx) (evO_spec hy) h0 hi hsz) hd (okB_nil _) h
theorem X.loadY (sk : Bool) (c : Nat) {t : TypeId} {x : Operand} {g : Bool} {sz off : Nat} {cs : List PV} {v : PV} (ht : shp P t = some (g, sz)) (hg : (g || Nat.beq sz 1) = true) (hx : evO S x = some (yw sk c (.cptr cs off))) (hv : loadPV g sz off (cs.map (wrapY sk c)) = some v) (hd : Nat.ble (d + 1) N = true) (h : SLx P N all F (i + 1) rest (St.of ((d, v) :: S) M) K) :
  SLx P N all F i (⟨some d, .load t x, ty, pos, after, none⟩ :: rest) (St.of S M) K :=
 X.ofOp (U := []) (R := []) (.load_y sk c t x g sz off cs v ht (by
  rcases Bool.or_eq_true_iff.1 hg with h | h
  ·exact .inl h
  ·exact .inr (Nat.eq_of_beq_eq_true h)) (evO_spec hx) hv) hd (okB_nil _) h
theorem X.callY {fo : Operand} {args : Array Operand} {ats : Array TypeId} {f : FuncId} {ps ps' ys : List PV} {r v : PV} {R : List Nat} {C : List (Nat × Nat)} (hc : PCM P f ys MY r MY) (hf : evO S fo = some (.fn f [])) (hps : evL S args.toList = some ps) (hp : purL M ps = some (ps', R, C)) (hC : AllEq C) (hy : ps'.map (toY 63) = ys) (hok : ps'.all okY = true) (hr : okR r = true) (hv : wrapR (64 * d) r = v) (hn : look M (64 * d) = none) (hd : Nat.ble (d + 1) N = true) (hF : (F i).okB R [64 * d] = true) (h : SLx P N all F (i + 1) rest (St.of ((d, v) :: S) ((64 * d, .yreg false true) :: M)) K) :
  SLx P N all F i (⟨some d, .call { callee := .value fo, args := args, argTypes := ats }, ty, pos, after, none⟩ :: rest) (St.of S M) K := by
 subst hy
 subst hv
 refine ⟨_, .callY _ d fo args ats ty pos after none f ps ps' r R (fun g want e => by cases e) (evO_spec hf) (evL_spec hps) (purL_spec hp hC) hok hc hr (look_none hn) (Nat.le_of_ble_eq_true hd) (okB_spec hF), ?_⟩
 rw [slot_of, mem_of]
 exact h
theorem HandL.yngB {Hs : List (Nat × Nat)} (n : Nat) {c : Nat} {own : Bool} {p : PV} {ps ps' : List PV} {R : List Nat} (hm : look M c = some (.yreg false own)) (hn : nameOf Hs n = some c) (h : HandL Hs (St.of S M).mem ps ps' R) : HandL Hs (St.of S M).mem (.yng c p :: ps) (.yng n p :: ps') (c :: R) :=
 .yng n c own p ps ps' R hn (look_mem hm) h
def dem1 (c : Nat) : PV → PV
 | .yng n p => bif Nat.beq n c then .ysk n p else .yng n p
 | p => p
def dem (c : Nat) : PV → PV
 | .agg cs => .agg (cs.map (dem1 c))
 | p => dem1 c p
def demS (c : Nat) (S : List (Nat × PV)) : List (Nat × PV) := S.map fun q => (q.1, dem c q.2)
def noY1 (c : Nat) : PV → Bool
 | .yng n _ => !Nat.beq n c
 | .agg _ => false
 | .tuple _ => false
 | _ => true
def noY (c : Nat) : PV → Bool
 | .agg cs => cs.all (noY1 c)
 | .tuple cs => cs.all (noY1 c)
 | p => noY1 c p
theorem Rep.skel {R : Nat → Prop} {w : World} {pub : Nat → Nat → Prop} (hp : ∀ b o, pub b o → R b ∧ w.frozen? ⟨b, o, none⟩ = false) {p : PV} {v : Value} (h : Rep pub w p v) : SRep R w p v := by
 induction h with
 | lit v h => exact .lit v v h (.inl rfl)
 | err t v => exact .err _ _
 | noErr => exact .err _ _
 | nils => exact .nils
 | slice0 a cap => exact .slice0 a cap
 | slice b o cap sz l V hsz hcap hmx hd hc ih => exact .slice b o cap sz l V hsz hcap hmx (fun i c hi => ⟨hp _ _ (hd i c hi).1, (hd i c hi).2⟩) ih
 | agg cs arr hs hd hc ih => exact .agg cs arr hs hd ih
 | tuple cs arr hs hc ih => exact .tuple cs _
 | fn f cs arr hs hc ih => exact .fn f cs _
 | cptr b o off cs V hd hc ih => exact .cptr b o off cs V (fun j c hj => ⟨hp _ _ (hd j c hj).1, (hd j c hj).2⟩) ih
theorem RV.other {pub : Nat → Nat → Prop} {w : World} {V : Nat → Value} {m m' : Nat → PV} {c : Nat} {own : Bool} (hm : m c = .yreg false own) (hd : ∀ n, n ≠ c → m' n = m n ∨ ∃ x cs cs', m n = .blk x cs ∧ m' n = .blk x cs') {p : PV} {v : Value} (h : RV pub w V m p v) (hp : noY1 c p = true) : RV pub w V m' p v := by
 have ne : ∀ n, (∀ x cs, m n ≠ .blk x cs) → m n ≠ .yreg false own → m' n = m n := fun n hb hn => by
  have hnc : n ≠ c := fun e => hn (by rw [e]; exact hm)
  rcases hd n hnc with h | ⟨x, cs, cs', h, _⟩
  ·exact h
  ·exact absurd h (hb x cs)
 cases h with
 | undef => exact .undef _
 | pure h => exact .pure h
 | ref h =>
  cases h with
  | own n k _ x e sz l h1 h2 h3 => exact .ref (.own n k _ x e sz l ((ne n (fun x cs e => by rw [h1] at e; cases e) (by rw [h1]; intro e; cases e)).trans h1) h2 h3)
  | lptr n off x cs b h1 h2 =>
   have hnc : n ≠ c := fun e => by rw [e, hm] at h1; cases h1
   rcases hd n hnc with h | ⟨x', cs', cs2, h, h'⟩
   ·exact .ref (.lptr n off x cs b (h.trans h1) h2)
   ·exact .ref (.lptr n off x' cs2 b h' h2)
  | eptr n k i off _ x e sz l h1 h2 h3 => exact .ref (.eptr n k i off _ x e sz l ((ne n (fun x cs e => by rw [h1] at e; cases e) (by rw [h1]; intro e; cases e)).trans h1) h2 h3)
  | osl n k i j _ x e sz l h1 h2 h4 h3 => exact .ref (.osl n k i j _ x e sz l ((ne n (fun x cs e => by rw [h1] at e; cases e) (by rw [h1]; intro e; cases e)).trans h1) h2 h4 h3)
 | agg => cases hp
 | tuple => cases hp
 | yng n p _ own' h1 h2 =>
  have hnc : n ≠ c := fun e => by subst e; simp [noY1] at hp
  rcases hd n hnc with h | ⟨x', cs', cs2, h, h'⟩
  ·exact .yng n p _ own' (h.trans h1) h2
  ·rw [h1] at h; cases h
 | ysk n p _ own' h1 h2 =>
  have hnc : n ≠ c := fun e => by rw [e, hm] at h1; cases h1
  rcases hd n hnc with h | ⟨x', cs', cs2, h, h'⟩
  ·exact .ysk n p _ own' (h.trans h1) h2
  ·rw [h1] at h; cases h
def demB (c : Nat) : PV → PV
 | .blk x cs => .blk x (cs.map (dem1 c))
 | p => p
def demM (c : Nat) (M : List (Nat × PV)) : List (Nat × PV) := M.map fun q => (q.1, demB c q.2)
end
end Go.Px
namespace Go.Px
set_option linter.unusedSimpArgs false
set_option linter.unusedVariables false
open Go.RowKit
section
variable {P : Program} {N : Nat} {all : Array Oper} {F : Nat → Foot} {i : Nat} {rest : List Oper} {S M : List (Nat × PV)} {K : St → Prop} {d : Nat} {ty : TypeId} {pos : String} {after : Array Edge} {Q : St → Prop} {k : List Item}
theorem X.shr {t t' : TypeId} {x y : Operand} {kk yk : IntKind} {a b : Int} (hx : evO S x = some (.lit (.int kk a))) (hy : evO S y = some (.lit (.int yk b))) (h0 : 0 ≤ b) (hd : Nat.ble (d + 1) N = true) (h : SLx P N all F (i + 1) rest (St.of ((d, .lit (.int kk (a.fdiv (2 ^ min b.toNat kk.bits)))) :: S) M) K) :
  SLx P N all F i (⟨some d, .binOp .shr t x y t', ty, pos, after, none⟩ :: rest) (St.of S M) K :=
 X.ofOp (U := []) (R := []) (.shrI t t' x y kk yk a b (evO_spec hx) (evO_spec hy) h0) hd (okB_nil _) h
theorem X.shl {t t' : TypeId} {x y : Operand} {kk yk : IntKind} {a b : Int} (hx : evO S x = some (.lit (.int kk a))) (hy : evO S y = some (.lit (.int yk b))) (h0 : 0 ≤ b) (hd : Nat.ble (d + 1) N = true) (h : SLx P N all F (i + 1) rest (St.of ((d, .lit (.int kk (kk.wrap (a * 2 ^ min b.toNat kk.bits)))) :: S) M) K) :
  SLx P N all F i (⟨some d, .binOp .shl t x y t', ty, pos, after, none⟩ :: rest) (St.of S M) K :=
 X.ofOp (U := []) (R := []) (.shlI t t' x y kk yk a b (evO_spec hx) (evO_spec hy) h0) hd (okB_nil _) h
theorem X.bits {op : BinOp} {t t' : TypeId} {x y : Operand} {kk : IntKind} {a b r : Int} (hx : evO S x = some (.lit (.int kk a))) (hy : evO S y = some (.lit (.int kk b))) (hr : bitsPV op kk a b = some r) (hd : Nat.ble (d + 1) N = true) (h : SLx P N all F (i + 1) rest (St.of ((d, .lit (.int kk r)) :: S) M) K) :
  SLx P N all F i (⟨some d, .binOp op t x y t', ty, pos, after, none⟩ :: rest) (St.of S M) K :=
 X.ofOp (U := []) (R := []) (.bitI op t t' x y kk a b r (evO_spec hx) (evO_spec hy) hr) hd (okB_nil _) h
theorem X.convBS {t t' e : TypeId} {x : Operand} {p : PV} {l : List PV} {R : List Nat} (xs : List Int) (hs : P.underlying t = some (.slice e)) (he : P.underlying e = some (.int .u8)) (hT : P.underlying t' = some .string) (hx : evO S x = some p) (hl : Lst (St.of S M).mem p l R) (hxs : l = xs.map fun n => .lit (.int .u8 n)) (hd : Nat.ble (d + 1) N = true) (hF : (F i).okB R [] = true) (h : SLx P N all F (i + 1) rest (St.of ((d, .lit (.string (strB xs))) :: S) M) K) :
  SLx P N all F i (⟨some d, .convert t t' x, ty, pos, after, none⟩ :: rest) (St.of S M) K := by
 subst hxs
 exact X.ofOp (U := []) (R := R) (.convBS t t' e x p xs R hs he hT (evO_spec hx) hl) hd hF h
end
end Go.Px
namespace Go.Px
set_option linter.unusedSimpArgs false
set_option linter.unusedVariables false
open Go.RowKit
section
variable {P : Program} {N : Nat} {Q : St → Prop} {k : List Item} {S M : List (Nat × PV)}
theorem no63 {G : List Nat} (h : (G.all fun n => !Nat.beq (n % 64) 63) = true) : ∀ n ∈ G, n % 64 ≠ 63 := fun n hn e => by
 have := List.all_eq_true.1 h n hn
 rw [e] at this; cases this
theorem R.finMC {fn : Func} {t n off ty sz : Nat} {y : Bool} {cs cs1 cs2 : List PV} {G : List Nat} {C : List (Nat × Nat)} {r : PV} {M1 : List (Nat × PV)} (hres : fn.results = #[.cell t ty]) (ht : shp P ty = some (true, sz)) (hv : look S t = some (.lptr n off)) (hm : look M n = some (.blk y cs)) (hl : loadK true sz off cs = some (.agg cs1))
  (hh : handF M cs1 = some (cs2, G, C)) (hC : AllEq C) (hG : (G.all fun n => !Nat.beq (n % 64) 63) = true) (hB : BackL M M1) (hr : .agg cs2 = r) : Run P N (FinM P fn r M1) (.code .ret :: k) (St.of S M) := by
 refine Run.ret ⟨⟨[.agg cs1], [.agg cs2], G ++ [], by rw [hres]; exact .cell t ty true sz n off y cs _ [] [] ht (.inl rfl) (look_slot hv) (look_mem hm) (loadK_spec hl) .nil, .agg cs1 cs2 [] [] G [] (handF_spec _ _ _ _ hh hC) (by simp) .nil, hr, fun n hn => no63 hG n (by simpa using hn)⟩, hB.spec⟩
theorem YR.max {sk own : Bool} {w : World} {u : Value} {l : List PV} {v : Value} (h : YR sk own w u (.slice l) v) : l.length ≤ 9223372036854775807 := by
 cases sk with
 | true =>
  have h' : SRep (regB u) w (.slice l) v := h
  generalize hp : PV.slice l = p at h'
  cases h' with
  | slice0 ad cap => cases hp; simp
  | slice b o cap sz l' W hsz hcap hmx hd hc => cases hp; exact hmx
  | _ => cases hp
 | false =>
  have h' : Rep (regP own w u) w (.slice l) v := h
  generalize hp : PV.slice l = p at h'
  cases h' with
  | slice0 ad cap => cases hp; simp
  | slice b o cap sz l' W hsz hcap hmx hd hc => cases hp; exact hmx
  | _ => cases hp
theorem R.bndY (sk : Bool) (c : Nat) {t : Nat} {l : List PV} (hl : look S t = some (yw sk c (.slice l))) (h : l.length ≤ 9223372036854775807 → Run P N Q k (St.of S M)) : Run P N Q k (St.of S M) := fun w0 pub0 a w hR => by
 obtain ⟨pub, V, c1, c2, hrel⟩ := hR
 have hs := hrel.slots t
 rw [look_slot hl] at hs
 obtain ⟨own, _, hy⟩ := hs.yw_inv
 exact h hy.max w0 pub0 a w ⟨pub, V, c1, c2, hrel⟩
end
end Go.Px
namespace Go.Px
def relM1 (L : List (Nat × Nat)) : PV → PV
 | .blk x cs => .blk x (cs.map (relen1 L))
 | p => p
def relM (L : List (Nat × Nat)) (M : List (Nat × PV)) : List (Nat × PV) := M.map fun q => (q.1, relM1 L q.2)
def pairsM1 (L : List (Nat × Nat)) : PV → List (Nat × Nat)
 | .blk _ cs => cs.flatMap (pairs1 L)
 | _ => []
def pairsM (L : List (Nat × Nat)) (M : List (Nat × PV)) : List (Nat × Nat) := M.flatMap fun q => pairsM1 L q.2
theorem relen1_id {L : List (Nat × Nat)} {p : PV} (h : ∀ q ∈ pairs1 L p, q.1 = q.2) : relen1 L p = p := by
 cases p with
 | own c k =>
  simp only [relen1, pairs1] at h ⊢
  cases hl : lookN L c with
  | none => rfl
  | some j =>
   rw [hl] at h
   have : k = j := h (k, j) (List.mem_singleton.2 rfl)
   rw [this]
 | _ => rfl
theorem relM_id {L : List (Nat × Nat)} : ∀ {M : List (Nat × PV)}, (∀ q ∈ pairsM L M, q.1 = q.2) → relM L M = M
 | [], _ => rfl
 | (n, p) :: M, h => by
  have h1 : ∀ q ∈ pairsM1 L p, q.1 = q.2 := fun q hq => h q (List.mem_append.2 (.inl hq))
  have h2 : ∀ q ∈ pairsM L M, q.1 = q.2 := fun q hq => h q (List.mem_append.2 (.inr hq))
  show (n, relM1 L p) :: relM L M = (n, p) :: M
  rw [relM_id h2]
  cases p with
  | blk x cs =>
   have e : cs.map (relen1 L) = cs := by
    conv => rhs; rw [← List.map_id cs]
    exact List.map_congr_left fun c hc => relen1_id fun q hq => h1 q (List.mem_flatMap.2 ⟨c, hc, hq⟩)
   show (n, PV.blk x (cs.map (relen1 L))) :: M = _
   rw [e]
  | _ => rfl
section
variable {P : Program} {N : Nat} {all : Array Oper} {F : Nat → Foot} {i : Nat} {rest : List Oper} {S M : List (Nat × PV)} {K : St → Prop}
theorem X.relM (L : List (Nat × Nat)) {M' : List (Nat × PV)} (hE : AllEq (pairsM L M)) (hM : relM L M = M') (h : SLx P N all F i rest (St.of S M') K) : SLx P N all F i rest (St.of S M) K := by
 rw [relM_id hE.mem'] at hM
 subst hM
 exact h
end
end Go.Px
namespace Go.Px
set_option linter.unusedVariables false
section
variable {P : Program} {N : Nat} {all : Array Oper} {F : Nat → Foot} {i : Nat} {rest : List Oper} {S M : List (Nat × PV)} {K : St → Prop} {d : Nat} {ty : TypeId} {pos : String} {after : Array Edge} {Q : St → Prop} {k : List Item} {s : St}
theorem X.mv {x : Operand} {v : PV} (h : SLx P N all F (i + 1) rest (St.of ((d, v) :: S) M) K) (hv : evO S x = some v := by rfl) (hd : Nat.ble (d + 1) N = true := by rfl) :
  SLx P N all F i (⟨some d, .move x, ty, pos, after, none⟩ :: rest) (St.of S M) K := X.move hv hd h
theorem X.as {x : Operand} {v : PV} (h : SLx P N all F (i + 1) rest (St.of ((d, v) :: S) M) K) (hv : evO S x = some v := by rfl) (hd : Nat.ble (d + 1) N = true := by rfl) :
  SLx P N all F i (⟨some d, .assign x, ty, pos, after, none⟩ :: rest) (St.of S M) K := X.assign hv hd h
theorem X.an {x : Operand} {v : PV} (h : K (St.of ((d, v) :: S) M)) (hv : evO S x = some v := by rfl) (hd : Nat.ble (d + 1) N = true := by rfl) :
  SLx P N all F i [⟨some d, .assign x, ty, pos, after, none⟩] (St.of S M) K := X.assign hv hd (X.nil h)
theorem X.mn {x : Operand} {v : PV} (h : K (St.of ((d, v) :: S) M)) (hv : evO S x = some v := by rfl) (hd : Nat.ble (d + 1) N = true := by rfl) :
  SLx P N all F i [⟨some d, .move x, ty, pos, after, none⟩] (St.of S M) K := X.move hv hd (X.nil h)
theorem X.gy {dst : Option Nat} {op : Op} {g t : Nat} {want b : Bool} (h : SLx P N all F i (⟨dst, op, ty, pos, after, none⟩ :: rest) (St.of S M) K) (hg : gslot all g = some t := by rfl) (hs : look S t = some (.lit (.bool b)) := by rfl) (hb : b = want := by first | rfl | assumption) :
  SLx P N all F i (⟨dst, op, ty, pos, after, some (g, want)⟩ :: rest) (St.of S M) K := X.gyes hg hs hb h
theorem X.gn {op : Op} {g t : Nat} {want b : Bool} (h : SLx P N all F (i + 1) rest (St.of ((d, .tuple []) :: S) M) K) (hg : gslot all g = some t := by rfl) (hs : look S t = some (.lit (.bool b)) := by rfl) (hb : b = !want := by first | rfl | assumption) (hd : Nat.ble (d + 1) N = true := by rfl) :
  SLx P N all F i (⟨some d, op, ty, pos, after, some (g, want)⟩ :: rest) (St.of S M) K := X.gno hg hs hb hd h
theorem X.ld {t : TypeId} {x : Operand} {n off : Nat} {y : Bool} {cs : List PV} {v : PV} {g : Bool} {sz : Nat} (ht : shp P t = some (g, sz)) (h : SLx P N all F (i + 1) rest (St.of ((d, v) :: S) M) K) (hg : (g || Nat.beq sz 1) = true := by rfl) (hx : evO S x = some (.lptr n off) := by rfl) (hm : look M n = some (.blk y cs) := by rfl) (hv : loadK g sz off cs = some v := by rfl) (hd : Nat.ble (d + 1) N = true := by rfl) (hF : (F i).okB [n] [] = true := by rfl) :
  SLx P N all F i (⟨some d, .load t x, ty, pos, after, none⟩ :: rest) (St.of S M) K := X.load_l ht hg hx hm hv hd hF h
theorem X.bi {op : BinOp} {t t' : TypeId} {x y : Operand} {p q v : PV} (h : SLx P N all F (i + 1) rest (St.of ((d, v) :: S) M) K) (hx : evO S x = some p := by rfl) (hy : evO S y = some q := by rfl) (hk : sameKind p q = true := by rfl) (hv : binPV op p q = some v := by rfl) (hs : op ≠ .add := by (intro h; cases h)) (hd : Nat.ble (d + 1) N = true := by rfl) :
  SLx P N all F i (⟨some d, .binOp op t x y t', ty, pos, after, none⟩ :: rest) (St.of S M) K := X.bin hx hy hk hv hs hd h
theorem Run.sr {id : Nat} {l : List Oper} {y : Code} (h : SLx P N l.toArray (fun _ => none) 0 l s (Run P N Q (.code y :: k))) : Run P N Q (.code (.seq (.region id l.toArray false) y) :: k) s := Run.seq (Run.reg h)
end
end Go.Px
namespace Go.Px
set_option linter.unusedVariables false
theorem PC.split {P : Program} {f : FuncId} {l : List PV} {r : PV} (h0 : l = [] → ∀ ad cap, PC P f [.lit (.slice ad 0 cap)] r) (h1 : l ≠ [] → PC P f [.slice l] r) : PC P f [.slice l] r := by
 by_cases hl : l = []
 ·refine ⟨(h0 hl none 0).1, fun w pub vals hg hp hlen hv => ?_⟩
  subst hl
  match vals, hlen, hv with
  | [v], _, hv =>
   have hr := hv 0 _ v rfl rfl
   have : ∃ ad cap, v = .slice ad 0 cap := by
    cases hr with
    | slice0 a cap => exact ⟨_, _, rfl⟩
    | slice b o cap sz l V hsz hcap hmx hd hc => exact ⟨_, _, rfl⟩
   obtain ⟨ad, cap, rfl⟩ := this
   exact (h0 rfl ad cap).2 w pub [.slice ad 0 cap] hg hp rfl (fun i p v h2 h3 => by
    cases i with
    | zero => simp at h2 h3; subst h2; subst h3; exact .lit _ rfl
    | succ i => simp at h2)
 ·exact h1 hl
section
variable {P : Program} {N : Nat} {Q : St → Prop} {k : List Item} {S M : List (Nat × PV)}
theorem R.slice0 {t : Nat} {ad : Option Addr} {cap : Nat} {l : List PV} (h0 : l = []) (hl : look S t = some (.lit (.slice ad 0 cap))) (h : Run P N Q k (St.of ((t, .slice l) :: S) M)) : Run P N Q k (St.of S M) := by
 subst h0
 exact Run.weak (Weak.slot hl fun _ _ _ _ _ _ hrel v hv => by rw [hv.lit_inv.1]; exact .pure (.slice0 ad cap)) h
end
end Go.Px
namespace Go.Px
set_option linter.unusedSimpArgs false
set_option linter.unusedVariables false
open Go.RowKit
def CCut (P : Program) (f : FuncId) (e sz : Nat) (l l2 : List PV) : Prop :=
 okFn P f = true ∧ ∀ (pub : Nat → Nat → Prop) (w : World) (v : Value) (B : Nat → Prop), (∀ b o, pub b o → b < w.heap.size) → MemOk pub w (fun _ => Go.undef) (fun _ => .undef) B v (.obj true e sz l) →
  Calls P f #[v] w fun en w' => ∃ v' lz, en = .returned v' ∧ lz.length = l.length ∧ w.heap.size ≤ w'.heap.size ∧ w'.os = w.os ∧ w'.tape = w.tape ∧ w'.output = w.output ∧ (∀ k, k < w.heap.size → blockOf v ≠ some k → w'.heap[k]? = w.heap[k]?) ∧
   MemOk pub w' (fun _ => Go.undef) (fun _ => .undef) B v (.obj true e sz lz) ∧ MemOk pub w' (fun _ => Go.undef) (fun _ => .undef) B v' (.obj true e sz l2) ∧ ∀ g, blockOf v' = some g → blockOf v = some g
section
variable {P : Program} {N : Nat} {w0 : Base P} {pub : Nat → Nat → Prop} {V : Nat → Value} {s : St} {a : Act} {w w' : World}
theorem Rel0.turnObj (h : Rel0 N w0 pub V s a w) {n e sz : Nat} {l lz : List PV} (hm : s.mem n = .obj true e sz l) (hlen : lz.length = l.length) (hsize : w.heap.size ≤ w'.heap.size) (hos : w'.os = w.os) (htape : w'.tape = w.tape) (hout : w'.output = w.output)
  (hblocks : ∀ k, k < w.heap.size → blockOf (V n) ≠ some k → w'.heap[k]? = w.heap[k]?) (hok : MemOk pub w' (fun _ => Go.undef) (fun _ => .undef) w0.O (V n) (.obj true e sz lz)) :
  Rel0 N w0 pub V { s with mem := upd s.mem n (.obj true e sz lz) } a w' := by
 have hmn := h.mem n
 rw [hm] at hmn
 have hex : ∀ g o, blockOf (V n) = some g → ¬ pub g o := fun g o hg => hmn.excl (.inl ⟨_, _, _, rfl⟩) (.inl hg)
 have hheap : ∀ b o, pub b o → w'.heap[b]? = w.heap[b]? := fun b o hb => hblocks b (h.pubLt b o hb) (fun e => hex b o e hb)
 have := h.touch n (by rw [hm]; intro e; cases e) (V n) (fun _ => rfl) (.obj true e sz lz) (fun e => by cases e) (by intro s' o e; rw [hm] at e; cases e) (fun s' o e => by cases e) hsize hos htape hout hblocks
  (pub' := pub) (fun _ _ h => h) (fun _ _ h => .inl h) (fun b hb => by
   have := (hmn.block_lt (fun e => by cases e) (.inl hb)); omega) (fun b o hb => cellOB' (hheap b o hb)) (fun b o hb => World.frozen?_of_block (a := ⟨b, o, none⟩) (hheap b o hb)) (.inl rfl)
  (fun q u hq => by
   rw [updV_self]
   cases hq with
   | own k j _ x e' sz' l' hm' hk hh =>
    by_cases hkn : k = n
    ·subst hkn
     rw [hm] at hm'; cases hm'
     exact .own k j u true e sz lz (upd_same ..) (by omega) (fun ej => hh (by omega))
    ·exact .own k j u x e' sz' l' ((upd_ne _ _ hkn).trans hm') hk hh
   | lptr k off x cs b hm' hv =>
    have hkn : k ≠ n := fun e => by rw [e, hm] at hm'; cases hm'
    exact .lptr k off x cs b ((upd_ne _ _ hkn).trans hm') hv
   | eptr k j i off _ x e' sz' l' hm' hk hh =>
    by_cases hkn : k = n
    ·subst hkn
     rw [hm] at hm'; cases hm'
     exact .eptr k j i off u true e sz lz (upd_same ..) (by omega) (fun ej => by rw [hlen]; exact hh (by omega))
    ·exact .eptr k j i off u x e' sz' l' ((upd_ne _ _ hkn).trans hm') hk hh
   | osl k j i i2 _ x e' sz' l' hm' hk hij hh =>
    by_cases hkn : k = n
    ·subst hkn
     rw [hm] at hm'; cases hm'
     exact .osl k j i i2 u true e sz lz (upd_same ..) (by omega) hij (fun ej => by rw [hlen]; exact hh (by omega))
    ·exact .osl k j i i2 u x e' sz' l' ((upd_ne _ _ hkn).trans hm') hk hij hh)
  (fun _ => hok.move (.inl ⟨_, _, _, _, rfl⟩))
 rwa [updV_self] at this
theorem Rel0.sub {S M S' M' : List (Nat × PV)} (h : Rel0 N w0 pub V (St.of S M) a w) (hS : AllLook S S') (hM : AllLook M M') (hr : (S'.all fun q => refsB 3 (M'.map (·.1)) q.2) = true) (hrm : (M'.all fun q => refsM (M'.map (·.1)) q.2) = true) : Rel0 N w0 pub V (St.of S' M') a w := by
 have hG : ∀ n ∈ M'.map (·.1), (St.of S' M').mem n = (St.of S M).mem n := fun n hn => by
  obtain ⟨v, hv⟩ := look_of_key hn
  rw [look_mem hv, look_mem (hM.at hv)]
 refine ⟨h.defers, h.size, h.below, h.fixed, h.pubLt, fun t => ?_, fun n => ?_, fun n m g h1 h2 => ?_, h.soft, fun n own h1 h2 => ?_⟩
 ·cases ht : look S' t with
  | none => simp only [St.of, ht]; exact .undef _
  | some v =>
   have h1 := h.slots t
   rw [look_slot (hS.at ht)] at h1
   rw [look_slot ht]
   exact h1.forget hG 3 (List.all_eq_true.1 hr _ (look_mem_key ht))
 ·cases hn : look M' n with
  | none => rw [look_none hn]; exact .undef
  | some p =>
   have h1 := h.mem n
   rw [look_mem (hM.at hn)] at h1
   rw [look_mem hn]
   have hrn := List.all_eq_true.1 hrm _ (look_mem_key hn)
   cases h1 with
   | undef => exact .undef
   | yreg s' own lo hi hv hh hp hB => exact .yreg s' own lo hi hv hh hp hB
   | blk x cs g arr T hv hB hg hs hp hq hc hr' =>
    simp only [refsM, List.all_eq_true] at hrn
    exact .blk x cs g arr T hv hB hg hs hp hq (fun j c hj => ⟨(hc j c hj).1, (hc j c hj).2.forget hG 2 (hrn c (List.mem_of_getElem? hj))⟩) hr'
   | obj x e sz l xs hsz hmx hl how hp hq hc => exact .obj x e sz l xs hsz hmx hl how hp hq hc
 ·have e : ∀ k, (St.of S' M').mem k ≠ .undef → (St.of S M).mem k ≠ .undef := fun k hk => by
   cases hk' : look M' k with
   | none => exact absurd (look_none hk') hk
   | some p => rw [look_mem (hM.at hk')]; rw [look_mem hk'] at hk; exact hk
  exact h.apart n m g (e n h1) (e m h2)
 ·have : (St.of S M).mem n = .yreg true own := by
   cases hk' : look M' n with
   | none => rw [look_none hk'] at h2; cases h2
   | some p => rw [look_mem hk'] at h2; rw [look_mem (hM.at hk')]; exact h2
  exact h.skel n own h1 this
end
section
variable {P : Program} {N : Nat} {Q : St → Prop} {k : List Item} {S M S' M' : List (Nat × PV)}
theorem Run.callCut {all : Array Oper} {rest : List Oper} {d : Nat} {fo x : Operand} {ats : Array TypeId} {ty : TypeId} {pos : String} {after : Array Edge} {f : FuncId} {n j e sz : Nat} {l l2 : List PV} (hc : CCut P f e sz l l2) (hf : evO S fo = some (.fn f [])) (hx : evO S x = some (.own n j)) (hm : look M n = some (.obj true e sz l)) (hj : j = l.length)
  (hS : AllLook S S') (hM : AllLook M M') (hn : memB n (M'.map (·.1)) = false) (hd0 : look M' (64 * d) = none) (hr : (S'.all fun q => refsB 3 (M'.map (·.1)) q.2) = true) (hrm : (M'.all fun q => refsM (M'.map (·.1)) q.2) = true) (hd : Nat.ble (d + 1) N = true)
  (h : Run P N Q (.ops all rest :: k) (St.of ((d, .own (64 * d) l2.length) :: S') ((64 * d, .obj true e sz l2) :: M'))) :
  Run P N Q (.ops all (⟨some d, .call { callee := .value fo, args := #[x], argTypes := ats }, ty, pos, after, none⟩ :: rest) :: k) (St.of S M) := fun w0 pub0 a w hR => by
 obtain ⟨pub, V, c1, c2, hrel⟩ := hR
 obtain ⟨hok, hcall⟩ := hc
 obtain ⟨arr, hfv, hsz, _⟩ := ((evO_spec (M := M) hf) ▸ hrel.ev fo).fn_inv
 have hxe := hrel.ev x
 rw [evO_spec (M := M) hx] at hxe
 obtain ⟨x1, e1, sz1, l1, hm1, _, hv⟩ := hxe.own_inv
 rw [look_mem hm] at hm1; cases hm1
 have hv := hv hj
 have hmn := hrel.mem n
 rw [look_mem hm] at hmn
 have harr : arr = #[] := by cases arr; simp_all
 subst harr
 refine wpList_plain rfl fun K hK => ?_
 unfold Oper.wp
 have hrun : (execOp a.eval ⟨some d, .call { callee := .value fo, args := #[x], argTypes := ats }, ty, pos, after, none⟩).run P w = .ok (.enter f #[V n]) w := by
  simp [execOp, resolve, hfv, Deferred.ofValue, invoke, okFn_run hok, hv]
 rw [hrun, Oper.upon_enter]
 refine (hcall pub w (V n) w0.O hrel.pubLt (hmn.move (.inl ⟨_, _, _, _, rfl⟩))).mono ?_
 rintro en w' ⟨v', lz, rfl, q1, q2, q3, q4, q5, q6, q7, q8, q9⟩
 have h1 := hrel.turnObj (look_mem hm) q1 q2 q3 q4 q5 q6 q7
 have hMz : AllLook ((n, .obj true e sz lz) :: M) M' := by
  have key : ∀ (L : List (Nat × PV)) (seen : List Nat), AllLookD M seen L → memB n (L.map (·.1)) = false → AllLookD ((n, .obj true e sz lz) :: M) seen L := by
   intro L
   induction L with
   | nil => intro seen _ _; trivial
   | cons q L ih =>
    obtain ⟨t, u⟩ := q
    intro seen hA hmb
    have hmb0 : (bif Nat.beq t n then true else memB n (L.map (·.1))) = false := hmb
    have hne : n ≠ t := fun e => by
     subst e
     rw [Nat.beq_refl] at hmb0
     cases hmb0
    have hnt : Nat.beq n t = false := by
     cases hb : Nat.beq n t with
     | false => rfl
     | true => exact absurd (Nat.eq_of_beq_eq_true hb) hne
    have hmb' : memB n (L.map (·.1)) = false := by
     cases hb : Nat.beq t n with
     | false => rw [hb] at hmb0; exact hmb0
     | true => rw [hb] at hmb0; cases hmb0
    unfold AllLookD at hA ⊢
    cases hs : memB t seen with
    | true => rw [hs] at hA; exact ih seen hA hmb'
    | false =>
     rw [hs] at hA
     refine ⟨?_, ih _ hA.2 hmb'⟩
     unfold look
     rw [hnt]
     exact hA.1
  exact key M' [] hM hn
 have e2 : (⟨(St.of S M).slot, upd (St.of S M).mem n (.obj true e sz lz)⟩ : St) = St.of S ((n, .obj true e sz lz) :: M) := congrArg (fun m => St.mk (St.of S M).slot m) (look_upd M n _)
 rw [e2] at h1
 have h2 := h1.sub hS hMz hr hrm
 have h0 : (St.of S' M').mem (64 * d) = .undef := look_none hd0
 have hne : ∀ k, (St.of S' M').mem k ≠ .undef → k ≠ n := fun k hk ek => by
  subst ek
  cases hk' : look M' k with
  | none => exact hk (look_none hk')
  | some p =>
   have : memB k (M'.map (·.1)) = true := by
    have hmem := look_mem_key hk'
    clear hk hk' hS hM hr hrm h h2 hMz hn hd0 h0
    induction M' with
    | nil => cases hmem
    | cons q L ih =>
     show (bif Nat.beq q.1 k then true else memB k (L.map (·.1))) = true
     rcases List.mem_cons.1 hmem with e | e
     ·rw [← e]
      show (bif Nat.beq k k then true else _) = true
      rw [Nat.beq_refl]; rfl
     ·rw [ih e]; cases Nat.beq q.1 k <;> rfl
   rw [hn] at this; cases this
 have hln : look ((n, PV.obj true e sz lz) :: M) n = some (.obj true e sz lz) := by
  show (bif Nat.beq n n then _ else _) = _
  rw [Nat.beq_refl]; rfl
 have hnu : (St.of S ((n, .obj true e sz lz) :: M)).mem n ≠ .undef := by
  rw [look_mem hln]; intro e; cases e
 have h3 := h2.adopt (64 * d) (by omega) h0 (B := w0.O) (fun _ h => h) q8 (fun k g hk hg hb => by
  have hk1 : (St.of S ((n, .obj true e sz lz) :: M)).mem k ≠ .undef := by
   cases hk' : look M' k with
   | none => exact absurd (look_none hk') hk
   | some p =>
    rw [look_mem (hMz.at hk')]
    rw [look_mem hk'] at hk; exact hk
  exact hne k hk (h1.apart k n g hk1 hnu hg (.inl (q9 g hb))))
 have e3 : (⟨(St.of S' M').slot, upd (St.of S' M').mem (64 * d) (.obj true e sz l2)⟩ : St) = St.of S' ((64 * d, .obj true e sz l2) :: M') := congrArg (fun m => St.mk (St.of S' M').slot m) (look_upd M' (64 * d) _)
 have hl0 : look ((64 * d, PV.obj true e sz l2) :: M') (64 * d) = some (.obj true e sz l2) := by
  show (bif Nat.beq (64 * d) (64 * d) then _ else _) = _
  rw [Nat.beq_refl]; rfl
 have h4 := h3.1
 rw [e3] at h4
 have h5 := h4.put d (Nat.le_of_ble_eq_true hd) (p := .own (64 * d) l2.length) (v := v') (.ref (.own (64 * d) l2.length v' true e sz l2 (look_mem hl0) (Nat.le_refl _) (fun _ => (updV_same ..).symm)))
 have e4 : (⟨upd (St.of S' ((64 * d, .obj true e sz l2) :: M')).slot d (.own (64 * d) l2.length), (St.of S' ((64 * d, .obj true e sz l2) :: M')).mem⟩ : St) = St.of ((d, .own (64 * d) l2.length) :: S') ((64 * d, .obj true e sz l2) :: M') := congrArg (fun m => St.mk m (St.of S' ((64 * d, .obj true e sz l2) :: M')).mem) (look_upd S' d _)
 rw [e4] at h5
 exact hK _ _ (h w0 pub0 _ _ ⟨pub, _, c1, c2, h5⟩)
end
end Go.Px
namespace Go.Px
set_option linter.unusedSimpArgs false
set_option linter.unusedVariables false
open Go.RowKit
theorem flat_int : ∀ zs : List Int, flat (zs.map int) = zs.map int
 | [] => rfl
 | z :: zs => by
  rw [List.map_cons, flat_cons, flat_int zs]; rfl
section
variable {pub : Nat → Nat → Prop} {w w' : World} {V : Nat → Value} {m : Nat → PV} {B : Nat → Prop} {v : Value} {e : Nat}
theorem rowI {zs : List Int} (he : e < 1099511627776) (h : MemOk pub w V m B v (.obj true e 1 (zs.map int))) : (v = .slice none 0 0 ∧ zs = []) ∨ ∃ g cap cur, v = .slice (some ⟨g, 0, none⟩) zs.length cap ∧ B g ∧ w.heap[g]? = some (.cells cur e (0, 0)) ∧ zs.length ≤ cap ∧ cap ≤ maxLen ∧ cur.size = cap ∧ (∀ j, j < zs.length → cur[j]? = some (.int .i64 zs[j]!)) ∧ ∀ o, ¬ pub g o := by
 cases h with
 | obj _ _ _ _ xs hsz hmx hl how hp hq hc =>
  obtain ⟨how0, hB⟩ := how
  obtain ⟨hlen, how2⟩ := how0.plain he
  rcases how2 with ⟨rfl, h0⟩ | ⟨g, cap, cur, rfl, _, hh, hnc, hcm, hcs, htk⟩
  ·refine .inl ⟨rfl, ?_⟩
   cases zs with
   | nil => rfl
   | cons z zs => simp at h0
  ·rw [List.length_map] at hlen hnc htk
   rw [List.length_map]
   refine .inr ⟨g, cap, cur, rfl, hB g rfl, hh, hnc, hcm, by omega, fun j hj => ?_, fun o ho => by have := (hp g o rfl ho).1; cases this⟩
   have hz : (flat (zs.map int))[j]? = some (int zs[j]!) := by
    rw [flat_int, List.getElem?_map, List.getElem?_eq_getElem hj]
    simp [getElem!_pos, hj]
   have h2 := (hc j _ hz).2
   have h3 : xs.getD j Go.undef = .int .i64 zs[j]! := by
    generalize xs.getD j Go.undef = u at h2
    cases h2 with
    | lit _ _ => rfl
   have hjx : j < xs.length := by rw [hlen]; omega
   have h4 : xs[j]? = some (.int .i64 zs[j]!) := by
    rw [List.getElem?_eq_getElem hjx]
    rw [List.getD_eq_getElem?_getD, List.getElem?_eq_getElem hjx] at h3
    simpa using h3
   rw [← htk, List.getElem?_take] at h4
   rw [if_pos (by omega)] at h4
   simpa using h4
theorem rowI_mk {g cap : Nat} {cur : Array Value} {zs : List Int} (he : e < 1099511627776) (hB : B g) (hh : w.heap[g]? = some (.cells cur e (0, 0))) (hn : zs.length ≤ cap) (hc : cap ≤ maxLen) (hs : cur.size = cap) (hv : ∀ j, j < zs.length → cur[j]? = some (.int .i64 zs[j]!)) (hp : ∀ o, ¬ pub g o) :
  MemOk pub w V m B (.slice (some ⟨g, 0, none⟩) zs.length cap) (.obj true e 1 (zs.map int)) := by
 have hm : maxLen = 9223372036854775807 := rfl
 refine .obj true e 1 _ (zs.map (Value.int .i64)) (by decide) (by rw [List.length_map]; omega) (cells_map (f := int) (fun _ => rfl)) ⟨.of (base := 0) ⟨by simp, .inr ⟨g, cap, cur, by rw [List.length_map], Nat.zero_le _, hh, by rw [List.length_map]; exact hn, hc, by omega, ?_⟩⟩ he, fun k hk => ?_⟩ (fun k o hk ho => ?_) (fun h => by cases h) (fun i c hi => ?_)
 ·apply List.ext_getElem?
  intro j
  rw [List.length_map, Nat.mul_one, List.getElem?_take]
  by_cases hj : j < zs.length
  ·rw [if_pos hj]
   have := hv j hj
   rw [Array.getElem?_toList, this, List.getElem?_map, List.getElem?_eq_getElem hj]
   simp [getElem!_pos, hj]
  ·rw [if_neg hj, List.getElem?_map, List.getElem?_eq_none (by omega)]; rfl
 ·simp [Value.ownBlock] at hk; subst hk; exact hB
 ·simp [Value.ownBlock] at hk; subst hk; exact absurd ho (hp o)
 ·rw [flat_int, List.getElem?_map] at hi
  obtain ⟨z, hz, rfl⟩ := Option.map_eq_some_iff.1 hi
  have : (zs.map (Value.int .i64)).getD i Go.undef = .int .i64 z := by
   rw [List.getD_eq_getElem?_getD, List.getElem?_map, hz]; rfl
  rw [this]
  exact ⟨rfl, .lit _ rfl⟩
theorem heap_putRow {α : Type} [Inhabited α] (enc : α → Value) {g off : Nat} {d : Array α} {cur : Array Value} {fr : Nat × Nat} (h : w.heap[g]? = some (.cells cur e fr)) : (Go.Sort.putRow enc w g off d).heap[g]? = some (.cells (Go.Sort.putCells enc off d cur) e fr) := by
 unfold Go.Sort.putRow Go.Sort.mapBlock
 simp [Array.getElem?_modify, h, Go.Sort.onCells]
theorem heap_putRow_ne {α : Type} [Inhabited α] (enc : α → Value) {g off k : Nat} {d : Array α} (h : g ≠ k) : (Go.Sort.putRow enc w g off d).heap[k]? = w.heap[k]? := by
 unfold Go.Sort.putRow Go.Sort.mapBlock
 simp [Array.getElem?_modify, h]
theorem cell_putCells {α : Type} [Inhabited α] (enc : α → Value) {d : Array α} {cur : Array Value} {j : Nat} (hj : j < d.size) (hc : j < cur.size) : (Go.Sort.putCells enc 0 d cur)[j]? = some (enc d[j]!) := by
 unfold Go.Sort.putCells
 rw [Array.getElem?_mapIdx, Array.getElem?_eq_getElem hc]
 simp [hj]
end
theorem CCut.compactInt {P : Program} {f : FuncId} {e : Nat} (he : e < 1099511627776) (hok : okFn P f = true)
  (h1 : ∀ (blk off cap : Nat) (zs : List Int) (w : World), Go.Sort.Holds (Value.int .i64) w blk off zs.toArray → zs.length ≤ 9223372036854775807 → zs.length ≤ cap → Calls P f #[.slice (some ⟨blk, off, none⟩) zs.length cap] w fun e w' => e = .returned (.slice (some ⟨blk, off, none⟩) (Go.Lib.compact zs).length cap) ∧ ∃ q, w' = Go.Sort.putRow (Value.int .i64) (Go.Sort.ahead w q) blk off (Go.Lib.compact zs ++ List.replicate (zs.length - (Go.Lib.compact zs).length) 0).toArray)
  (h0 : ∀ (a : Option Addr) (cap : Nat) (w : World), Calls P f #[.slice a 0 cap] w fun e w' => e = .returned (.slice a 0 cap) ∧ w' = w) (zs : List Int) (hle : (Go.Lib.compact zs).length ≤ zs.length) (hnil : zs = [] → Go.Lib.compact zs = []) : CCut P f e 1 (zs.map int) ((Go.Lib.compact zs).map int) := by
 refine ⟨hok, fun pub w v B hlt h => ?_⟩
 rcases rowI he h with ⟨rfl, rfl⟩ | ⟨g, cap, cur, rfl, hB, hh, hn, hc, hs, hv, hp⟩
 ·refine (h0 none 0 w).mono ?_
  rintro en w' ⟨rfl, rfl⟩
  refine ⟨_, _, rfl, rfl, Nat.le_refl _, rfl, rfl, rfl, fun _ _ _ => rfl, h, ?_, fun g hg => by cases hg⟩
  rw [hnil rfl]; exact h
 ·have hm : maxLen = 9223372036854775807 := rfl
  have hol : Go.Sort.Holds (Value.int .i64) w g 0 zs.toArray := fun j hj => by
   have hj' : j < zs.length := by simpa using hj
   have hj2 := hv j hj'
   refine ⟨?_, ?_⟩
   ·simp only [World.cell?, hh]
    simp [hj2, hj']
   ·simp only [World.frozen?, hh]
    simp
  refine (h1 g 0 cap zs w hol (by omega) hn).mono ?_
  rintro en w' ⟨rfl, q, rfl⟩
  have hsz : (Go.Lib.compact zs ++ List.replicate (zs.length - (Go.Lib.compact zs).length) (0 : Int)).length = zs.length := by simp; omega
  have hh2 := heap_putRow (w := Go.Sort.ahead w q) (Value.int .i64) (off := 0) (d := (Go.Lib.compact zs ++ List.replicate (zs.length - (Go.Lib.compact zs).length) (0 : Int)).toArray) (show (Go.Sort.ahead w q).heap[g]? = _ from hh)
  have hcs : (Go.Sort.putCells (Value.int .i64) 0 (Go.Lib.compact zs ++ List.replicate (zs.length - (Go.Lib.compact zs).length) (0 : Int)).toArray cur).size = cap := by simp [Go.Sort.putCells, hs]
  have hcell : ∀ j, j < zs.length → (Go.Sort.putCells (Value.int .i64) 0 (Go.Lib.compact zs ++ List.replicate (zs.length - (Go.Lib.compact zs).length) (0 : Int)).toArray cur)[j]? = some (.int .i64 (Go.Lib.compact zs ++ List.replicate (zs.length - (Go.Lib.compact zs).length) (0 : Int))[j]!) := fun j hj => by
   rw [cell_putCells _ (by rw [List.size_toArray, hsz]; exact hj) (by omega)]
   simp
  refine ⟨_, (Go.Lib.compact zs ++ List.replicate (zs.length - (Go.Lib.compact zs).length) (0 : Int)).map int, rfl, by rw [List.length_map, List.length_map, hsz], by simp, rfl, rfl, rfl, fun k hk hne => ?_, ?_, ?_, fun g' hg' => hg'⟩
  ·rw [heap_putRow_ne _ (fun e => hne (by rw [e]; rfl))]; rfl
  ·have := rowI_mk (pub := pub) (V := fun _ => Go.undef) (m := fun _ => .undef) he hB hh2 (zs := Go.Lib.compact zs ++ List.replicate (zs.length - (Go.Lib.compact zs).length) (0 : Int)) (by omega) hc hcs (by rw [hsz]; exact hcell) hp
   rw [hsz] at this
   exact this
  ·refine rowI_mk he hB hh2 (by omega) hc hcs (fun j hj => ?_) hp
   have e1 : (Go.Lib.compact zs ++ List.replicate (zs.length - (Go.Lib.compact zs).length) (0 : Int))[j]! = (Go.Lib.compact zs)[j]! := by
    have a1 := getElem!_pos (Go.Lib.compact zs ++ List.replicate (zs.length - (Go.Lib.compact zs).length) (0 : Int)) j (by rw [hsz]; omega)
    have a2 := getElem!_pos (Go.Lib.compact zs) j hj
    rw [a1, a2, List.getElem_append_left hj]
   rw [hcell j (by omega), e1]
end Go.Px
namespace Go.Px
set_option linter.unusedVariables false
section
variable {P : Program} {N : Nat} {Q : St → Prop} {k : List Item} {S M : List (Nat × PV)} {all : Array Oper} {rest : List Oper} {d : Nat} {ty : TypeId} {pos : String} {after : Array Edge} {x : Operand} {v : PV}
theorem Run.mvo (h : Run P N Q (.ops all rest :: k) (St.of ((d, v) :: S) M)) (hv : evO S x = some v := by rfl) (hd : Nat.ble (d + 1) N = true := by rfl) : Run P N Q (.ops all (⟨some d, .move x, ty, pos, after, none⟩ :: rest) :: k) (St.of S M) := by
 refine Run.op (p := v) (U := []) (R := []) (.move x v (evO_spec hv)) (Nat.le_of_ble_eq_true hd) ?_
 have e : (St.of S M).next d v [] = St.of ((d, v) :: S) M := by unfold St.next; rw [slot_of]; rfl
 rw [e]; exact h
theorem Run.aso (h : Run P N Q (.ops all rest :: k) (St.of ((d, v) :: S) M)) (hv : evO S x = some v := by rfl) (hd : Nat.ble (d + 1) N = true := by rfl) : Run P N Q (.ops all (⟨some d, .assign x, ty, pos, after, none⟩ :: rest) :: k) (St.of S M) := by
 refine Run.op (p := v) (U := []) (R := []) (.assign x v (evO_spec hv)) (Nat.le_of_ble_eq_true hd) ?_
 have e : (St.of S M).next d v [] = St.of ((d, v) :: S) M := by unfold St.next; rw [slot_of]; rfl
 rw [e]; exact h
end
def compactL (zs : List Int) : Option (List Int) := some (Go.Lib.compact zs)
theorem compactL_le (zs : List Int) : (Go.Lib.compact zs).length ≤ zs.length := by
 unfold Go.Lib.compact Go.Lib.compactUpTo
 rw [List.length_map]
 have := List.length_filter_le (Go.Lib.keeps zs.toArray) (List.range zs.length)
 rw [List.length_range] at this
 exact this
theorem compactL_nil (zs : List Int) (h : zs = []) : Go.Lib.compact zs = [] := by subst h; rfl
end Go.Px
namespace Go.Px
set_option linter.unusedSimpArgs false
set_option linter.unusedVariables false
open Go.RowKit
def sortL (zs : List Int) : Option (List Int) := if zs.length < 4611686018427387904 then some (zs.mergeSort fun x y => decide (x ≤ y)) else none
theorem PCM.sortInt {P : Program} {f : FuncId} {e : Nat} (he : e < 1099511627776) (hok : okFn P f = true)
  (h1 : ∀ (blk off cap : Nat) (zs : List Int) (w : World), Go.Sort.Holds (Value.int .i64) w blk off zs.toArray → blk < w.heap.size → zs.length < 4611686018427387904 → Calls P f #[.slice (some ⟨blk, off, none⟩) zs.length cap] w fun e w' => e = .returned (.tuple #[]) ∧ ∃ n os, w' = Go.Sort.grow (Go.Sort.putRow (Value.int .i64) (Go.Sort.ahead w n) blk off (zs.mergeSort fun x y => decide (x ≤ y)).toArray) os)
  (h0 : ∀ (a : Option Addr) (cap : Nat) (w : World), Calls P f #[.slice a 0 cap] w fun e w' => e = .returned (.tuple #[]) ∧ w' = w) (zs r : List Int) (hr : sortL zs = some r) : PCM P f [.own 63 (zs.map int).length] [(63, .obj true e 1 (zs.map int))] (.tuple []) [(63, .obj true e 1 (r.map int))] := by
 unfold sortL at hr
 split at hr
 ·rename_i hlen
  cases hr
  refine ⟨hok, fun w pub V vals hgp hlt hvl hmem hap hv => ?_⟩
  match vals, hvl, hv with
  | [v], _, hv =>
   have m63 : ∀ p : PV, memOf [(63, p)] 63 = p := fun p => by rw [memOf_cons]; rfl
   have hv0 := hv 0 _ v rfl rfl
   obtain ⟨x1, e1, sz1, l1, hm1, _, hvv⟩ := hv0.own_inv
   rw [m63] at hm1; cases hm1
   have hvw := hvv rfl
   have h63 := hmem 63
   rw [m63] at h63
   have hrr : ∀ w', RR pub w' (fun b => w.heap.size ≤ b) (.tuple []) (.tuple #[]) [] := fun w' => .pure _ _ (.tuple [] #[] rfl (fun j c hj => by simp at hj))
   have hmem1 : ∀ (w' : World) (l : List PV), MemOk pub w' V (memOf [(63, .obj true e 1 (zs.map int))]) (fun _ => True) (V 63) (.obj true e 1 l) → ∀ n, memOf [(63, .obj true e 1 l)] n ≠ .undef → MemOk pub w' V (memOf [(63, .obj true e 1 l)]) (fun _ => True) (V n) (memOf [(63, .obj true e 1 l)] n) := fun w' l hm n hn => by
    rw [memOf_cons] at hn ⊢
    by_cases en : n = 63
    ·subst en
     exact hm.move (.inl ⟨_, _, _, _, rfl⟩)
    ·rw [if_neg en] at hn; exact absurd (memOf_nil n) hn
   have hsk : ∀ (w' : World) n own, memOf [(63, .obj true e 1 (zs.map int))] n = .yreg true own → SkW (regB (V n)) w w' := fun w' n own hn => by
    rw [memOf_cons] at hn
    split at hn
    ·cases hn
    ·rw [memOf_nil] at hn; cases hn
   rcases rowI he h63 with ⟨hV, hz⟩ | ⟨g, cap, cur, hV, hB, hh, hn, hc, hs, hcv, hp⟩
   ·subst hz
    have e0 : ([] : List Int).mergeSort (fun x y => decide (x ≤ y)) = [] := by simp
    rw [hvw, hV, e0]
    refine (h0 none 0 w).mono ?_
    rintro en w' ⟨rfl, rfl⟩
    exact ⟨_, rfl, BelowB.refl _ _, pub, fun _ _ h => h, fun _ _ h => .inl h, fun b o hb => ⟨hlt b o hb, fun h => absurd (hlt b o hb) (by omega)⟩, hmem1 _ _ h63, hsk _, [], hrr _, List.nodup_nil⟩
   ·have hm : maxLen = 9223372036854775807 := rfl
    have hgl : g < w.heap.size := (Array.getElem?_eq_some_iff.1 hh).1
    have hol : Go.Sort.Holds (Value.int .i64) w g 0 zs.toArray := fun j hj => by
     have hj' : j < zs.length := by simpa using hj
     have hj2 := hcv j hj'
     refine ⟨?_, ?_⟩
     ·simp only [World.cell?, hh]
      simp [hj2, hj']
     ·simp only [World.frozen?, hh]
      simp
    rw [hvw, hV]
    refine (h1 g 0 cap zs w hol hgl hlen).mono ?_
    rintro en w' ⟨rfl, q, os, rfl⟩
    have hsz : (zs.mergeSort fun x y => decide (x ≤ y)).length = zs.length := List.length_mergeSort ..
    have hh2 := heap_putRow (w := Go.Sort.ahead w q) (Value.int .i64) (off := 0) (d := (zs.mergeSort fun x y => decide (x ≤ y)).toArray) (show (Go.Sort.ahead w q).heap[g]? = _ from hh)
    have hgrow : ∀ k, k < w.heap.size → (Go.Sort.grow (Go.Sort.putRow (Value.int .i64) (Go.Sort.ahead w q) g 0 (zs.mergeSort fun x y => decide (x ≤ y)).toArray) os).heap[k]? = (Go.Sort.putRow (Value.int .i64) (Go.Sort.ahead w q) g 0 (zs.mergeSort fun x y => decide (x ≤ y)).toArray).heap[k]? := fun k hk => by
     unfold Go.Sort.grow
     simp only []
     rw [Array.getElem?_append_left (by rw [Go.Sort.size_putRow]; exact hk)]
    have hcs : (Go.Sort.putCells (Value.int .i64) 0 (zs.mergeSort fun x y => decide (x ≤ y)).toArray cur).size = cap := by simp [Go.Sort.putCells, hs]
    have hmk := rowI_mk (pub := pub) (V := V) (m := memOf [(63, .obj true e 1 (zs.map int))]) (B := fun _ => True) he trivial ((hgrow g hgl).trans hh2) (zs := zs.mergeSort fun x y => decide (x ≤ y)) (by omega) hc hcs (fun j hj => by
     rw [cell_putCells _ (by rw [List.size_toArray]; exact hj) (by omega)]
     simp) hp
    rw [hsz, ← hV] at hmk
    refine ⟨_, rfl, ⟨rfl, rfl, rfl, ?_, fun k hk => ?_⟩, pub, fun _ _ h => h, fun _ _ h => .inl h, fun b o hb => ⟨Nat.lt_of_lt_of_le (hlt b o hb) ?_, fun h => absurd (hlt b o hb) (by omega)⟩, hmem1 _ _ hmk, hsk _, [], hrr _, List.nodup_nil⟩
    ·show w.heap.size ≤ _
     unfold Go.Sort.grow
     simp only [Array.size_append, Go.Sort.size_putRow]
     exact Nat.le_add_right _ _
    ·by_cases hks : k < w.heap.size
     ·rw [hgrow k hks]
      refine (heap_putRow_ne _ (fun e => hk (.inr ⟨63, (by rw [m63]; exact fun h => (by cases h)), (fun own h => (by rw [m63] at h; cases h)), .inl ?_⟩))).trans rfl
      rw [← e, hV]; rfl
     ·exact absurd (.inl (Nat.le_of_not_lt hks)) hk
    ·unfold Go.Sort.grow
     simp only [Array.size_append, Go.Sort.size_putRow]
     exact Nat.le_add_right _ _
 ·cases hr
end Go.Px
namespace Go.Px
set_option linter.unusedSimpArgs false
set_option linter.unusedVariables false
open Go.RowKit
def joinB (xs : List ByteArray) (sep : ByteArray) : ByteArray := ⟨(Lib.join (xs.map (·.data.toList)) sep.data.toList).toArray⟩
def joinL (xs : List ByteArray) (sep : ByteArray) : Option ByteArray := if xs.length ≤ 140737488355328 ∧ (joinB xs sep).size ≤ 140737488355328 then some (joinB xs sep) else none
def itoaL (n : Int) : Option ByteArray := if -9223372036854775808 ≤ n ∧ n ≤ 9223372036854775807 then some ⟨(Lib.itoa n).toArray⟩ else none
theorem flat_str : ∀ zs : List ByteArray, flat (zs.map str) = zs.map str
 | [] => rfl
 | z :: zs => by
  rw [List.map_cons, flat_cons, flat_str zs]; rfl
theorem PC.one {P : Program} {f : FuncId} {args : List PV} {u : Value} (hok : okFn P f = true) (hu : u.oneCell' = true) (h : ∀ (w : World) (pub : Nat → Nat → Prop) (vals : List Value), GP P w → (∀ b o, pub b o → b < w.heap.size) → vals.length = args.length → (∀ (i : Nat) p v, args[i]? = some p → vals[i]? = some v → Rep pub w p v) →
  Calls P f vals.toArray w fun e w' => e = .returned u ∧ Below w.heap.size w w') : PC P f args (.lit u) := by
 refine ⟨hok, fun w pub vals hg hpub hlen hrep => (h w pub vals hg hpub hlen hrep).mono ?_⟩
 rintro e w' ⟨rfl, hb⟩
 exact ⟨u, rfl, hb, pub, [], fun _ _ h => h, fun _ _ h => .inl h, fun b o h => ⟨Nat.lt_of_lt_of_le (hpub b o h) hb.size, fun h2 => absurd (hpub b o h) (Nat.not_lt.2 h2)⟩, .pure _ _ (.lit u hu), List.nodup_nil⟩
theorem PC.join {P : Program} {f : FuncId} (hok : okFn P f = true)
  (h1 : ∀ (bk o c : Nat) (xs : List ByteArray) (sep : ByteArray) (w : World), (∀ (j : Nat) x, xs[j]? = some x → w.cell? ⟨bk, o + j, none⟩ = some (.string x)) → bk < w.heap.size → xs.length ≤ 140737488355328 → xs.length ≤ c → (Lib.join (xs.map (·.data.toList)) sep.data.toList).length ≤ 140737488355328 →
   Calls P f #[.slice (some ⟨bk, o, none⟩) xs.length c, .string sep] w fun e w' => e = .returned (.string ⟨(Lib.join (xs.map (·.data.toList)) sep.data.toList).toArray⟩) ∧ Below w.heap.size w w')
  (h0 : ∀ (a : Option Addr) (c : Nat) (sep : ByteArray) (w : World), Calls P f #[.slice a 0 c, .string sep] w fun e w' => e = .returned (.string ⟨#[]⟩) ∧ w' = w) (xs : List ByteArray) (sep r : ByteArray) (hr : joinL xs sep = some r) : PC P f [.slice (xs.map str), str sep] (str r) := by
 unfold joinL at hr
 split at hr
 ·rename_i hl
  cases hr
  refine PC.one hok rfl (fun w pub vals hg hpub hlen hrep => ?_)
  match vals, hlen, hrep with
  | [v, u], _, hrep =>
   have hv := hrep 0 _ v rfl rfl
   have hu := hrep 1 _ u rfl rfl
   have hu' : u = .string sep := by
    generalize hp : str sep = p at hu
    cases hu with
    | lit _ _ => cases hp; rfl
    | _ => cases hp
   subst hu'
   generalize hp : PV.slice (xs.map str) = p at hv
   cases hv with
   | slice0 a cap =>
    have : xs = [] := by simpa using (PV.slice.inj hp)
    subst this
    refine (h0 a cap sep w).mono ?_
    rintro e w' ⟨rfl, rfl⟩
    exact ⟨rfl, .refl _ _⟩
   | slice b o cap sz l V hsz hcap hmx hd hc =>
    have hp := PV.slice.inj hp
    subst hp
    rw [List.length_map] at hcap
    have hlm : ((xs.map str).length : Nat) = xs.length := List.length_map ..
    rw [hlm]
    have cell : ∀ (j : Nat) x, xs[j]? = some x → pub b (o + j) ∧ w.cell? ⟨b, o + j, none⟩ = some (.string x) := fun j x hj => by
     have hf : (flat (xs.map str))[j]? = some (str x) := by rw [flat_str, List.getElem?_map, hj]; rfl
     have h2 := hd j _ hf
     have h3 := hc j _ hf
     generalize V j = y at h2 h3
     generalize hq : str x = q at h3
     cases h3 with
     | lit _ _ => cases hq; exact ⟨h2.1, h2.2.1⟩
     | _ => cases hq
    cases hx : xs with
    | nil =>
     refine (h0 (some ⟨b, o, none⟩) cap sep w).mono ?_
     rintro e w' ⟨rfl, rfl⟩
     exact ⟨rfl, .refl _ _⟩
    | cons x xs' =>
     rw [← hx]
     have hbk : b < w.heap.size := hpub b (o + 0) (cell 0 x (by rw [hx]; rfl)).1
     exact h1 b o cap xs sep w (fun j x hj => (cell j x hj).2) hbk hl.1 hcap (by have := hl.2; simpa [joinB, ByteArray.size] using this)
   | _ => cases hp
 ·cases hr
theorem PC.itoa {P : Program} {f : FuncId} {g : Nat} (hok : okFn P f = true) (hg : P.globalNamed "internal/strconv.uint64pow10" = some g)
  (h1 : ∀ (n : Int) (w : World), -9223372036854775808 ≤ n → n ≤ 9223372036854775807 → Lib.TabIs P w "internal/strconv.uint64pow10" .u64 Lib.pow10Tab → Calls P f #[.int .i64 n] w fun e w' => e = .returned (.string ⟨(Lib.itoa n).toArray⟩) ∧ ∃ k os, w' = Go.Sort.grow (w.drewN k) os) (n : Int) (r : ByteArray) (hr : itoaL n = some r) : PC P f [int n] (str r) := by
 unfold itoaL at hr
 split at hr
 ·rename_i hl
  cases hr
  refine PC.one hok rfl (fun w pub vals hgp hpub hlen hrep => ?_)
  match vals, hlen, hrep with
  | [v], _, hrep =>
   have hv := hrep 0 _ v rfl rfl
   have hv' : v = .int .i64 n := by
    generalize hp : int n = p at hv
    cases hv with
    | lit _ _ => cases hp; rfl
    | _ => cases hp
   subst hv'
   have ht : Lib.TabIs P w "internal/strconv.uint64pow10" .u64 Lib.pow10Tab := hgp.tab g hg
   refine (h1 n w hl.1 hl.2 ht).mono ?_
   rintro e w' ⟨rfl, k, os, rfl⟩
   refine ⟨rfl, rfl, rfl, rfl, ?_, fun k hk => ?_⟩
   ·simp [Go.Sort.grow, World.drewN]
   ·exact Go.Sort.heap_grow_old _ os hk
 ·cases hr
end Go.Px
namespace Go.Px
set_option linter.unusedVariables false
section
variable {P : Program} {N : Nat} {all : Array Oper} {F : Nat → Foot} {i : Nat} {rest : List Oper} {S M : List (Nat × PV)} {K : St → Prop} {d : Nat} {ty : TypeId} {pos : String} {after : Array Edge} {Q : St → Prop} {k : List Item} {s : St}
theorem X.bx {t : TypeId} {x : Operand} {p : PV} {R : List Nat} {C : List (Nat × Nat)} {cs : List PV} (h : SLx P N all F (i + 1) rest (St.of ((d, .lptr (64 * d) 0) :: S) ((64 * d, .blk true cs) :: M)) K) (hx : evO S x = some p := by rfl) (hp : curO M p = some (R, C) := by rfl)
  (hC : AllEq C := by repeat (first | trivial | refine ⟨by first | rfl | simp [setL], ?_⟩)) (hm : look M (64 * d) = none := by rfl) (hcs : some p.cells = some cs := by rfl) (hd : Nat.ble (d + 1) N = true := by rfl) (hF : (F i).okB (64 * d :: R) [64 * d] = true := by rfl) :
  SLx P N all F i (⟨some d, .box t x, ty, pos, after, none⟩ :: rest) (St.of S M) K := X.box hx hp hC hm hcs hd hF h
theorem X.sl {t : TypeId} {x y : Operand} {n off : Nat} {cs cs' : List PV} {p : PV} {R : List Nat} {C : List (Nat × Nat)} {g : Bool} {sz : Nat} (ht : shp P t = some (g, sz)) (h : SLx P N all F (i + 1) rest (St.of S ((n, .blk true cs') :: M)) K) (hx : evO S x = some (.lptr n off) := by rfl) (hm : look M n = some (.blk true cs) := by rfl) (hy : evO S y = some p := by rfl) (hp : curO M p = some (R, C) := by rfl)
  (hC : AllEq C := by repeat (first | trivial | refine ⟨by first | rfl | simp [setL], ?_⟩)) (hl : p.cells.length = sz := by rfl) (hc : spliceK off cs p.cells some = some cs' := by rfl) (hF : (F i).okB (n :: R) [n] = true := by rfl) :
  SLx P N all F i (⟨none, .store t x y, ty, pos, after, none⟩ :: rest) (St.of S M) K := X.store_l ht hx hm hy hp hC hl hc hF h
theorem X.fl {t : TypeId} {x : Operand} {f n off o' : Nat} (ht : fldOff P t f = some o') (h : SLx P N all F (i + 1) rest (St.of ((d, .lptr n (off + o')) :: S) M) K) (hx : evO S x = some (.lptr n off) := by rfl) (hd : Nat.ble (d + 1) N = true := by rfl) :
  SLx P N all F i (⟨some d, .fieldAddr t x f, ty, pos, after, none⟩ :: rest) (St.of S M) K := X.fieldAddr_l ht hx hd h
theorem X.pT {c x y : Operand} {b : Bool} {v : PV} (h : SLx P N all F (i + 1) rest (St.of ((d, v) :: S) M) K) (hc : evO S c = some (.lit (.bool b)) := by rfl) (hb : b = true := by first | rfl | assumption) (hv : evO S x = some v := by rfl) (hd : Nat.ble (d + 1) N = true := by rfl) :
  SLx P N all F i (⟨some d, .pick c x y, ty, pos, after, none⟩ :: rest) (St.of S M) K := X.pickT hc hb hv hd h
theorem X.pF {c x y : Operand} {b : Bool} {v : PV} (h : SLx P N all F (i + 1) rest (St.of ((d, v) :: S) M) K) (hc : evO S c = some (.lit (.bool b)) := by rfl) (hb : b = false := by first | rfl | assumption) (hv : evO S y = some v := by rfl) (hd : Nat.ble (d + 1) N = true := by rfl) :
  SLx P N all F i (⟨some d, .pick c x y, ty, pos, after, none⟩ :: rest) (St.of S M) K := X.pickF hc hb hv hd h
theorem X.lc {t : TypeId} {x : Operand} {off : Nat} {cs : List PV} {v : PV} {g : Bool} {sz : Nat} (ht : shp P t = some (g, sz)) (h : SLx P N all F (i + 1) rest (St.of ((d, v) :: S) M) K) (hg : (g || Nat.beq sz 1) = true := by rfl) (hx : evO S x = some (.cptr cs off) := by rfl) (hv : loadK g sz off cs = some v := by rfl) (hd : Nat.ble (d + 1) N = true := by rfl) :
  SLx P N all F i (⟨some d, .load t x, ty, pos, after, none⟩ :: rest) (St.of S M) K := X.load_c ht hg hx hv hd h
theorem X.ls {t : TypeId} {x : Operand} {e sz by' : Nat} {l : List PV} {n : Nat} (ht : eltOf P t = some (e, sz, by')) (h : SLx P N all F (i + 1) rest (St.of ((d, .lit (.int .i64 n)) :: S) M) K) (hx : evO S x = some (.slice l) := by rfl) (hn : l.length = n := by exact List.length_map ..) (hd : Nat.ble (d + 1) N = true := by rfl) :
  SLx P N all F i (⟨some d, .call { callee := .builtin .len, args := #[x], argTypes := #[t] }, ty, pos, after, none⟩ :: rest) (St.of S M) K := X.len_s ht hx hn hd h
theorem X.iG {op : Op} {g t : Nat} {want b : Bool} (h1 : b = want → SLx P N all F i (⟨some d, op, ty, pos, after, none⟩ :: rest) (St.of S M) K) (h2 : b = !want → SLx P N all F (i + 1) rest (St.of ((d, .tuple []) :: S) M) K) (hg : gslot all g = some t := by rfl) (hs : look S t = some (.lit (.bool b)) := by rfl) (hd : Nat.ble (d + 1) N = true := by rfl) :
  SLx P N all F i (⟨some d, op, ty, pos, after, some (g, want)⟩ :: rest) (St.of S M) K := X.ifG hg hs hd h1 h2
theorem X.eG {S1 M1 : List (Nat × PV)} (hS : AllLook S S1 := by repeat (first | trivial | refine ⟨by first | rfl | simp [setL], ?_⟩)) (hM : AllLook M M1 := by repeat (first | trivial | refine ⟨by first | rfl | simp [setL], ?_⟩)) (hr : (S1.all fun q => refsB 3 (M1.map (·.1)) q.2) = true := by rfl) (hrm : (M1.all fun q => refsM (M1.map (·.1)) q.2) = true := by rfl) :
  SLx P N all F i [] (St.of S M) (fun s => Weak N s (St.of S1 M1)) := X.endG hS hM hr hrm
theorem R.f1 {fn : Func} {t : Nat} {v r : PV} (hres : fn.results = #[.tmp t]) (hr : v = r) (hv : look S t = some v := by rfl) (hp : v.plain = true := by rfl) : Run P N (Fin P fn r) (.code .ret :: k) (St.of S M) := R.fin1 hres hv hp hr
theorem R.cd {c : Operand} {x y : Code} {b : Bool} (h1 : b = true → Run P N Q (.code x :: k) (St.of S M)) (h2 : b = false → Run P N Q (.code y :: k) (St.of S M)) (hc : evO S c = some (.lit (.bool b)) := by rfl) : Run P N Q (.code (.cond c x y) :: k) (St.of S M) := R.cond hc h1 h2
theorem R.lp {β : Type} {c : Code} (S0 M0 : List (Nat × PV)) (X Y : β → List (Nat × PV) → List (Nat × PV)) (J : Nat → β → Prop) (n0 : Nat) (b0 : β) (h0 : J n0 b0)
  (hrun : ∀ (JJ : St → Prop) n b, (∀ m b' S' M', m < n → J m b' → AllLook S' (X b' S0) → AllLook M' (Y b' M0) → ((X b' S0).all fun q => refsB 3 ((Y b' M0).map (·.1)) q.2) = true → ((Y b' M0).all fun q => refsM ((Y b' M0).map (·.1)) q.2) = true → Run P N Q (.again JJ :: k) (St.of S' M')) → J n b →
   Run P N Q (.code c :: .again JJ :: k) (St.of (X b S0) (Y b M0))) (hS : AllLook S (X b0 S0) := by repeat (first | trivial | refine ⟨by first | rfl | simp [setL], ?_⟩)) (hM : AllLook M (Y b0 M0) := by repeat (first | trivial | refine ⟨by first | rfl | simp [setL], ?_⟩)) (hr : ((X b0 S0).all fun q => refsB 3 ((Y b0 M0).map (·.1)) q.2) = true := by rfl) (hrm : ((Y b0 M0).all fun q => refsM ((Y b0 M0).map (·.1)) q.2) = true := by rfl) : Run P N Q (.code (.loop c) :: k) (St.of S M) :=
 R.loop2 S0 M0 X Y J n0 b0 hS hM hr hrm h0 hrun
theorem R.ag {β : Type} {J : Nat → β → Prop} {A B : β → List (Nat × PV) → Prop} {C D : β → Prop} {n : Nat} (hag : ∀ m b S M, m < n → J m b → A b S → B b M → C b → D b → Run P N Q k (St.of S M)) (m : Nat) (b : β) (h : J m b) (hlt : m < n := by omega) (h1 : A b S := by repeat (first | trivial | refine ⟨by first | rfl | simp [setL], ?_⟩)) (h2 : B b M := by repeat (first | trivial | refine ⟨by first | rfl | simp [setL], ?_⟩)) (h3 : C b := by rfl) (h4 : D b := by rfl) : Run P N Q k (St.of S M) := hag m b S M hlt h h1 h2 h3 h4
theorem R.mt {β : Type} {J : β → Prop} {A B : β → List (Nat × PV) → Prop} {C D : β → Prop} (hag : ∀ b S M, J b → A b S → B b M → C b → D b → Run P N Q k (St.of S M)) (b : β) (h : J b) (h1 : A b S := by repeat (first | trivial | refine ⟨by first | rfl | simp [setL], ?_⟩)) (h2 : B b M := by repeat (first | trivial | refine ⟨by first | rfl | simp [setL], ?_⟩)) (h3 : C b := by rfl) (h4 : D b := by rfl) : Run P N Q k (St.of S M) := hag b S M h h1 h2 h3 h4
theorem R.n3 {a b c : Prop} (h3 : c) (h1 : a := by first | omega | (dsimp only; omega)) (h2 : b := by first | omega | (dsimp only; omega)) : a ∧ b ∧ c := ⟨h1, h2, h3⟩
theorem X.cp {fo : Operand} {args : Array Operand} {ats : Array TypeId} {f : FuncId} {caps ps ps' ps2 : List PV} {r : PV} {R : List Nat} {C : List (Nat × Nat)} (hc : PC P f ps2 r) (h : SLx P N all F (i + 1) rest (St.of ((d, r) :: S) M) K) (hf : evO S fo = some (.fn f caps) := by rfl) (hps : evL S args.toList = some ps := by rfl) (hp : purL M ps = some (ps', R, C) := by rfl)
  (hC : AllEq C := by repeat (first | trivial | refine ⟨by first | rfl | simp [setL], ?_⟩)) (ha : ps' ++ caps = ps2 := by rfl) (hr : r.plain = true := by rfl) (hd : Nat.ble (d + 1) N = true := by rfl) (hF : (F i).okB R [] = true := by rfl) :
  SLx P N all F i (⟨some d, .call { callee := .value fo, args := args, argTypes := ats }, ty, pos, after, none⟩ :: rest) (St.of S M) K := X.callP hc hf hps hp hC ha hr hd hF h
theorem X.ix {t : TypeId} {x y : Operand} {e sz by' : Nat} {l : List PV} {kk : IntKind} {j : Int} {el : PV} {cs : List PV} (ht : eltOf P t = some (e, sz, by')) (h0 : 0 ≤ j) (hi : l[j.toNat]? = some el) (h : SLx P N all F (i + 1) rest (St.of ((d, .cptr cs 0) :: S) M) K) (hx : evO S x = some (.slice l) := by rfl) (hy : evO S y = some (.lit (.int kk j)) := by rfl) (hcs : el.cells = cs := by rfl) (hsz : cs.length = sz := by rfl) (hd : Nat.ble (d + 1) N = true := by rfl) :
  SLx P N all F i (⟨some d, .indexAddr t x y, ty, pos, after, none⟩ :: rest) (St.of S M) K := X.index_s ht hx hy h0 hi hcs hsz hd h
theorem X.ad {t t' : TypeId} {x y : Operand} {a b : Int} (h : SLx P N all F (i + 1) rest (St.of ((d, .lit (.int .i64 (a + b))) :: S) M) K) (hx : evO S x = some (.lit (.int .i64 a)) := by rfl) (hy : evO S y = some (.lit (.int .i64 b)) := by rfl) (hr : -9223372036854775808 ≤ a + b ∧ a + b ≤ 9223372036854775807 := by omega) (hd : Nat.ble (d + 1) N = true := by rfl) :
  SLx P N all F i (⟨some d, .binOp .add t x y t', ty, pos, after, none⟩ :: rest) (St.of S M) K := X.add hx hy hr hd h
end
end Go.Px
namespace Go.Px
set_option linter.unusedVariables false
end Go.Px
namespace Go.Px
set_option linter.unusedSimpArgs false
set_option linter.unusedVariables false
open Go.RowKit
def begL {α : Type} (l : List α) (a : Int) : Option Nat := if 0 < l.length ∧ 0 ≤ a ∧ a ≤ l.length then some a.toNat else none
def idxO {α : Type} (l : List α) (lo hi : Nat) (z : Int) : Option α := if 0 ≤ z ∧ z < ((hi - lo : Nat) : Int) then l[lo + z.toNat]? else none
def clrL {α : Type} (l : List α) (lo hi : Nat) (z : α) : List α := l.take lo ++ List.replicate (hi - lo) z ++ l.drop hi
section
variable {P : Program} {N : Nat} {all : Array Oper} {F : Nat → Foot} {i : Nat} {rest : List Oper} {S M : List (Nat × PV)} {K : St → Prop} {d : Nat} {ty : TypeId} {pos : String} {after : Array Edge}
theorem X.lenL {t : TypeId} {x : Operand} {n k a c : Nat} {b : Bool} {e sz by' : Nat} {l : List PV} (ht : eltOf P t = some (e, sz, by')) (hx : evO S x = some (.osl n k a c)) (hm : look M n = some (.obj b e sz l)) (hk : k = l.length) (hd : Nat.ble (d + 1) N = true) (hF : (F i).okT n = true) (h : SLx P N all F (i + 1) rest (St.of ((d, .lit (.int .i64 ((c - a : Nat) : Int))) :: S) M) K) :
  SLx P N all F i (⟨some d, .call { callee := .builtin .len, args := #[x], argTypes := #[t] }, ty, pos, after, none⟩ :: rest) (St.of S M) K := by
 refine ⟨_, .opS _ (some d) (.call { callee := .builtin .len, args := #[x], argTypes := #[t] }) ty pos after none (.lit (.int .i64 ((c - a : Nat) : Int))) [] [] [n] (fun g want e => by cases e) (fun m2 _ h2 => ?_) (fun d' hd' => by cases hd'; exact Nat.le_of_ble_eq_true hd) (okT_spec hF), ?_⟩
 ·have := h2 n (by simp)
  rw [look_mem hm] at this
  obtain ⟨l', e1, e2⟩ := this.obj_inv
  exact ⟨_, AOp.lenL (P := P) (σ := (St.of S M).ev) (m := m2) (d := d) t x n k a c b e sz by' l' ht (evO_spec hx) e1 (by omega)⟩
 ·show SLx P N all F (i + 1) rest ⟨upd (St.of S M).slot d (.lit (.int .i64 ((c - a : Nat) : Int))), (St.of S M).mem⟩ K
  rw [slot_of]; exact h
theorem X.clearL {t : TypeId} {x : Operand} {n k a c e sz by' : Nat} {z : List PV} (el : PV) {l l2 : List PV} (ht : eltOf P t = some (e, sz, by')) (hz : zeroPV P e = some z) (hel : el.cells = z ∨ el.cells = z.map zc) (hzl : z.length = sz) (hp : ∀ c ∈ z, c.plain = true) (hx : evO S x = some (.osl n k a c)) (hm : look M n = some (.obj true e sz l)) (hk : k = l.length) (hl : l.take a ++ List.replicate (c - a) el ++ l.drop c = l2) (hF : (F i).okB [n] [n] = true)
  (h : SLx P N all F (i + 1) rest (St.of S ((n, .obj true e sz l2) :: M)) K) : SLx P N all F i (⟨none, .call { callee := .builtin .clear, args := #[x], argTypes := #[t] }, ty, pos, after, none⟩ :: rest) (St.of S M) K :=
 X.ofOp0 (v := .tuple []) (U := [(n, .obj true e sz l2)]) (R := [n]) (by subst hl; exact .clearL t x n k a c e sz by' z el l ht hz hel hzl hp (evO_spec hx) (look_mem hm) hk) hF h
end
end Go.Px
namespace Go.Px
set_option linter.unusedSimpArgs false
set_option linter.unusedVariables false
open Go.RowKit
def CCutA (P : Program) (f : FuncId) (e sz : Nat) (l xs l2 : List PV) : Prop :=
 okFn P f = true ∧ ∀ (pub : Nat → Nat → Prop) (w : World) (v : Value) (vs : List Value) (B : Nat → Prop), (∀ w' : World, (∀ k, k < w.heap.size → blockOf v ≠ some k → w'.heap[k]? = w.heap[k]?) → GP P w') → (∀ b o, pub b o → b < w.heap.size) → MemOk pub w (fun _ => Go.undef) (fun _ => .undef) B v (.obj true e sz l) →
  vs.length = xs.length → (∀ (i : Nat) p u, xs[i]? = some p → vs[i]? = some u → Rep pub w p u) →
  Calls P f (v :: vs).toArray w fun en w' => ∃ v' lz, en = .returned v' ∧ lz.length = l.length ∧ w.heap.size ≤ w'.heap.size ∧ w'.os = w.os ∧ w'.tape = w.tape ∧ w'.output = w.output ∧ (∀ k, k < w.heap.size → blockOf v ≠ some k → w'.heap[k]? = w.heap[k]?) ∧
   MemOk pub w' (fun _ => Go.undef) (fun _ => .undef) B v (.obj true e sz lz) ∧ MemOk pub w' (fun _ => Go.undef) (fun _ => .undef) B v' (.obj true e sz l2) ∧ ∀ g, blockOf v' = some g → blockOf v = some g
def FinC (P : Program) (fn : Func) (e sz n : Nat) (l2 : List PV) (s : St) : Prop :=
 ∃ lz p, ResAt P s fn.results.toList [p] ∧ s.mem 63 = .obj true e sz lz ∧ lz.length = n ∧ (∀ c ∈ flat lz, litC c) ∧ ((p = .own 63 n ∧ l2 = lz) ∨ ∃ j, p = .osl 63 n 0 j ∧ l2 = lz.take j)
section
variable {pub pub' : Nat → Nat → Prop} {w : World} {V V' : Nat → Value} {m m' : Nat → PV} {B B' : Nat → Prop} {v : Value} {e sz : Nat} {lz : List PV}
theorem MemOk.repub (h : MemOk pub w V m B v (.obj true e sz lz)) (hf : ∀ c ∈ flat lz, litC c) (hB : ∀ g, v.ownBlock = some g → B' g) (hp' : ∀ g o, v.ownBlock = some g → ¬ pub' g o) : MemOk pub' w V' m' B' v (.obj true e sz lz) := by
 cases h with
 | obj _ _ _ _ xs hsz hmx hl how hp hq hc =>
  exact .obj true e sz lz xs hsz hmx hl ⟨how.1, hB⟩ (fun g o hg ho => absurd ho (hp' g o hg)) (fun h => by cases h) (fun i c hi => ⟨(hc i c hi).1, (hc i c hi).2.litC (hf c (List.mem_of_getElem? hi))⟩)
theorem MemOk.head {g cap j : Nat} (h : MemOk pub w V m B v (.obj true e sz lz)) (hv : v = .slice (some ⟨g, 0, none⟩) lz.length cap) (hj : j ≤ lz.length) : MemOk pub w V m B (.slice (some ⟨g, 0, none⟩) j cap) (.obj true e sz (lz.take j)) := by
 cases h with
 | obj _ _ _ _ xs hsz hmx hl how hp hq hc =>
  subst hv
  obtain ⟨⟨hlen, how2⟩, hB⟩ := how
  rcases how2 with ⟨h0, _⟩ | ⟨g', cap', cur, h0, _, hh, hnc, hcm, hcs, htk⟩
  ·cases h0
  ·cases h0
   have htl : (lz.take j).length = j := by simp; omega
   have hjs : j * sz ≤ lz.length * sz := Nat.mul_le_mul_right _ hj
   refine .obj true e sz (lz.take j) (xs.take (j * sz)) hsz (by omega) (fun q hq => hl q (List.mem_of_mem_take hq)) ⟨⟨by rw [htl, List.length_take, hlen, Nat.min_eq_left hjs], .inr ⟨g, cap, cur, by rw [htl], Nat.zero_le _, hh, by rw [htl]; omega, hcm, hcs, ?_⟩⟩, fun k hk => hB k ?_⟩ (fun k o hk ho => ?_) (fun h => by cases h) (fun i c hi => ?_)
   ·rw [htl, ← htk, List.take_take, Nat.min_eq_left hjs]
   ·simpa [Value.ownBlock] using hk
   ·have := (hp k o (by simpa [Value.ownBlock] using hk) ho).1; cases this
   ·rw [flat_take hl, List.getElem?_take] at hi
    split at hi
    ·rename_i hlt
     have h2 := hc i c hi
     have e1 : (xs.take (j * sz)).getD i Go.undef = xs.getD i Go.undef := by
      rw [List.getD_eq_getElem?_getD, List.getD_eq_getElem?_getD, List.getElem?_take, if_pos hlt]
     rw [e1]; exact h2
    ·cases hi
end
theorem CCutA.intro {P : Program} {f : FuncId} {fn : Func} {c : Code} {e sz : Nat} {l xs l2 : List PV} (hf : P.funcs[f]? = some fn) (hb : fn.body = some c) (hok : okFn P f = true) (hn : xs.length + 1 ≤ fn.ntmps)
  (h : Run P fn.ntmps (FinC P fn e sz l.length l2) [.code c] ⟨initSlot (.own 63 l.length :: xs), memOf [(63, .obj true e sz l)]⟩) : CCutA P f e sz l xs l2 := by
 refine ⟨hok, fun pub w v vs B hgp hpub hmem hlen hrep => ?_⟩
 refine calls_of_wp hf hb ?_
 have m63 : ∀ p : PV, memOf [(63, p)] 63 = p := fun p => by rw [memOf_cons]; rfl
 have mne : ∀ (p : PV) n, n ≠ 63 → memOf [(63, p)] n = .undef := fun p n hn => by rw [memOf_cons, if_neg hn]; rfl
 have hob := hmem.obj_block
 have hgood : ∀ w' : World, (∀ k, ¬ Base0.O ⟨w, fun b => blockOf v = some b, fun _ => v⟩ k → w'.heap[k]? = w.heap[k]?) → GP P w' := fun w' hw => hgp w' fun k hk hne => hw k fun ho => ho.elim (fun h => absurd hk (Nat.not_lt.2 h)) hne
 have hlt : ∀ g, blockOf v = some g → g < w.heap.size := fun g hg => hmem.block_lt (fun e => by cases e) (.inl hg)
 have hnp : ∀ g o, blockOf v = some g → ¬ pub g o := fun g o hg => hmem.excl (.inl ⟨_, _, _, rfl⟩) (.inl hg)
 have hrel : Rel fn.ntmps (⟨⟨w, fun b => blockOf v = some b, fun _ => v⟩, hgood⟩ : Base P) pub ⟨initSlot (.own 63 l.length :: xs), memOf [(63, .obj true e sz l)]⟩ { tmps := (v :: vs).toArray ++ Array.replicate (fn.ntmps - (v :: vs).toArray.size) undef, defers := [] } w := by
  refine ⟨pub, fun _ => v, fun _ _ h => h, fun _ _ h => .inl h, ⟨rfl, by simp; omega, BelowB.refl _ _, fun _ _ => rfl, hpub, fun t => ?_, fun n => ?_, fun n m g h1 h2 _ _ => ?_, fun b o ho hb0 => absurd (hpub b o ho) (by show ¬ _; have : w.heap.size ≤ b := hb0; omega), fun n own h1 h2 => ?_⟩⟩
  ·show RV pub w _ _ (initSlot (.own 63 l.length :: xs) t) _
   rw [initSlot_get]
   have hget : ∀ u, (v :: vs)[t]? = some u → ((v :: vs).toArray ++ Array.replicate (fn.ntmps - (v :: vs).toArray.size) undef).getD t Go.undef = u := fun u hu => by
    obtain ⟨h1, h2⟩ := List.getElem?_eq_some_iff.1 hu
    have h3 : t < vs.length + 1 := by simpa using h1
    have h4 : ((v :: vs).toArray ++ Array.replicate (fn.ntmps - (v :: vs).toArray.size) undef)[t]? = some u := by
     rw [Array.getElem?_append_left (by simpa using h1)]
     simpa using hu
    rw [Array.getD_eq_getD_getElem?, h4]; rfl
   cases t with
   | zero =>
    show RV pub w (fun _ => v) _ (.own 63 l.length) _
    rw [hget v rfl]
    exact .ref (.own 63 l.length _ true e sz l (m63 _) (Nat.le_refl _) (fun _ => rfl))
   | succ t =>
    rw [List.getElem?_cons_succ]
    by_cases ht : t < xs.length
    ·have h2 : vs[t]? = some (vs[t]'(by omega)) := List.getElem?_eq_getElem (by omega)
     rw [hget (vs[t]'(by omega)) (by rw [List.getElem?_cons_succ]; exact h2), List.getElem?_eq_getElem ht]
     exact .pure (hrep t _ _ (List.getElem?_eq_getElem ht) h2)
    ·rw [List.getElem?_eq_none (by omega)]
     exact .undef _
  ·by_cases hn : n = 63
   ·subst hn
    show MemOk pub w _ _ _ v (memOf [(63, .obj true e sz l)] 63)
    rw [m63]
    exact (hmem.rebase fun g _ _ hg => .inr (hmem.one (fun e => by cases e) (fun s o e => by cases e) hg)).move (.inl ⟨_, _, _, _, rfl⟩)
   ·show MemOk pub w _ _ _ v (memOf [(63, .obj true e sz l)] n)
    rw [mne _ _ hn]; exact .undef
  ·by_cases hn : n = 63
   ·by_cases hm : m = 63
    ·rw [hn, hm]
    ·exact absurd (mne _ _ hm) h2
   ·exact absurd (mne _ _ hn) h1
  ·have h2' : memOf [(63, .obj true e sz l)] n = .yreg true own := h2
   by_cases hn : n = 63
   ·subst hn; rw [m63] at h2'; cases h2'
   ·rw [mne _ _ hn] at h2'; cases h2'
 refine Code.wp_mono (fun en a w' q => ?_) (h _ pub _ _ hrel)
 have fin : (∃ s, FinC P fn e sz l.length l2 s ∧ Rel fn.ntmps (⟨⟨w, fun b => blockOf v = some b, fun _ => v⟩, hgood⟩ : Base P) pub s a w') → a.defers = [] ∧ ∃ v0, (results fn a.tmps).run P w' = .ok v0 w' ∧ ∃ v' lz, Ending.returned v0 = .returned v' ∧ lz.length = l.length ∧ w.heap.size ≤ w'.heap.size ∧ w'.os = w.os ∧ w'.tape = w.tape ∧ w'.output = w.output ∧ (∀ k, k < w.heap.size → blockOf v ≠ some k → w'.heap[k]? = w.heap[k]?) ∧
   MemOk pub w' (fun _ => Go.undef) (fun _ => .undef) B v (.obj true e sz lz) ∧ MemOk pub w' (fun _ => Go.undef) (fun _ => .undef) B v' (.obj true e sz l2) ∧ ∀ g, blockOf v' = some g → blockOf v = some g := by
  rintro ⟨s, ⟨lz, p, hat, hm, hll, hfl, hp⟩, pub', V', c1, c2, hrel'⟩
  obtain ⟨vs', g1, g2, g3⟩ := results_run hrel' hat
  match vs', g2 with
  | [u], _ =>
   have hu := g3 0 p u rfl rfl
   have hV : V' 63 = v := hrel'.fixed 63 rfl
   have hmz := hrel'.mem 63
   rw [hm, hV] at hmz
   have hvb : ∀ g, v.ownBlock = some g → blockOf v = some g := fun g hg => by rw [hob.1]; exact hg
   have hmz' : MemOk pub w' (fun _ => Go.undef) (fun _ => .undef) B v (.obj true e sz lz) := hmz.repub hfl hob.2 (fun g o hg => hnp g o (hvb g hg))
   have hbel := hrel'.below
   have common : (∀ k, k < w.heap.size → blockOf v ≠ some k → w'.heap[k]? = w.heap[k]?) := fun k hk hne => hbel.block k (fun ho => ho.elim (fun h => absurd hk (Nat.not_lt.2 h)) hne)
   have g1' : (results fn a.tmps).run P w' = .ok u w' := by simpa using g1
   rcases hp with ⟨rfl, rfl⟩ | ⟨j, rfl, rfl⟩
   ·obtain ⟨x1, e1, sz1, l1, hm1, _, hvv⟩ := hu.own_inv
    rw [hm] at hm1; cases hm1
    have hvv := (hvv hll.symm).trans hV
    subst hvv
    exact ⟨hrel'.defers, u, g1', u, l2, rfl, hll, hbel.size, hbel.os, hbel.tape, hbel.output, common, hmz', hmz', fun g hg => hg⟩
   ·obtain ⟨x1, e1, sz1, l1, hm1, _, hij, hvv⟩ := hu.osl_inv
    rw [hm] at hm1; cases hm1
    obtain ⟨g, cap, hVg, hvv⟩ := hvv hll.symm
    rw [hV] at hVg
    have hvv' : u = .slice (some ⟨g, 0, none⟩) j cap := by simpa using hvv
    subst hvv'
    exact ⟨hrel'.defers, _, g1', _, lz, rfl, hll, hbel.size, hbel.os, hbel.tape, hbel.output, common, hmz', hmz'.head hVg (by omega), fun k hk => by rw [hVg]; exact hk⟩
 cases en with
 | normal => exact fin q
 | ret => exact fin q
 | _ => exact q.elim
section
variable {P : Program} {N : Nat} {Q : St → Prop} {k : List Item} {S M S' M' : List (Nat × PV)}
theorem CCutA.start {f : FuncId} {fn : Func} {c : Code} {e sz : Nat} {l xs l2 : List PV} (hf : P.funcs[f]? = some fn) (hN : fn.ntmps = N) (hb : fn.body = some c) (hok : okFn P f = true) (hn : Nat.ble (xs.length + 1) N = true)
  (h : Run P N (FinC P fn e sz l.length l2) [.code c] (St.of (slotsOf 0 (.own 63 l.length :: xs)) [(63, .obj true e sz l)])) : CCutA P f e sz l xs l2 := by
 subst hN
 refine CCutA.intro hf hb hok (Nat.le_of_ble_eq_true hn) ?_
 have e : (⟨initSlot (.own 63 l.length :: xs), memOf [(63, .obj true e sz l)]⟩ : St) = St.of (slotsOf 0 (.own 63 l.length :: xs)) [(63, .obj true e sz l)] := by
  unfold St.of memOf
  congr 1
  ·funext t
   rw [initSlot_get, look_slotsOf]; simp
 rw [e]; exact h
theorem Run.one {all : Array Oper} {o : Oper} {rest : List Oper} {s : St} (h : SLx P N all (fun _ => none) 0 [o] s (Run P N Q (.ops all rest :: k))) : Run P N Q (.ops all (o :: rest) :: k) s := fun w0 pub0 a w hR => by
 obtain ⟨s', hs, hl⟩ := h
 have := hs.sound (P := P) (K := wpList P all (den P N w0 pub0 Q k) rest) (Q' := den P N w0 pub0 Q k) (fun a w hR' => hl w0 pub0 a w hR') hR
 show wpList P all (den P N w0 pub0 Q k) (o :: rest) a w
 unfold wpList
 rcases this with ⟨h1, h2⟩ | ⟨h1, h2⟩
 ·rw [if_pos h1]; exact .inl h2
 ·rw [if_neg (by rw [h1]; simp)]; exact h2
end
end Go.Px
namespace Go.Px
set_option linter.unusedSimpArgs false
set_option linter.unusedVariables false
open Go.RowKit
theorem PC.flatR {P : Program} {f : FuncId} {args : List PV} {r : PV} {u : Value} (hok : okFn P f = true) (hr : ∀ pub w, Rep pub w r u) (h : ∀ (w : World) (pub : Nat → Nat → Prop) (vals : List Value), GP P w → (∀ b o, pub b o → b < w.heap.size) → vals.length = args.length → (∀ (i : Nat) p v, args[i]? = some p → vals[i]? = some v → Rep pub w p v) →
  Calls P f vals.toArray w fun e w' => e = .returned u ∧ Below w.heap.size w w') : PC P f args r := by
 refine ⟨hok, fun w pub vals hg hpub hlen hrep => (h w pub vals hg hpub hlen hrep).mono ?_⟩
 rintro e w' ⟨rfl, hb⟩
 exact ⟨u, rfl, hb, pub, [], fun _ _ h => h, fun _ _ h => .inl h, fun b o h => ⟨Nat.lt_of_lt_of_le (hpub b o h) hb.size, fun h2 => absurd (hpub b o h) (Nat.not_lt.2 h2)⟩, .pure _ _ (hr _ _), List.nodup_nil⟩
theorem lit_val {pub : Nat → Nat → Prop} {w : World} {u v : Value} (h : Rep pub w (.lit u) v) : v = u := by cases h; rfl
theorem rep_tuple3 {pub : Nat → Nat → Prop} {w : World} {a b d : PV} {u v x : Value} (h1 : Rep pub w a u) (h2 : Rep pub w b v) (h3 : Rep pub w d x) : Rep pub w (.tuple [a, b, d]) (.tuple #[u, v, x]) :=
 .tuple _ _ rfl fun j c hj => by
  match j, hj with
  | 0, hj => cases hj; exact h1
  | 1, hj => cases hj; exact h2
  | 2, hj => cases hj; exact h3
  | j + 3, hj => cases hj
theorem below_drewN (w : World) (n : Nat) : Below w.heap.size w (w.drewN n) := ⟨rfl, rfl, rfl, Nat.le_refl _, fun _ _ => rfl⟩
/-! ### strings.IndexByte -/
def ixByteL (s : ByteArray) (c : Int) : Option Int := some (Lib.indexByte s.data.toList c.toNat.toUInt8)
theorem PC.indexByte {P : Program} {f : FuncId} (hok : okFn P f = true) (h1 : ∀ (s : ByteArray) (c : Int) (w : World), Calls P f #[.string s, .int .u8 c] w fun e w' => e = .returned (.int .i64 (Lib.indexByte s.data.toList c.toNat.toUInt8)) ∧ w' = w) (s : ByteArray) (c r : Int) (hr : ixByteL s c = some r) : PC P f [str s, .lit (.int .u8 c)] (int r) := by
 cases hr
 refine PC.flatR hok (fun _ _ => .lit _ rfl) (fun w pub vals hg hpub hlen hrep => ?_)
 match vals, hlen, hrep with
 | [u, v], _, hrep =>
  obtain rfl := lit_val (hrep 0 _ u rfl rfl)
  obtain rfl := lit_val (hrep 1 _ v rfl rfl)
  refine (h1 s c w).mono ?_
  rintro e w' ⟨rfl, rfl⟩
  exact ⟨rfl, .refl _ _⟩
/-! ### strings.ReplaceAll -/
def replB (s old new : ByteArray) : ByteArray := ⟨(Lib.replaceAll s.data.toList old.data.toList new.data.toList).toArray⟩
def replL (s old new : ByteArray) : Option ByteArray := if s.size < 4294967281 ∧ 1 ≤ old.size ∧ s.size + Lib.countB s old * new.size ≤ 140737488355328 then some (replB s old new) else none
theorem PC.replaceAll {P : Program} {f : FuncId} {g : Nat} (hok : okFn P f = true) (hg : P.globalNamed "internal/bytealg.MaxLen" = some g)
  (h1 : ∀ (s old new : ByteArray) (m : Int) (w : World), s.size < 4294967281 → w.cell? ⟨g, 0, none⟩ = some (.int .i64 m) → 1 ≤ old.size → s.size + Lib.countB s old * new.size ≤ 140737488355328 → Calls P f #[.string s, .string old, .string new] w fun e w' => e = .returned (.string ⟨(Lib.replaceAll s.data.toList old.data.toList new.data.toList).toArray⟩) ∧ Below w.heap.size w w')
  (s old new r : ByteArray) (hr : replL s old new = some r) : PC P f [str s, str old, str new] (str r) := by
 unfold replL at hr
 split at hr
 ·rename_i hl
  cases hr
  refine PC.flatR hok (fun _ _ => .lit _ rfl) (fun w pub vals hgp hpub hlen hrep => ?_)
  match vals, hlen, hrep with
  | [u, v, x], _, hrep =>
   obtain rfl := lit_val (hrep 0 _ u rfl rfl)
   obtain rfl := lit_val (hrep 1 _ v rfl rfl)
   obtain rfl := lit_val (hrep 2 _ x rfl rfl)
   obtain ⟨m, hm⟩ := hgp.maxLen g hg
   exact h1 s old new m w hl.1 hm hl.2.1 hl.2.2
 ·cases hr
/-! ### strings.Cut, strings.CutPrefix -/
def cutL (s sep : ByteArray) : Option (ByteArray × ByteArray × Bool) := if s.size < 4294967281 then some (⟨(Lib.cut s.data.toList sep.data.toList).1.toArray⟩, ⟨(Lib.cut s.data.toList sep.data.toList).2.1.toArray⟩, (Lib.cut s.data.toList sep.data.toList).2.2) else none
theorem PC.cut {P : Program} {f : FuncId} {g : Nat} (hok : okFn P f = true) (hg : P.globalNamed "internal/bytealg.MaxLen" = some g)
  (h1 : ∀ (s sep : ByteArray) (m : Int) (w : World), s.size < 4294967281 → w.cell? ⟨g, 0, none⟩ = some (.int .i64 m) → Calls P f #[.string s, .string sep] w fun e w' => e = .returned (.tuple #[.string ⟨(Lib.cut s.data.toList sep.data.toList).1.toArray⟩, .string ⟨(Lib.cut s.data.toList sep.data.toList).2.1.toArray⟩, .bool (Lib.cut s.data.toList sep.data.toList).2.2]) ∧ ∃ n, w' = w.drewN n)
  (s sep : ByteArray) (r : ByteArray × ByteArray × Bool) (hr : cutL s sep = some r) : PC P f [str s, str sep] (.tuple [str r.1, str r.2.1, bool r.2.2]) := by
 unfold cutL at hr
 split at hr
 ·rename_i hl
  cases hr
  refine PC.flatR hok (fun _ _ => rep_tuple3 (.lit _ rfl) (.lit _ rfl) (.lit _ rfl)) (fun w pub vals hgp hpub hlen hrep => ?_)
  match vals, hlen, hrep with
  | [u, v], _, hrep =>
   obtain rfl := lit_val (hrep 0 _ u rfl rfl)
   obtain rfl := lit_val (hrep 1 _ v rfl rfl)
   obtain ⟨m, hm⟩ := hgp.maxLen g hg
   refine (h1 s sep m w hl hm).mono ?_
   rintro e w' ⟨rfl, n, rfl⟩
   exact ⟨rfl, below_drewN w n⟩
 ·cases hr
def cutPL (s p : ByteArray) : Option (ByteArray × Bool) := some (⟨(Lib.trimPrefix s.data.toList p.data.toList).toArray⟩, Lib.hasPrefix s.data.toList p.data.toList)
/-! ### strconv.Atoi: the number, and whether there is an error -/
def atoiV (l : List UInt8) : Int × Bool := match Lib.atoiAll l with
 | .ok v => (v, false)
 | Go.Lib.NumEnd.syntax => (0, true)
 | .range => (Lib.atoiSat l, true)
def atoiL (s : ByteArray) : Option (Int × Bool) := if s.size ≤ 281474976710656 then some (atoiV s.data.toList) else none
/-! ### Bytes of a string, as a slice of one's own -/
def bytesO (b : ByteArray) : Option (List Int) := if b.size ≤ 140737488355328 then some (bytesL b) else none
theorem bytesO_spec {b : ByteArray} {r : List Int} (h : bytesO b = some r) : b.size ≤ 140737488355328 ∧ r = bytesL b := by
 unfold bytesO at h
 split at h
 ·rename_i hh; exact ⟨hh, (Option.some.inj h).symm⟩
 ·cases h
theorem bytesL_len (b : ByteArray) : (bytesL b).length = b.size := by
 unfold bytesL
 rw [List.length_map, Array.length_toList]
 rfl
section
variable {P : Program} {N : Nat} {all : Array Oper} {F : Nat → Foot} {i : Nat} {rest : List Oper} {S M : List (Nat × PV)} {K : St → Prop} {d : Nat} {ty : TypeId} {pos : String} {after : Array Edge}
theorem X.convSB {t t' e : TypeId} {x : Operand} {b : ByteArray} {r : List Int} (f : Int → PV) (hf : ∀ z, f z = .lit (.int .u8 z)) (hr : bytesO b = some r) (hs : P.underlying t = some .string) (hd' : P.underlying t' = some (.slice e)) (he : P.underlying e = some (.int .u8)) (hlt : Nat.blt e 1099511627776 = true) (hx : evO S x = some (.lit (.string b))) (hm : look M (64 * d) = none) (hd : Nat.ble (d + 1) N = true) (hF : (F i).okB [64 * d] [64 * d] = true)
  (h : SLx P N all F (i + 1) rest (St.of ((d, .own (64 * d) (r.map f).length) :: S) ((64 * d, .obj true (e + 1099511627776) 1 (r.map f)) :: M)) K) : SLx P N all F i (⟨some d, .convert t t' x, ty, pos, after, none⟩ :: rest) (St.of S M) K := by
 obtain ⟨h1, rfl⟩ := bytesO_spec hr
 obtain rfl : f = fun z => .lit (.int .u8 z) := funext hf
 rw [List.length_map, bytesL_len] at h
 exact X.ofOp (v := .own (64 * d) b.size) (U := [(64 * d, .obj true (e + 1099511627776) 1 ((bytesL b).map fun n => .lit (.int .u8 n)))]) (R := [64 * d]) (.convSB t t' e x b hs hd' he (by simpa using hlt) (evO_spec hx) h1 (look_none hm)) hd hF h
end
end Go.Px
namespace Go.Px
set_option linter.unusedSimpArgs false
set_option linter.unusedVariables false

theorem idxL_drop {α : Type} {l : List α} {z : Int} {y : α} {ys : List α} (h0 : 0 ≤ z) (h : l.drop z.toNat = y :: ys) : idxL l z = some y ∧ l.drop (z + 1).toNat = ys := by
 have hlt : z.toNat < l.length := by
  have := congrArg List.length h
  simp only [List.length_drop, List.length_cons] at this; omega
 rw [List.drop_eq_getElem_cons hlt] at h
 injection h with h1 h2
 refine ⟨?_, ?_⟩
 ·simp [idxL, h0, hlt, h1]
 ·rw [show (z + 1).toNat = z.toNat + 1 by omega]; exact h2
theorem idxL_some {α : Type} {l : List α} {z : Int} (h0 : 0 ≤ z) (h : z < l.length) : ∃ y, idxL l z = some y ∧ y ∈ l := by
 have hlt : z.toNat < l.length := by omega
 exact ⟨l[z.toNat], by simp [idxL, h0, hlt], List.getElem_mem _⟩
theorem F0_gt : 9223372036854775808 < F0 := Nat.le_of_ble_eq_true rfl
theorem cond_some {α : Type} (c : Bool) (x y : α) : (bif c then some x else some y) = some (bif c then x else y) := by cases c <;> rfl
theorem cond_and (a b : Bool) : (bif a then b else false) = (a && b) := by cases a <;> rfl
theorem cond_or (a b : Bool) : (bif a then true else b) = (a || b) := by cases a <;> rfl

theorem int_bne (a b : Int) : (a != b) = !decide (a = b) := by by_cases h : a = b <;> simp [h]
theorem int_beq (a b : Int) : (a == b) = decide (a = b) := by by_cases h : a = b <;> simp [h]
theorem bool_bne (a b : Bool) : (a != b) = !decide (a = b) := by by_cases h : a = b <;> simp [h]
theorem ba_beq (a b : ByteArray) : (a == b) = decide (a = b) := by
 show (a.data == b.data) = _
 by_cases h : a = b
 ·subst h; simp
 ·have : a.data ≠ b.data := fun e => h (by cases a; cases b; simp at e; simp [e])
  simp [h, this]
theorem ba_bne (a b : ByteArray) : (a != b) = !decide (a = b) := by rw [bne, ba_beq]

theorem eqLoop {α : Type} [DecidableEq α] {F : List α → Int → Option (Unit ⊕ Bool)} {b : List α} (h0 : ∀ z, F [] z = some (.inl ()))
  (h1 : ∀ x xs z y, idxL b z = some y → F (x :: xs) z = if x = y then F xs (z + 1) else some (.inr false)) :
  ∀ (xs : List α) (z : Int), 0 ≤ z → xs.length = (b.drop z.toNat).length → F xs z = some (if xs = b.drop z.toNat then .inl () else .inr false)
 | [], z, hz, hl => by
  have : b.drop z.toNat = [] := List.eq_nil_of_length_eq_zero hl.symm
  rw [h0, this]; simp
 | x :: xs, z, hz, hl => by
  match hd : b.drop z.toNat with
  | [] => rw [hd] at hl; simp at hl
  | y :: ys =>
   obtain ⟨h2, h3⟩ := idxL_drop hz hd
   rw [h1 x xs z y h2]
   rw [hd] at hl
   by_cases hxy : x = y
   ·rw [if_pos hxy, eqLoop h0 h1 xs (z + 1) (by omega) (by rw [h3]; simpa using hl), h3]
    simp [hxy]
   ·rw [if_neg hxy]; simp [hxy]
theorem eqList {α : Type} [DecidableEq α] {F : List α → Int → Option (Unit ⊕ Bool)} {a b : List α} {G : Option Bool} (h0 : ∀ z, F [] z = some (.inl ()))
  (h1 : ∀ x xs z y, idxL b z = some y → F (x :: xs) z = if x = y then F xs (z + 1) else some (.inr false))
  (hG : G = bif ((a.length : Int) != (b.length : Int)) then some false else sumBind (F a 0) (fun q => some q) fun _ => some true) : G = some (decide (a = b)) := by
 rw [hG]
 by_cases hl : a.length = b.length
 ·have e : ((a.length : Int) != (b.length : Int)) = false := by simp [hl]
  rw [e, cond_false, sumBind, eqLoop h0 h1 a 0 (Int.le_refl _) (by simpa using hl)]
  by_cases hab : a = b <;> simp [hab]
 ·have e : ((a.length : Int) != (b.length : Int)) = true := by simp; omega
  have hab : a ≠ b := fun e => hl (by rw [e])
  rw [e, cond_true]; simp [hab]

theorem fillLoop {α : Type} {F : List α → Int → List α → Option (List α)} {Q : α → Prop} (h0 : ∀ z a, F [] z a = some a)
  (h1 : ∀ x xs z a y, Q x → idxL a z = some y → F (x :: xs) z a = F xs (z + 1) (setL a z x)) :
  ∀ (xs : List α) (z : Int) (a : List α), 0 ≤ z → a.length = z.toNat + xs.length → (∀ x ∈ xs, Q x) → F xs z a = some (a.take z.toNat ++ xs)
 | [], z, a, hz, hl, _ => by rw [h0]; simp at hl; simp [List.take_of_length_le (Nat.le_of_eq hl)]
 | x :: xs, z, a, hz, hl, hQ => by
  have hlt : z < a.length := by simp at hl; omega
  obtain ⟨y, hy, _⟩ := idxL_some hz hlt
  rw [h1 x xs z a y (hQ x (List.mem_cons_self ..)) hy, fillLoop h0 h1 xs (z + 1) _ (by omega) (by simp [setL] at hl ⊢; omega) (fun x hx => hQ x (List.mem_cons_of_mem _ hx))]
  congr 1
  have e : (z + 1).toNat = z.toNat + 1 := by omega
  have hn : z.toNat < a.length := by omega
  rw [e, setL, List.take_add_one, List.getElem?_set_self hn, List.take_set_of_le (Nat.le_refl _)]
  simp
theorem fillList {α : Type} {F : List α → Int → List α → Option (List α)} {Q : α → Prop} {b : List α} {zv : α} {G : Option (List α)} (h0 : ∀ z a, F [] z a = some a)
  (h1 : ∀ x xs z a y, Q x → idxL a z = some y → F (x :: xs) z a = F xs (z + 1) (setL a z x)) (hb : b.length ≤ 1048576) (hQ : ∀ x ∈ b, Q x)
  (hG : G = (makeL zv (b.length : Int)).bind fun v => Option.bind (F b 0 v) fun p => some p) : G = some b := by
 rw [hG]
 have : makeL zv (b.length : Int) = some (List.replicate b.length zv) := by
  unfold makeL
  rw [if_pos (by omega)]; simp
 rw [this, Option.bind_some, fillLoop h0 h1 b 0 _ (Int.le_refl _) (by simp) hQ]
 simp

theorem W_of {n : Int} (h : -9223372036854775808 ≤ n ∧ n ≤ 9223372036854775807) : W n = n := by
 show IntKind.i64.wrap n = n
 rw [IntKind.wrap_i64]; omega
def SzOk {α : Type} (sz : α → Int → Option Int) (Q : α → Prop) (x : α) : Prop := ∀ n, 0 ≤ n → n ≤ 1048576 → ∃ m, sz x n = some m ∧ (m < 0 ∨ (m ≤ n ∧ Q x))
theorem szLoop {α : Type} {F : List α → Int → Int → Option (Int ⊕ Int)} {sz : α → Int → Option Int} {Q : α → Prop} (h0 : ∀ z n, F [] z n = some (.inl n))
  (h1 : ∀ x xs z n, F (x :: xs) z n = (sz x n).bind fun v => bif decide (v < 0) then some (.inr (-1)) else F xs (z + 1) v) :
  ∀ (xs : List α) (z n : Int), (∀ x ∈ xs, SzOk sz Q x) → 0 ≤ n → n ≤ 1048576 → F xs z n = some (.inr (-1)) ∨ ∃ m, F xs z n = some (.inl m) ∧ 0 ≤ m ∧ m ≤ n ∧ ∀ x ∈ xs, Q x
 | [], z, n, _, hn, hn2 => .inr ⟨n, h0 z n, hn, Int.le_refl _, by simp⟩
 | x :: xs, z, n, hs, hn, hn2 => by
  obtain ⟨m, hm, hq⟩ := hs x (List.mem_cons_self ..) n hn hn2
  rw [h1, hm, Option.bind_some]
  by_cases hneg : m < 0
  ·left; simp [hneg]
  ·have hq := hq.resolve_left hneg
   have e : decide (m < 0) = false := by simpa using hneg
   rw [e, cond_false]
   rcases szLoop h0 h1 xs (z + 1) m (fun x hx => hs x (List.mem_cons_of_mem _ hx)) (by omega) (by omega) with h | ⟨k, hk, hk0, hkm, hQ⟩
   ·exact .inl h
   ·exact .inr ⟨k, hk, hk0, by omega, fun y hy => by
     rcases List.mem_cons.1 hy with rfl | hy
     ·exact hq.2
     ·exact hQ y hy⟩
theorem szList {α : Type} {F : List α → Int → Int → Option (Int ⊕ Int)} {sz : α → Int → Option Int} {G : List α → Int → Option Int} {Q : α → Prop} (b : List α) (h0 : ∀ z n, F [] z n = some (.inl n))
  (h1 : ∀ x xs z n, F (x :: xs) z n = (sz x n).bind fun v => bif decide (v < 0) then some (.inr (-1)) else F xs (z + 1) v)
  (hG : ∀ n, G b n = bif (decide ((W (n - (b.length : Int))) < 0)) then some (-1) else sumBind (F b 0 (W (n - (b.length : Int)))) (fun q => some q) fun p => some p)
  (hb : b.length ≤ 9223372036854775807) (hs : ∀ x ∈ b, SzOk sz Q x) : SzOk G (fun b => b.length ≤ 1048576 ∧ ∀ x ∈ b, Q x) b := by
 intro n hn hn2
 rw [hG, W_of (by omega)]
 by_cases hneg : n - (b.length : Int) < 0
 ·exact ⟨-1, by simp [hneg], .inl (by omega)⟩
 ·have e : decide (n - (b.length : Int) < 0) = false := by simpa using hneg
  rw [e, cond_false]
  rcases szLoop h0 h1 b 0 (n - b.length) hs (by omega) (by omega) with h | ⟨m, hm, hm0, hmn, hQ⟩
  ·exact ⟨-1, by rw [h]; rfl, .inl (by omega)⟩
  ·exact ⟨m, by rw [hm]; rfl, .inr ⟨by omega, by omega, hQ⟩⟩
theorem szFlat {α : Type} {G : List α → Int → Option Int} (b : List α) (hG : ∀ n, G b n = bif (decide ((W (n - (b.length : Int))) < 0)) then some (-1) else some (W (n - (b.length : Int)))) (hb : b.length ≤ 9223372036854775807) :
  SzOk G (fun b => b.length ≤ 1048576) b := by
 intro n hn hn2
 rw [hG, W_of (by omega)]
 by_cases hneg : n - (b.length : Int) < 0
 ·exact ⟨-1, by simp [hneg], .inl (by omega)⟩
 ·have e : decide (n - (b.length : Int) < 0) = false := by simpa using hneg
  rw [e, cond_false]
  exact ⟨_, rfl, .inr ⟨by omega, by omega⟩⟩
theorem szThen {α : Type} {sz : α → Int → Option Int} {Q : α → Prop} {x : α} (h : SzOk sz Q x) {n : Int} (h0 : 0 ≤ n) (h1 : n ≤ 1048576) {K : Int → Option Int} {R : Prop}
  (hk : ∀ m, 0 ≤ m → m ≤ n → Q x → ∃ k, K m = some k ∧ (k < 0 ∨ (k ≤ m ∧ R))) :
  ∃ k, ((sz x n).bind fun v => bif (decide (v < 0)) then some (-1) else K v) = some k ∧ (k < 0 ∨ (k ≤ n ∧ Q x ∧ R)) := by
 obtain ⟨m, hm, hq⟩ := h n h0 h1
 rw [hm, Option.bind_some]
 by_cases hneg : m < 0
 ·exact ⟨-1, by simp [hneg], .inl (by omega)⟩
 ·have hq := hq.resolve_left hneg
  have e : decide (m < 0) = false := by simpa using hneg
  rw [e, cond_false]
  obtain ⟨k, hk1, hk2⟩ := hk m (by omega) hq.1 hq.2
  exact ⟨k, hk1, hk2.imp id fun ⟨a, b⟩ => ⟨by omega, hq.2, b⟩⟩
theorem szEnd {m : Int} (h : 0 ≤ m) : ∃ k, some m = some k ∧ (k < 0 ∨ (k ≤ m ∧ True)) := ⟨m, rfl, .inr ⟨Int.le_refl _, trivial⟩⟩
theorem szStr {s : ByteArray} (hs : s.size ≤ 9223372036854775807) {n : Int} (h0 : 0 ≤ n) (h1 : n ≤ 1048576) {K : Int → Option Int} {R : Prop}
  (hk : ∀ m, 0 ≤ m → m ≤ n → s.size ≤ 1048576 → ∃ k, K m = some k ∧ (k < 0 ∨ (k ≤ m ∧ R))) :
  ∃ k, (bif (decide ((W (n - (s.size : Int))) < 0)) then some (-1) else K (W (n - (s.size : Int)))) = some k ∧ (k < 0 ∨ (k ≤ n ∧ s.size ≤ 1048576 ∧ R)) := by
 rw [W_of (by omega)]
 by_cases hneg : n - (s.size : Int) < 0
 ·exact ⟨-1, by simp [hneg], .inl (by omega)⟩
 ·have e : decide (n - (s.size : Int) < 0) = false := by simpa using hneg
  rw [e, cond_false]
  obtain ⟨k, hk1, hk2⟩ := hk (n - (s.size : Int)) (by omega) (by omega) (by omega)
  exact ⟨k, hk1, hk2.imp id fun ⟨a, b⟩ => ⟨by omega, by omega, b⟩⟩

/-! ### Arguments -/
theorem vals_nil {xs : List PV} (h : Vals [] xs) : xs = [] := by cases xs with | nil => rfl | cons _ _ => exact h.elim
theorem vals_cons {T : Ty} {Ts : List Ty} {xs : List PV} (h : Vals (T :: Ts) xs) : ∃ x ys, xs = x :: ys ∧ Val T x ∧ Vals Ts ys := by
 cases xs with
 | nil => exact h.elim
 | cons x ys => exact ⟨x, ys, rfl, h.1, h.2⟩
theorem dec_int {p : PV} (h : Val .int p) : ∃ n : Int, p = int n := by obtain ⟨n, e, _⟩ := h; exact ⟨n, e⟩
theorem dec_bool {p : PV} (h : Val .bool p) : ∃ n : Bool, p = bool n := h
theorem dec_str {p : PV} (h : Val .str p) : ∃ n : ByteArray, p = str n ∧ n.size ≤ 9223372036854775807 := h
theorem dec_slice {T : Ty} {α : Type} {f : α → PV} {B : α → Prop} (hf : ∀ p, Val T p → ∃ x, p = f x ∧ B x) {p : PV} (h : Val (.slice T) p) : ∃ l : List α, p = .slice (l.map f) ∧ l.length ≤ 9223372036854775807 ∧ ∀ x ∈ l, B x := by
 obtain ⟨l, rfl, h1, h2⟩ := h
 have : ∃ k : List α, l = k.map f ∧ ∀ x ∈ k, B x := by
  clear h1
  induction l with
  | nil => exact ⟨[], rfl, by simp⟩
  | cons x l ih =>
   obtain ⟨k, h3, h4⟩ := ih fun y hy => h2 y (List.mem_cons_of_mem _ hy)
   obtain ⟨y, h5, h6⟩ := hf x (h2 x (List.mem_cons_self ..))
   exact ⟨y :: k, by simp [h3, h5], fun z hz => by
    rcases List.mem_cons.1 hz with rfl | hz
    ·exact h6
    ·exact h4 z hz⟩
 obtain ⟨k, rfl, h4⟩ := this
 exact ⟨k, rfl, by simpa using h1, h4⟩
end Go.Px
namespace Go.Px
set_option linter.unusedSimpArgs false
set_option linter.unusedVariables false

def mkL {α : Type} (c : Nat) (up : Int → α → α) : Int → List α → List α
 | _, [] => []
 | k, x :: xs => up k x :: mkL c up (k + c) xs
def MkOk {α : Type} (f : α → Int → Option Int) (B : Nat) (x : α) : Prop := ∀ k : Int, 0 ≤ k → k + B ≤ 9223372036854775807 → ∃ k', f x k = some k' ∧ k ≤ k' ∧ k' ≤ k + B
theorem markK {α : Type} {L1 : List α → Int → Int → Option Int} {e : Nat} {Q : α → Prop} (h0 : ∀ z k : Int, L1 [] z k = some k)
  (hs : ∀ (x : α) (xs : List α) (z k : Int), Q x → 0 ≤ k → k + e ≤ 9223372036854775807 → ∃ k', k ≤ k' ∧ k' ≤ k + e ∧ L1 (x :: xs) z k = L1 xs (z + 1) k') :
  ∀ (l : List α) (z k : Int), (∀ x ∈ l, Q x) → 0 ≤ k → k + e * l.length ≤ 9223372036854775807 → ∃ k', L1 l z k = some k' ∧ k ≤ k' ∧ k' ≤ k + e * l.length
 | [], z, k, _, _, _ => ⟨k, h0 z k, by omega, by simp⟩
 | x :: xs, z, k, hq, hk, hb => by
  have hm : (e : Int) * ((xs.length + 1 : Nat) : Int) = e * xs.length + e := by rw [Int.natCast_add, Int.mul_add]; simp
  have hm0 : (0 : Int) ≤ (e : Int) * (xs.length : Int) := Int.mul_nonneg (by omega) (by omega)
  simp only [List.length_cons] at hb ⊢
  rw [hm] at hb ⊢
  obtain ⟨k1, h1, h2, h3⟩ := hs x xs z k (hq x (List.mem_cons_self ..)) hk (by omega)
  obtain ⟨k2, h4, h5, h6⟩ := markK h0 hs xs (z + 1) k1 (fun y hy => hq y (List.mem_cons_of_mem _ hy)) (by omega) (by omega)
  exact ⟨k2, by rw [h3, h4], by omega, by omega⟩
theorem MkOk.list {α : Type} {L1 : List α → Int → Int → Option Int} {f : List α → Int → Option Int} {e B : Nat} {Q : α → Prop} (h0 : ∀ z k : Int, L1 [] z k = some k)
  (hs : ∀ (x : α) (xs : List α) (z k : Int), Q x → 0 ≤ k → k + e ≤ 9223372036854775807 → ∃ k', k ≤ k' ∧ k' ≤ k + e ∧ L1 (x :: xs) z k = L1 xs (z + 1) k')
  (hf : ∀ l k, f l k = L1 l 0 k) {l : List α} (hl : l.length ≤ 1048576) (hq : ∀ x ∈ l, Q x) (hB : B = e * 1048576) : MkOk f B l := fun k hk hb => by
 subst hB
 have hle : (e : Int) * (l.length : Int) ≤ e * 1048576 := Int.mul_le_mul_of_nonneg_left (by omega) (by omega)
 rw [Int.natCast_mul] at hb ⊢
 have h20 : ((1048576 : Nat) : Int) = 1048576 := rfl
 rw [h20] at hb ⊢
 obtain ⟨k', h1, h2, h3⟩ := markK h0 hs l 0 k hq hk (by omega)
 exact ⟨k', by rw [hf, h1], h2, by omega⟩
end Go.Px
namespace Go.Px
set_option linter.unusedSimpArgs false
set_option linter.unusedVariables false
theorem strict_ext : ∀ (a b : List Int), a.Pairwise (· < ·) → b.Pairwise (· < ·) → (∀ x, x ∈ a ↔ x ∈ b) → a = b
 | [], [], _, _, _ => rfl
 | [], y :: ys, _, _, h => by have := (h y).2 (List.mem_cons_self ..); cases this
 | x :: xs, [], _, _, h => by have := (h x).1 (List.mem_cons_self ..); cases this
 | x :: xs, y :: ys, ha, hb, h => by
  rw [List.pairwise_cons] at ha hb
  have hxy : x = y := by
   have h1 := (h x).1 (List.mem_cons_self ..)
   have h2 := (h y).2 (List.mem_cons_self ..)
   rcases List.mem_cons.1 h1 with e | e
   ·exact e
   ·rcases List.mem_cons.1 h2 with e2 | e2
    ·exact e2.symm
    ·have a1 := hb.1 x e
     have a2 := ha.1 y e2
     omega
  subst hxy
  congr 1
  refine strict_ext xs ys ha.2 hb.2 (fun z => ⟨fun hz => ?_, fun hz => ?_⟩)
  ·have a1 := ha.1 z hz
   rcases List.mem_cons.1 ((h z).1 (List.mem_cons_of_mem _ hz)) with e | e
   ·omega
   ·exact e
  ·have a1 := hb.1 z hz
   rcases List.mem_cons.1 ((h z).2 (List.mem_cons_of_mem _ hz)) with e | e
   ·omega
   ·exact e
theorem compact_strict (d : Array Int) (hs : ∀ i j, i ≤ j → j < d.size → d[i]! ≤ d[j]!) : ∀ m, m ≤ d.size → (Go.Lib.compactUpTo d m).Pairwise (· < ·) ∧ ∀ x, x ∈ Go.Lib.compactUpTo d m ↔ ∃ j, j < m ∧ d[j]! = x
 | 0, _ => ⟨by simp [Go.Lib.compactUpTo], fun x => by simp [Go.Lib.compactUpTo]⟩
 | m + 1, hm => by
  obtain ⟨h1, h2⟩ := compact_strict d hs m (by omega)
  rw [Go.Lib.compactUpTo_succ]
  cases hk : Go.Lib.keeps d m with
  | false =>
   simp only [Bool.false_eq_true, if_false, List.append_nil]
   refine ⟨h1, fun x => ⟨fun hx => ?_, fun hx => ?_⟩⟩
   ·obtain ⟨j, hj, e⟩ := (h2 x).1 hx
    exact ⟨j, by omega, e⟩
   ·obtain ⟨j, hj, e⟩ := hx
    by_cases hjm : j < m
    ·exact (h2 x).2 ⟨j, hjm, e⟩
    ·have hje : j = m := by omega
     subst hje
     have hkk : ¬ (j = 0 ∨ d[j]! ≠ d[j - 1]!) := of_decide_eq_false hk
     have h0 : j ≠ 0 := fun e => hkk (.inl e)
     have he : d[j]! = d[j - 1]! := Classical.byContradiction fun e => hkk (.inr e)
     exact (h2 x).2 ⟨j - 1, by omega, he ▸ e⟩
  | true =>
   simp only [if_true]
   have hkk : m = 0 ∨ d[m]! ≠ d[m - 1]! := of_decide_eq_true hk
   refine ⟨List.pairwise_append.2 ⟨h1, by simp, fun a ha b hb => ?_⟩, fun x => ⟨fun hx => ?_, fun hx => ?_⟩⟩
   ·simp at hb
    subst hb
    obtain ⟨j, hj, e⟩ := (h2 a).1 ha
    have hmp : m ≠ 0 := by omega
    have hne := hkk.resolve_left hmp
    have a1 := hs j (m - 1) (by omega) (by omega)
    have a2 := hs (m - 1) m (by omega) (by omega)
    omega
   ·rcases List.mem_append.1 hx with hx | hx
    ·obtain ⟨j, hj, e⟩ := (h2 x).1 hx
     exact ⟨j, by omega, e⟩
    ·simp at hx; exact ⟨m, by omega, hx.symm⟩
   ·obtain ⟨j, hj, e⟩ := hx
    by_cases hjm : j < m
    ·exact List.mem_append.2 (.inl ((h2 x).2 ⟨j, hjm, e⟩))
    ·have hje : j = m := by omega
     subst hje
     exact List.mem_append.2 (.inr (by simp [e]))
theorem sortCompact (l : List Int) (hl : l.length < 4611686018427387904) : ∃ s c, sortL l = some s ∧ compactL s = some c ∧ c.Pairwise (· < ·) ∧ (∀ x, x ∈ c ↔ x ∈ l) ∧ c.length ≤ l.length := by
 have hp := List.mergeSort_perm l (fun x y => decide (x ≤ y))
 have hsort : (l.mergeSort fun x y => decide (x ≤ y)).Pairwise (fun a b => a ≤ b) := by
  have := List.pairwise_mergeSort (le := fun x y : Int => decide (x ≤ y)) (fun a b c h1 h2 => by simp at h1 h2 ⊢; omega) (fun a b => by simp; omega) l
  exact this.imp (fun h => by simpa using h)
 generalize hs : (l.mergeSort fun x y => decide (x ≤ y)) = s at hp hsort
 have hd : ∀ i j, i ≤ j → j < s.toArray.size → s.toArray[i]! ≤ s.toArray[j]! := fun i j hij hj => by
  have hj' : j < s.length := by simpa using hj
  have hi' : i < s.length := by omega
  rw [getElem!_pos s.toArray i (by simpa using hi'), getElem!_pos s.toArray j (by simpa using hj')]
  by_cases e : i = j
  ·subst e; exact Int.le_refl _
  ·exact List.pairwise_iff_getElem.1 hsort i j hi' hj' (by omega)
 obtain ⟨h1, h2⟩ := compact_strict s.toArray hd s.length (by simp)
 refine ⟨s, _, by unfold sortL; rw [if_pos hl, hs], rfl, h1, fun x => ?_, ?_⟩
 ·rw [← hp.mem_iff]
  refine (h2 x).trans ⟨fun ⟨j, hj, e⟩ => ?_, fun hx => ?_⟩
  ·rw [getElem!_pos s.toArray j (by simpa using hj)] at e
   rw [← e]; simp
  ·obtain ⟨j, hj, e⟩ := List.getElem_of_mem hx
   exact ⟨j, hj, by rw [getElem!_pos s.toArray j (by simpa using hj)]; simpa using e⟩
 ·have := compactL_le s
  rw [hp.length_eq] at this
  exact this
end Go.Px
