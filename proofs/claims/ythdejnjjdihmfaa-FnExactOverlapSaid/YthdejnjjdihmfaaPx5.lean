/-
  PROVED: turns of the memory: a new block, a store, a publication, an append. Over any program. No condition beyond those that each theorem names.
-/
import Derived.Test.YthdejnjjdihmfaaPx4
namespace Go.Px
set_option linter.unusedSimpArgs false
set_option linter.unusedVariables false
open Go.RowKit

section
variable {N : Nat} {w0 w w' : World} {pub pub' : Nat → Nat → Prop} {V : Nat → Value} {s : St} {a : Act}

theorem MemOk.block_ge {B : Nat} {m : Nat → PV} {v : Value} {p : PV} (h : MemOk pub w V m B v p) (hp : p ≠ .undef) {g : Nat} (hg : blockOf v = some g) : B ≤ g ∧ g < w.heap.size := by
  cases h with
  | undef => exact absurd rfl hp
  | blk x cs g' arr T hv hB hh _ _ _ _ _ =>
    subst hv; simp [blockOf] at hg; subst hg
    exact ⟨hB, by
      rcases Nat.lt_or_ge g' w.heap.size with h | h
      · exact h
      · rw [Array.getElem?_eq_none h] at hh; cases hh⟩
  | obj x e sz l xs hsz hl how _ _ _ =>
    rcases how.2 with ⟨rfl, _⟩ | ⟨g', cap, cur, rfl, hB, hh, _⟩
    · simp [blockOf] at hg
    · simp [blockOf] at hg; subst hg
      exact ⟨hB, by
        rcases Nat.lt_or_ge g' w.heap.size with h | h
        · exact h
        · rw [Array.getElem?_eq_none h] at hh; cases hh⟩

/-- Draws, and new blocks that nobody names, turn nothing. -/
theorem Rel0.world (h : Rel0 N w0 pub V s a w) (hb : Below w.heap.size w w') : Rel0 N w0 pub V s a w' := by
  have hsz : w0.heap.size ≤ w.heap.size := h.below.size
  have t : Tr pub w V s.mem pub w' V s.mem (fun _ => False) :=
    ⟨fun _ _ h => h, fun b o ho => hb.cell (p := ⟨b, o, none⟩) (h.pubLt b o ho), fun _ _ h => h, fun _ _ _ => rfl, fun _ _ => rfl,
     fun n g _ hu hg => ⟨hb.block g ((h.mem n).block_ge hu hg).2, fun _ ho => ho⟩⟩
  exact h.turn t (hb.mono hsz) (fun b o ho => Nat.lt_of_lt_of_le (h.pubLt b o ho) hb.size) (fun _ hn => hn.elim) (fun n k g hne h1 h2 h3 h4 => hne (h.apart n k g h1 h2 h3 h4))

/-- A new block of the call's own, under a name that was free. -/
theorem Rel0.new (h : Rel0 N w0 pub V s a w) (n : Nat) (hn : s.mem n = .undef) (v : Value) (p : PV) (hb : Below w.heap.size w w') (hp : p ≠ .undef)
    (hblk : ∀ g, blockOf v = some g → w.heap.size ≤ g)
    (hok : (Tr pub w V s.mem pub w' (updV V n v) (upd s.mem n p) (fun k => k = n)) → MemOk pub w' (updV V n v) (upd s.mem n p) w0.heap.size v p) :
    Rel0 N w0 pub (updV V n v) { s with mem := upd s.mem n p } a w' := by
  have hsz : w0.heap.size ≤ w.heap.size := h.below.size
  have refs : ∀ q u, RefOk V s.mem q u → RefOk (updV V n v) (upd s.mem n p) q u := by
    intro q u hq
    cases hq with
    | own k j _ x e sz l hm hk hh =>
      have hne : k ≠ n := fun e => by rw [e, hn] at hm; cases hm
      exact .own k j u x e sz l ((upd_ne _ _ hne).trans hm) hk (fun e => (hh e).trans (updV_ne _ _ hne).symm)
    | lptr k off x cs b hm hv =>
      have hne : k ≠ n := fun e => by rw [e, hn] at hm; cases hm
      exact .lptr k off x cs b ((upd_ne _ _ hne).trans hm) ((updV_ne _ _ hne).trans hv)
    | eptr k j i off _ x e sz l hm hk hh =>
      have hne : k ≠ n := fun e => by rw [e, hn] at hm; cases hm
      exact .eptr k j i off u x e sz l ((upd_ne _ _ hne).trans hm) hk (fun e => by rw [updV_ne _ _ hne]; exact hh e)
  have t : Tr pub w V s.mem pub w' (updV V n v) (upd s.mem n p) (fun k => k = n) :=
    ⟨fun _ _ h => h, fun b o ho => hb.cell (p := ⟨b, o, none⟩) (h.pubLt b o ho), refs, fun k hk _ => updV_ne _ _ hk, fun k hk => upd_ne _ _ hk,
     fun k g _ hu hg => ⟨hb.block g ((h.mem k).block_ge hu hg).2, fun _ ho => ho⟩⟩
  refine h.turn t (hb.mono hsz) (fun b o ho => Nat.lt_of_lt_of_le (h.pubLt b o ho) hb.size) (fun k hk => ?_) (fun i k g hne h1 h2 h3 h4 => ?_)
  · subst hk; rw [updV_same, upd_same]; exact hok t
  · by_cases hi : i = n
    · subst hi
      rw [updV_same] at h3
      rw [updV_ne _ _ (Ne.symm hne)] at h4
      rw [upd_ne _ _ (Ne.symm hne)] at h2
      have h5 := ((h.mem k).block_ge h2 h4).2
      have h6 := hblk g h3
      omega
    · by_cases hk : k = n
      · subst hk
        rw [updV_same] at h4
        rw [updV_ne _ _ hne] at h3
        rw [upd_ne _ _ hne] at h1
        have h5 := ((h.mem i).block_ge h1 h3).2
        have h6 := hblk g h4
        omega
      · rw [updV_ne _ _ hi] at h3
        rw [updV_ne _ _ hk] at h4
        rw [upd_ne _ _ hi] at h1
        rw [upd_ne _ _ hk] at h2
        exact hne (h.apart i k g h1 h2 h3 h4)

/-- A name is published, or its content turns in the block where it lies; or (append) it moves to a new block. 'g0': its block ahead. -/
theorem Rel0.touch (h : Rel0 N w0 pub V s a w) (n : Nat) (hn : s.mem n ≠ .undef) (v : Value) (p : PV) (hp : p ≠ .undef)
    (hsize : w.heap.size ≤ w'.heap.size) (hos : w'.os = w.os) (htape : w'.tape = w.tape) (hout : w'.output = w.output)
    (hblocks : ∀ k, k < w.heap.size → blockOf (V n) ≠ some k → w'.heap[k]? = w.heap[k]?)
    (hpub : ∀ b o, pub b o → pub' b o) (hpub' : ∀ b o, pub' b o → pub b o ∨ blockOf v = some b) (hlt : ∀ b, blockOf v = some b → b < w'.heap.size)
    (hcells : ∀ b o, pub b o → w'.cell? ⟨b, o, none⟩ = w.cell? ⟨b, o, none⟩)
    (hv : blockOf v = blockOf (V n) ∨ (∀ b, blockOf v = some b → w.heap.size ≤ b))
    (refs : ∀ q u, RefOk V s.mem q u → RefOk (updV V n v) (upd s.mem n p) q u)
    (hok : (Tr pub w V s.mem pub' w' (updV V n v) (upd s.mem n p) (fun k => k = n)) → MemOk pub' w' (updV V n v) (upd s.mem n p) w0.heap.size v p) :
    Rel0 N w0 pub' (updV V n v) { s with mem := upd s.mem n p } a w' := by
  have other : ∀ k g, k ≠ n → s.mem k ≠ .undef → blockOf (V k) = some g → blockOf v ≠ some g := by
    intro k g hk hu hg hvg
    rcases hv with hv | hv
    · rw [hv] at hvg; exact hk (h.apart k n g hu hn hg hvg)
    · have h1 := hv g hvg
      have h2 := ((h.mem k).block_ge hu hg).2
      omega
  have t : Tr pub w V s.mem pub' w' (updV V n v) (upd s.mem n p) (fun k => k = n) :=
    ⟨hpub, hcells, refs, fun k hk _ => updV_ne _ _ hk, fun k hk => upd_ne _ _ hk,
     fun k g hk hu hg => ⟨hblocks g ((h.mem k).block_ge hu hg).2 (fun e => hk (h.apart k n g hu hn hg e)),
       fun o ho => (hpub' g o ho).resolve_right (other k g hk hu hg)⟩⟩
  have hbel : Below w0.heap.size w w' := ⟨hos, htape, hout, hsize, fun k hk => hblocks k (Nat.lt_of_lt_of_le hk h.below.size) (fun e => by
    have := ((h.mem n).block_ge hn e).1; omega)⟩
  refine h.turn t hbel (fun b o ho => ?_) (fun k hk => ?_) (fun i k g hne h1 h2 h3 h4 => ?_)
  · rcases hpub' b o ho with ho | ho
    · exact Nat.lt_of_lt_of_le (h.pubLt b o ho) hsize
    · exact hlt b ho
  · subst hk; rw [updV_same, upd_same]; exact hok t
  · by_cases hi : i = n
    · subst hi
      rw [updV_same] at h3
      rw [updV_ne _ _ (Ne.symm hne)] at h4
      rw [upd_ne _ _ (Ne.symm hne)] at h2
      exact other k g (Ne.symm hne) h2 h4 h3
    · by_cases hk : k = n
      · subst hk
        rw [updV_same] at h4
        rw [updV_ne _ _ hne] at h3
        rw [upd_ne _ _ hne] at h1
        exact other i g hne h1 h3 h4
      · rw [updV_ne _ _ hi] at h3
        rw [updV_ne _ _ hk] at h4
        rw [upd_ne _ _ hi] at h1
        rw [upd_ne _ _ hk] at h2
        exact hne (h.apart i k g h1 h2 h3 h4)
end
end Go.Px
