/-
  PROVED: a region, step by step, on pure states; and in any order that its edges allow. Over any program. No condition beyond those that each theorem names.
-/
import Derived.Test.YthdejnjjdihmfaaPx15
import Derived.Still
namespace Go.Px
set_option linter.unusedSimpArgs false
set_option linter.unusedVariables false
open Go.RowKit

/-- What a step may read and write of the call's own memory: nothing is asked (none), or two lists of names. -/
abbrev Foot := Option (List Nat × List Nat)
def Foot.ok : Foot → List Nat → List (Nat × PV) → Prop
  | none, _, _ => True
  | some (r, w), R, U => (∀ n ∈ R, n ∈ r) ∧ ∀ q ∈ U, q.1 ∈ w

/-- The yield of a guard. -/
def gyield (all : Array Oper) (s : St) (g : Nat) (b : Option Bool) : Prop :=
  ∃ t, gslot all g = some t ∧ (match b with | some b => s.slot t = .lit (.bool b) | none => s.slot t = .tuple [])

def St.put (s : St) (d : Option Nat) (p : PV) : St :=
  match d with
  | some d => { s with slot := upd s.slot d p }
  | none => s

/-- One step of a region. -/
inductive AStep (P : Program) (N : Nat) (all : Array Oper) (F : Foot) : Oper → St → St → Prop where
  | op (s : St) (d : Nat) (op : Op) (ty : TypeId) (pos : String) (after : Array Edge) (gd : Option (Nat × Bool)) (p : PV) (U : List (Nat × PV)) (R : List Nat) (hg : ∀ g want, gd = some (g, want) → gyield all s g (some want)) (ha : AOp P s.ev s.mem d op p U R) (hd : d < N) (hF : F.ok R U) :
      AStep P N all F ⟨some d, op, ty, pos, after, gd⟩ s ⟨upd s.slot d p, upds s.mem U⟩
  | op0 (s : St) (op : Op) (ty : TypeId) (pos : String) (after : Array Edge) (gd : Option (Nat × Bool)) (p : PV) (U : List (Nat × PV)) (R : List Nat) (hg : ∀ g want, gd = some (g, want) → gyield all s g (some want)) (ha : AOp P s.ev s.mem 0 op p U R) (hF : F.ok R U) :
      AStep P N all F ⟨none, op, ty, pos, after, gd⟩ s ⟨s.slot, upds s.mem U⟩
  | call (s : St) (d : Nat) (fo : Operand) (args : Array Operand) (ats : Array TypeId) (ty : TypeId) (pos : String) (after : Array Edge) (gd : Option (Nat × Bool)) (f : FuncId) (caps ps ps' : List PV) (r p : PV) (R : List Nat) (U : List (Nat × PV)) (n' : Nat)
      (hg : ∀ g want, gd = some (g, want) → gyield all s g (some want)) (hf : s.ev fo = .fn f caps) (hps : args.toList.map s.ev = ps) (hp : PurL s.mem ps ps' R) (hc : PC P f (ps' ++ caps) r) (hr : RecvL (64 * d) [r] [p] U n') (hU : ∀ q ∈ U, s.mem q.1 = .undef) (hd : d < N) (hF : F.ok R U) :
      AStep P N all F ⟨some d, .call { callee := .value fo, args := args, argTypes := ats }, ty, pos, after, gd⟩ s ⟨upd s.slot d p, upds s.mem U⟩
  | skip (s : St) (o : Oper) (g : Nat) (want : Bool) (b : Option Bool) (hgd : o.guard = some (g, want)) (hy : gyield all s g b) (hb : b ≠ some want) (hd : ∀ d, o.dst = some d → d < N) : AStep P N all F o s (s.put o.dst (.tuple []))

section
variable {P : Program} {N : Nat} {Q : St → Prop} {k : List Item} {s s' : St} {all : Array Oper} {w0 : World} {pub0 : Nat → Nat → Prop} {a : Act} {w : World}

theorem gyield_wanted {g : Nat} {want : Bool} {b : Option Bool} (hR : Rel N w0 pub0 s a w) (h : gyield all s g b) {o : Oper} (hgd : o.guard = some (g, want)) : Region.wanted o (yielded all a.tmps) = (b == some want) := by
  obtain ⟨pub, V, c1, c2, hrel⟩ := hR
  obtain ⟨t, ht, hb⟩ := h
  have hv := hrel.slots t
  have hy : yielded all a.tmps g = b := by
    cases b with
    | some b =>
      simp only at hb
      rw [hb] at hv
      exact yielded_of ht hv.lit_inv.1
    | none =>
      simp only at hb
      rw [hb] at hv
      obtain ⟨arr, h1, h2, _⟩ := hv.tuple_inv
      unfold gslot at ht
      unfold yielded
      simp only [ht]
      have h3 : a.tmps[t]?.getD Go.undef = .tuple arr := by simpa using h1
      cases h4 : a.tmps[t]? with
      | none => simp [h4]
      | some v => rw [h4] at h3; simp at h3; subst h3; simp [h4]
  simp [Region.wanted, hgd, hy]

theorem wanted_none {o : Oper} (h : o.guard = none) (y : Nat → Option Bool) : Region.wanted o y = true := by simp [Region.wanted, h]

/-- A step is sound: whatever is to follow holds. -/
theorem AStep.sound {F : Foot} {o : Oper} (h : AStep P N all F o s s') {K : Act → World → Prop} {Q' : Exit → Act → World → Prop} (hK : ∀ a w, Rel N w0 pub0 s' a w → K a w) (hR : Rel N w0 pub0 s a w) :
    (Region.wanted o (yielded all a.tmps) = true ∧ o.wp P a w K Q') ∨ (Region.wanted o (yielded all a.tmps) = false ∧ K (a.put o.dst Go.undef) w) := by
  cases h with
  | op _ d op ty pos after gd p U R hg ha hd hF =>
    refine .inl ⟨?_, ?_⟩
    · cases gd with
      | none => rfl
      | some q => rw [gyield_wanted hR (hg q.1 q.2 rfl) (o := ⟨some d, op, ty, pos, after, some q⟩) rfl]; simp
    · obtain ⟨v, w', hrun, pub, V, c1, c2, hrel, hv⟩ := ha.sound hR
      have hk := hK _ _ ⟨pub, V, c1, c2, hrel.put d hd hv⟩
      unfold Oper.wp
      rcases hrun (some d) ty pos after gd with h1 | ⟨h1, rfl⟩
      · rw [h1]; exact hk
      · rw [h1]; exact hk
  | op0 _ op ty pos after gd p U R hg ha hF =>
    refine .inl ⟨?_, ?_⟩
    · cases gd with
      | none => rfl
      | some q => rw [gyield_wanted hR (hg q.1 q.2 rfl) (o := ⟨none, op, ty, pos, after, some q⟩) rfl]; simp
    · obtain ⟨v, w', hrun, pub, V, c1, c2, hrel, hv⟩ := ha.sound hR
      have hk := hK _ _ ⟨pub, V, c1, c2, hrel⟩
      unfold Oper.wp
      rcases hrun none ty pos after gd with h1 | ⟨h1, rfl⟩
      · rw [h1]; exact hk
      · rw [h1]; exact hk
  | call _ d fo args ats ty pos after gd f caps ps ps' r p R U n' hg hf hps hp hc hr hU hd hF =>
    refine .inl ⟨?_, ?_⟩
    · cases gd with
      | none => rfl
      | some q => rw [gyield_wanted hR (hg q.1 q.2 rfl) (o := ⟨some d, .call { callee := .value fo, args := args, argTypes := ats }, ty, pos, after, some q⟩) rfl]; simp
    · exact call_wp hf hps hp hc hr hU hd hR hK
  | skip _ _ g want b hgd hy hb hd =>
    refine .inr ⟨?_, ?_⟩
    · rw [gyield_wanted hR hy hgd]; simpa using hb
    · refine hK _ _ ?_
      obtain ⟨pub, V, c1, c2, hrel⟩ := hR
      cases hd' : o.dst with
      | none => exact ⟨pub, V, c1, c2, hrel⟩
      | some d => exact ⟨pub, V, c1, c2, hrel.put d (hd d hd') (.pure (.tuple [] #[] rfl (fun j c hj => by simp at hj)))⟩

/-- Steps one behind the other; the first number: the operation's place in the region. -/
def SLx (P : Program) (N : Nat) (all : Array Oper) (F : Nat → Foot) : Nat → List Oper → St → (St → Prop) → Prop
  | _, [], s, K => K s
  | i, o :: l, s, K => ∃ s', AStep P N all (F i) o s s' ∧ SLx P N all F (i + 1) l s' K

theorem SLx.sound {F : Nat → Foot} {Q' : Exit → Act → World → Prop} {KK : St → Prop} (hQ : ∀ s a w, KK s → Rel N w0 pub0 s a w → Q' .normal a w) : ∀ (l : List Oper) (i : Nat) (s : St) (a : Act) (w : World), SLx P N all F i l s KK → Rel N w0 pub0 s a w → wpList P all Q' l a w
  | [], i, s, a, w, h, hR => wpList_nil (hQ s a w h hR)
  | o :: l, i, s, a, w, ⟨s', hs, hl⟩, hR => by
    have := hs.sound (P := P) (K := wpList P all Q' l) (Q' := Q') (fun a w hR' => SLx.sound hQ l (i + 1) s' a w hl hR') hR
    unfold wpList
    rcases this with ⟨h1, h2⟩ | ⟨h1, h2⟩
    · rw [if_pos h1]; exact .inl h2
    · rw [if_neg (by rw [h1]; simp)]; exact h2

theorem Run.reg {id : Nat} {l : List Oper} (h : SLx P N l.toArray (fun _ => none) 0 l s (Run P N Q k)) : Run P N Q (.code (.region id l.toArray false) :: k) s := fun w0 pub0 a w hR =>
  wp_region_lit (SLx.sound (fun s a w hs hR => hs w0 pub0 a w hR) l 0 s a w h hR)

/-! ### Any order -/
theorem upds_comm {m : Nat → PV} {U U' : List (Nat × PV)} (h : ∀ q ∈ U, ∀ q' ∈ U', q.1 ≠ q'.1) : upds (upds m U) U' = upds (upds m U') U := by
  funext j
  by_cases h1 : ∃ q ∈ U, q.1 = j
  · obtain ⟨q, hq, rfl⟩ := h1
    rw [upds_ne (fun q' hq' => Ne.symm (h q hq q' hq'))]
    have : ∀ (m m' : Nat → PV), ∀ (U : List (Nat × PV)), (∃ q' ∈ U, q'.1 = q.1) → upds m U q.1 = upds m' U q.1 := by
      intro m m' U
      induction U generalizing m m' with
      | nil => intro ⟨_, h, _⟩; cases h
      | cons r U ih =>
        intro ⟨q', hq', e⟩
        by_cases hU : ∃ q' ∈ U, q'.1 = q.1
        · exact ih _ _ hU
        · have hr : r.1 = q.1 := by
            rcases List.mem_cons.1 hq' with h | h
            · rw [← h]; exact e
            · exact absurd ⟨q', h, e⟩ hU
          rw [upds, upds, upds_ne (fun q' hq' e => hU ⟨q', hq', e⟩), upds_ne (fun q' hq' e => hU ⟨q', hq', e⟩), ← hr, upd_same, upd_same]
    exact this _ _ _ ⟨q, hq, rfl⟩
  · rw [upds_ne (m := upds m U') (U := U) (fun q hq e => h1 ⟨q, hq, e⟩)]
    have : ∀ (U' : List (Nat × PV)) (m m' : Nat → PV), m j = m' j → upds m U' j = upds m' U' j := by
      intro U'
      induction U' with
      | nil => intro m m' h; exact h
      | cons r U ih =>
        intro m m' h
        refine ih _ _ ?_
        by_cases hj : j = r.1
        · rw [hj, upd_same, upd_same]
        · rw [upd_ne _ _ hj, upd_ne _ _ hj]; exact h
    exact this U' _ _ (upds_ne (fun q hq e => h1 ⟨q, hq, e⟩))

theorem upd_comm {m : Nat → PV} {i j : Nat} {p q : PV} (h : i ≠ j) : upd (upd m i p) j q = upd (upd m j q) i p := by
  funext k
  by_cases h1 : k = i <;> by_cases h2 : k = j <;> simp [upd, h1, h2]
  all_goals (first | (intro e; omega) | omega | skip)
end
end Go.Px
