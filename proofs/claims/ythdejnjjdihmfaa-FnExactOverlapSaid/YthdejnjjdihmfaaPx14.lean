/-
  PROVED: running code on pure states: the rules. Over any program. No condition beyond those that each theorem names.
-/
import Derived.Test.YthdejnjjdihmfaaPx13
namespace Go.Px
set_option linter.unusedSimpArgs false
set_option linter.unusedVariables false
open Go.RowKit

inductive Item where
  | code (c : Code)
  | ops (all : Array Oper) (rest : List Oper)
  | blk (id : Nat)
  | again (J : St → Prop)

/-- What must hold at a place of the code, for what is still to do. -/
def den (P : Program) (N : Nat) (w0 : World) (pub0 : Nat → Nat → Prop) (Q : St → Prop) : List Item → Exit → Act → World → Prop
  | [], .normal, a, w => ∃ s, Q s ∧ Rel N w0 pub0 s a w
  | [], .ret, a, w => ∃ s, Q s ∧ Rel N w0 pub0 s a w
  | [], _, _, _ => False
  | .code c :: k, .normal, a, w => c.wp P (den P N w0 pub0 Q k) a w
  | .code _ :: k, e, a, w => den P N w0 pub0 Q k e a w
  | .ops all rest :: k, .normal, a, w => wpList P all (den P N w0 pub0 Q k) rest a w
  | .ops _ _ :: k, e, a, w => den P N w0 pub0 Q k e a w
  | .blk id :: k, .exit i, a, w => if i = id then den P N w0 pub0 Q k .normal a w else den P N w0 pub0 Q k (.exit i) a w
  | .blk _ :: k, e, a, w => den P N w0 pub0 Q k e a w
  | .again J :: _, .normal, a, w => ∃ s, J s ∧ Rel N w0 pub0 s a w
  | .again _ :: k, e, a, w => den P N w0 pub0 Q k e a w

def Run (P : Program) (N : Nat) (Q : St → Prop) (k : List Item) (s : St) : Prop := ∀ w0 pub0 a w, Rel N w0 pub0 s a w → den P N w0 pub0 Q k .normal a w

/-- A state may forget, and be said otherwise. -/
def Weak (N : Nat) (s s' : St) : Prop := ∀ w0 pub0 a w, Rel N w0 pub0 s a w → Rel N w0 pub0 s' a w

section
variable {P : Program} {N : Nat} {Q : St → Prop} {k : List Item} {s : St}

theorem Run.weak {s' : St} (h : Weak N s s') (hr : Run P N Q k s') : Run P N Q k s := fun w0 pub0 a w hR => hr w0 pub0 a w (h w0 pub0 a w hR)
theorem Weak.trans {s1 s2 s3 : St} (h : Weak N s1 s2) (h' : Weak N s2 s3) : Weak N s1 s3 := fun w0 pub0 a w hR => h' _ _ _ _ (h _ _ _ _ hR)
theorem Weak.refl (s : St) : Weak N s s := fun _ _ _ _ h => h

theorem Run.done (h : Q s) : Run P N Q [] s := fun w0 pub0 a w hR => ⟨s, h, hR⟩
theorem Run.seq {x y : Code} (h : Run P N Q (.code x :: .code y :: k) s) : Run P N Q (.code (.seq x y) :: k) s := fun w0 pub0 a w hR => by
  have := h w0 pub0 a w hR
  refine wp_seq (Code.wp_mono (fun e a w q => ?_) this)
  cases e <;> exact q
theorem Run.skip (h : Run P N Q k s) : Run P N Q (.code .skip :: k) s := fun w0 pub0 a w hR => wp_skip (h w0 pub0 a w hR)
theorem Run.block {id : Nat} {c : Code} (h : Run P N Q (.code c :: .blk id :: k) s) : Run P N Q (.code (.block id c) :: k) s := fun w0 pub0 a w hR => by
  refine wp_block (Code.wp_mono (fun e a w q => ?_) (h w0 pub0 a w hR))
  cases e <;> exact q
theorem Run.blk {id : Nat} (h : Run P N Q k s) : Run P N Q (.blk id :: k) s := fun w0 pub0 a w hR => h w0 pub0 a w hR
theorem Run.cond {c : Operand} {x y : Code} {b : Bool} (hc : s.ev c = .lit (.bool b)) (h1 : b = true → Run P N Q (.code x :: k) s) (h2 : b = false → Run P N Q (.code y :: k) s) : Run P N Q (.code (.cond c x y) :: k) s := fun w0 pub0 a w hR => by
  obtain ⟨pub, V, c1, c2, h⟩ := hR
  have hv := (hc ▸ h.ev c).lit_inv.1
  exact wp_cond_split hv (fun e => h1 e w0 pub0 a w ⟨pub, V, c1, c2, h⟩) (fun e => h2 e w0 pub0 a w ⟨pub, V, c1, c2, h⟩)

def popTo (id : Nat) : List Item → Option (List Item)
  | [] => none
  | .blk i :: k => if id = i then some k else popTo id k
  | _ :: k => popTo id k
theorem den_exit {w0 : World} {pub0 : Nat → Nat → Prop} {id : Nat} {a : Act} {w : World} : ∀ {k k' : List Item}, popTo id k = some k' → den P N w0 pub0 Q k' .normal a w → den P N w0 pub0 Q k (.exit id) a w
  | [], _, h, _ => by cases h
  | .blk i :: k, k', h, hd => by
    simp only [popTo] at h
    simp only [den]
    split at h
    · cases h; rename_i e; rw [if_pos e]; exact hd
    · rename_i e; rw [if_neg e]; exact den_exit h hd
  | .code _ :: k, k', h, hd => den_exit (k := k) h hd
  | .ops _ _ :: k, k', h, hd => den_exit (k := k) h hd
  | .again _ :: k, k', h, hd => den_exit (k := k) h hd
theorem Run.exit {id : Nat} {k' : List Item} (hp : popTo id k = some k') (h : Run P N Q k' s) : Run P N Q (.code (.exit id) :: k) s := fun w0 pub0 a w hR => wp_exit (den_exit hp (h w0 pub0 a w hR))
theorem den_ret {w0 : World} {pub0 : Nat → Nat → Prop} {a : Act} {w : World} : ∀ {k : List Item}, (∃ s, Q s ∧ Rel N w0 pub0 s a w) → den P N w0 pub0 Q k .ret a w
  | [], h => h
  | .blk _ :: k, h => den_ret (k := k) h
  | .code _ :: k, h => den_ret (k := k) h
  | .ops _ _ :: k, h => den_ret (k := k) h
  | .again _ :: k, h => den_ret (k := k) h
theorem Run.ret (h : Q s) : Run P N Q (.code .ret :: k) s := fun w0 pub0 a w hR => wp_ret (den_ret ⟨s, h, hR⟩)
theorem Run.again {J : St → Prop} {s' : St} (hw : Weak N s s') (h : J s') : Run P N Q (.again J :: k) s := fun w0 pub0 a w hR => ⟨s', h, hw _ _ _ _ hR⟩

/-- A LOOP: 'I n s': at the head of a round, 'n' a number that every round lowers. -/
theorem Run.loop {c : Code} (I : Nat → St → Prop) {s' : St} (n : Nat) (hw : Weak N s s') (h0 : I n s') (hr : ∀ n s, I n s → Run P N Q (.code c :: .again (fun s' => ∃ m, m < n ∧ I m s') :: k) s) : Run P N Q (.code (.loop c) :: k) s := fun w0 pub0 a w hR => by
  refine wp_loop_ghost (fun n a w => ∃ s, I n s ∧ Rel N w0 pub0 s a w) n ⟨s', h0, hw _ _ _ _ hR⟩ (fun n a w ⟨s1, hI, hR1⟩ => ?_)
  refine Code.wp_mono (fun e a w q => ?_) (hr n s1 hI w0 pub0 a w hR1)
  cases e with
  | normal =>
    obtain ⟨s2, ⟨m, hm, hI2⟩, hR2⟩ := q
    exact ⟨m, hm, s2, hI2, hR2⟩
  | _ => exact q

theorem Run.region {id : Nat} {l : List Oper} (h : Run P N Q (.ops l.toArray l :: k) s) : Run P N Q (.code (.region id l.toArray false) :: k) s := fun w0 pub0 a w hR => wp_region_lit (h w0 pub0 a w hR)
theorem Run.nil {all : Array Oper} (h : Run P N Q k s) : Run P N Q (.ops all [] :: k) s := fun w0 pub0 a w hR => wpList_nil (h w0 pub0 a w hR)

/-- The state behind an operation. -/
def St.next (s : St) (d : Nat) (p : PV) (U : List (Nat × PV)) : St := ⟨upd s.slot d p, upds s.mem U⟩

theorem Run.op {all : Array Oper} {rest : List Oper} {d : Nat} {op : Op} {ty : TypeId} {pos : String} {after : Array Edge} {p : PV} {U : List (Nat × PV)} {R : List Nat} (ha : AOp P s.ev s.mem d op p U R) (hd : d < N) (h : Run P N Q (.ops all rest :: k) (s.next d p U)) :
    Run P N Q (.ops all (⟨some d, op, ty, pos, after, none⟩ :: rest) :: k) s := fun w0 pub0 a w hR => by
  obtain ⟨v, w', hrun, pub, V, c1, c2, hrel, hv⟩ := ha.sound hR
  have hput := hrel.put d hd hv
  have hk := h w0 pub0 _ _ ⟨pub, V, c1, c2, hput⟩
  refine wpList_plain rfl fun K hK => ?_
  unfold Oper.wp
  rcases hrun (some d) ty pos after none with h1 | ⟨h1, rfl⟩
  · rw [h1]; exact hK _ _ hk
  · rw [h1]; exact hK _ _ hk
theorem Run.op0 {all : Array Oper} {rest : List Oper} {op : Op} {ty : TypeId} {pos : String} {after : Array Edge} {p : PV} {U : List (Nat × PV)} {R : List Nat} (ha : AOp P s.ev s.mem 0 op p U R) (h : Run P N Q (.ops all rest :: k) ⟨s.slot, upds s.mem U⟩) :
    Run P N Q (.ops all (⟨none, op, ty, pos, after, none⟩ :: rest) :: k) s := fun w0 pub0 a w hR => by
  obtain ⟨v, w', hrun, pub, V, c1, c2, hrel, hv⟩ := ha.sound hR
  have hk := h w0 pub0 _ _ ⟨pub, V, c1, c2, hrel⟩
  refine wpList_plain rfl fun K hK => ?_
  unfold Oper.wp
  rcases hrun none ty pos after none with h1 | ⟨h1, rfl⟩
  · rw [h1]; exact hK _ _ hk
  · rw [h1]; exact hK _ _ hk

/-- The slot of a guard. -/
def gslot (all : Array Oper) (g : Nat) : Option Nat := (all[g]?).bind (·.dst)
theorem yielded_of {all : Array Oper} {g t : Nat} {b : Bool} (hg : gslot all g = some t) {tmps : Array Value} (hv : tmps.getD t Go.undef = .bool b) : yielded all tmps g = some b := by
  unfold gslot at hg
  unfold yielded
  simp only [hg]
  have h1 : tmps[t]?.getD Go.undef = .bool b := by simpa using hv
  cases h2 : tmps[t]? with
  | none => rw [h2] at h1; cases h1
  | some v => rw [h2] at h1; simp at h1; subst h1; simp [h2]

theorem Run.guard {all : Array Oper} {rest : List Oper} {dst : Option Nat} {op : Op} {ty : TypeId} {pos : String} {after : Array Edge} {g t : Nat} {want b : Bool} (hg : gslot all g = some t) (hs : s.slot t = .lit (.bool b))
    (h1 : b = want → Run P N Q (.ops all (⟨dst, op, ty, pos, after, none⟩ :: rest) :: k) s)
    (h2 : b = !want → (∀ d, dst = some d → d < N) ∧ Run P N Q (.ops all rest :: k) (match dst with | some d => s.next d (.tuple []) [] | none => s)) : Run P N Q (.ops all (⟨dst, op, ty, pos, after, some (g, want)⟩ :: rest) :: k) s := fun w0 pub0 a w hR => by
  have hR' := hR
  obtain ⟨pub, V, c1, c2, h⟩ := hR
  have hv := h.slots t
  rw [hs] at hv
  have hv := hv.lit_inv.1
  have hy := yielded_of hg hv
  by_cases hb : b = want
  · have := h1 hb w0 pub0 a w hR'
    simp only [den, wpList] at this ⊢
    have hw1 : Region.wanted ⟨dst, op, ty, pos, after, some (g, want)⟩ (yielded all a.tmps) = true := by simp [Region.wanted, hy, hb]
    have hw2 : Region.wanted ⟨dst, op, ty, pos, after, none⟩ (yielded all a.tmps) = true := rfl
    rw [if_pos hw2] at this
    rw [if_pos hw1]
    exact this
  · have hb' : b = !want := by cases b <;> cases want <;> simp_all
    obtain ⟨hd, hr⟩ := h2 hb'
    have hw1 : Region.wanted ⟨dst, op, ty, pos, after, some (g, want)⟩ (yielded all a.tmps) = false := by simp [Region.wanted, hy]; exact hb
    simp only [den, wpList]
    rw [if_neg (by rw [hw1]; simp)]
    cases dst with
    | none => exact hr w0 pub0 a w hR'
    | some d => exact hr w0 pub0 _ w ⟨pub, V, c1, c2, h.put d (hd d rfl) (.pure (.tuple [] #[] rfl (fun j c hj => by simp at hj)))⟩
/-- A guard whose own operation was passed over. -/
theorem Run.guardU {all : Array Oper} {rest : List Oper} {dst : Option Nat} {op : Op} {ty : TypeId} {pos : String} {after : Array Edge} {g t : Nat} {want : Bool} (hg : gslot all g = some t) (hs : s.slot t = .tuple []) (hd : ∀ d, dst = some d → d < N)
    (hr : Run P N Q (.ops all rest :: k) (match dst with | some d => s.next d (.tuple []) [] | none => s)) : Run P N Q (.ops all (⟨dst, op, ty, pos, after, some (g, want)⟩ :: rest) :: k) s := fun w0 pub0 a w hR => by
  have hR' := hR
  obtain ⟨pub, V, c1, c2, h⟩ := hR
  have hv := h.slots t
  rw [hs] at hv
  obtain ⟨arr, h1, h2, _⟩ := hv.tuple_inv
  have hw1 : Region.wanted ⟨dst, op, ty, pos, after, some (g, want)⟩ (yielded all a.tmps) = false := by
    have hy : yielded all a.tmps g = none := by
      unfold gslot at hg
      unfold yielded
      simp only [hg]
      have h3 : a.tmps[t]?.getD Go.undef = .tuple arr := by simpa using h1
      cases h4 : a.tmps[t]? with
      | none => simp [h4]
      | some v => rw [h4] at h3; simp at h3; subst h3; simp [h4]
    simp [Region.wanted, hy]
  simp only [den, wpList]
  rw [if_neg (by rw [hw1]; simp)]
  cases dst with
  | none => exact hr w0 pub0 a w hR'
  | some d => exact hr w0 pub0 _ w ⟨pub, V, c1, c2, h.put d (hd d rfl) (.pure (.tuple [] #[] rfl (fun j c hj => by simp at hj)))⟩
end
end Go.Px
