/-
  PROVED: states as lists, and the rules in the form in which proofs use them. Over any program. No condition beyond those that each theorem names.
-/
import Derived.Test.YthdejnjjdihmfaaPx18
namespace Go.Px
set_option linter.unusedSimpArgs false
set_option linter.unusedVariables false
open Go.RowKit

def look : List (Nat × PV) → Nat → Option PV
  | [], _ => none
  | (m, v) :: L, n => bif Nat.beq m n then some v else look L n

def St.of (S M : List (Nat × PV)) : St := ⟨fun t => (look S t).getD .undef, fun n => (look M n).getD .undef⟩

theorem look_upd (S : List (Nat × PV)) (d : Nat) (p : PV) : upd (fun t => (look S t).getD .undef) d p = fun t => (look ((d, p) :: S) t).getD .undef := by
  funext t
  by_cases h : t = d
  · subst h; simp [upd, look]
  · have h2 : Nat.beq d t = false := by
      cases hb : Nat.beq d t with
      | true => exact absurd (Nat.eq_of_beq_eq_true hb).symm h
      | false => rfl
    simp [upd, h, look, h2]
theorem slot_of (S M : List (Nat × PV)) (d : Nat) (p : PV) : upd (St.of S M).slot d p = (St.of ((d, p) :: S) M).slot := look_upd S d p
theorem mem_of (S M : List (Nat × PV)) (d : Nat) (p : PV) : upds (St.of S M).mem [(d, p)] = (St.of S ((d, p) :: M)).mem := look_upd M d p
theorem upds_of (S : List (Nat × PV)) : ∀ (U M : List (Nat × PV)), upds (St.of S M).mem U = (St.of S (U.reverse ++ M)).mem
  | [], M => rfl
  | (n, p) :: U, M => by
    rw [upds, show upd (St.of S M).mem n p = (St.of S ((n, p) :: M)).mem from look_upd M n p, upds_of S U]; simp

def evO (S : List (Nat × PV)) : Operand → Option PV
  | .tmp t => look S t
  | .const (.int k n) => some (.lit (.int k n))
  | .const (.bool b) => some (.lit (.bool b))
  | .const (.string b) => some (.lit (.string b))
  | .const .nilIface => some (.lit .nilIface)
  | .const (.slice none 0 0) => some .nils
  | .func f => some (.fn f [])
  | _ => none
theorem evO_spec {S M : List (Nat × PV)} {x : Operand} {v : PV} (h : evO S x = some v) : (St.of S M).ev x = v := by
  unfold evO at h
  split at h <;> first | (cases h; rfl) | (simp only [St.ev, St.of, h]; rfl) | cases h
theorem look_slot {S M : List (Nat × PV)} {t : Nat} {v : PV} (h : look S t = some v) : (St.of S M).slot t = v := by simp [St.of, h]
theorem look_mem {S M : List (Nat × PV)} {t : Nat} {v : PV} (h : look M t = some v) : (St.of S M).mem t = v := by simp [St.of, h]
theorem look_none {S M : List (Nat × PV)} {t : Nat} (h : look M t = none) : (St.of S M).mem t = .undef := by simp [St.of, h]

def Foot.okB : Foot → List Nat → List Nat → Bool
  | none, _, _ => true
  | some (r, w), R, W => R.all (fun n => r.contains n) && W.all (fun n => w.contains n)
theorem okB_spec {F : Foot} {R : List Nat} {U : List (Nat × PV)} (h : F.okB R (U.map (·.1)) = true) : F.ok R U := by
  match F, h with
  | none, _ => trivial
  | some (r, w), h =>
    simp only [Foot.okB, Bool.and_eq_true, List.all_eq_true, List.contains_eq_mem, decide_eq_true_eq] at h
    exact ⟨h.1, fun q hq => h.2 q.1 (List.mem_map.2 ⟨q, hq, rfl⟩)⟩

/-- Lists of operands. -/
def evL (S : List (Nat × PV)) : List Operand → Option (List PV)
  | [] => some []
  | x :: xs => match evO S x with
    | some v => match evL S xs with
      | some vs => some (v :: vs)
      | none => none
    | none => none
theorem evL_spec {S M : List (Nat × PV)} : ∀ {xs : List Operand} {vs : List PV}, evL S xs = some vs → xs.map (St.of S M).ev = vs
  | [], _, h => by cases h; rfl
  | x :: xs, vs, h => by
    unfold evL at h
    split at h <;> try cases h
    rename_i v hv
    split at h <;> cases h
    rename_i vs' hvs
    rw [List.map_cons, evO_spec hv, evL_spec hvs]

/-- Pure values of operands; the last list: lengths that must agree. -/
def purO (M : List (Nat × PV)) : PV → Option (PV × List Nat × List (Nat × Nat))
  | .lit v => some (.lit v, [], [])
  | .err => some (.err, [], [])
  | .nils => some (.nils, [], [])
  | .slice l => some (.slice l, [], [])
  | .fn f c => some (.fn f c, [], [])
  | .cptr cs o => some (.cptr cs o, [], [])
  | .own n k => match look M n with
    | some (.obj false _ _ l) => some (.slice l, [n], [(k, l.length)])
    | _ => none
  | .lptr n o => match look M n with
    | some (.blk false cs) => some (.cptr cs o, [n], [])
    | _ => none
  | _ => none
def AllEq : List (Nat × Nat) → Prop
  | [] => True
  | (a, b) :: C => a = b ∧ AllEq C
theorem AllEq.app {C C' : List (Nat × Nat)} (h : AllEq (C ++ C')) : AllEq C ∧ AllEq C' := by
  induction C with
  | nil => exact ⟨trivial, h⟩
  | cons q C ih => exact ⟨⟨h.1, (ih h.2).1⟩, (ih h.2).2⟩
def purC (M : List (Nat × PV)) : List PV → Option (List PV × List Nat × List (Nat × Nat))
  | [] => some ([], [], [])
  | p :: ps => match purO M p with
    | some (q, R, C) => match purC M ps with
      | some (qs, R', C') => some (q :: qs, R ++ R', C ++ C')
      | none => none
    | none => none
def purL (M : List (Nat × PV)) : List PV → Option (List PV × List Nat × List (Nat × Nat))
  | [] => some ([], [], [])
  | .agg cs :: ps => match purC M cs with
    | some (q, R, C) => match purL M ps with
      | some (qs, R', C') => some (.agg q :: qs, R ++ R', C ++ C')
      | none => none
    | none => none
  | p :: ps => match purO M p with
    | some (q, R, C) => match purL M ps with
      | some (qs, R', C') => some (q :: qs, R ++ R', C ++ C')
      | none => none
    | none => none
theorem purO_spec {S M : List (Nat × PV)} {p q : PV} {R : List Nat} {C : List (Nat × Nat)} (h : purO M p = some (q, R, C)) (hC : AllEq C) {ps ps' : List PV} {R' : List Nat} (hp : PurL (St.of S M).mem ps ps' R') : PurL (St.of S M).mem (p :: ps) (q :: ps') (R ++ R') := by
  unfold purO at h
  split at h <;> try (cases h; exact .plain _ _ _ _ rfl hp)
  · split at h <;> cases h
    rename_i hm
    exact .own _ _ _ _ _ _ _ _ (look_mem hm) hC.1 hp
  · split at h <;> cases h
    rename_i hm
    exact .lptr _ _ _ _ _ _ (look_mem hm) hp
  · cases h
theorem purC_spec {S M : List (Nat × PV)} : ∀ {ps qs : List PV} {R : List Nat} {C : List (Nat × Nat)}, purC M ps = some (qs, R, C) → AllEq C → PurL (St.of S M).mem ps qs R
  | [], _, _, _, h, _ => by cases h; exact .nil
  | p :: ps, qs, R, C, h, hC => by
    unfold purC at h
    split at h <;> try cases h
    rename_i q R1 C1 h1
    split at h <;> cases h
    rename_i qs' R2 C2 h2
    exact purO_spec h1 hC.app.1 (purC_spec h2 hC.app.2)
theorem purL_spec {S M : List (Nat × PV)} : ∀ {ps qs : List PV} {R : List Nat} {C : List (Nat × Nat)}, purL M ps = some (qs, R, C) → AllEq C → PurL (St.of S M).mem ps qs R
  | [], _, _, _, h, _ => by cases h; exact .nil
  | p :: ps, qs, R, C, h, hC => by
    unfold purL at h
    split at h
    · rename_i heq; cases heq
    · rename_i cs ps0 heq
      cases heq
      split at h <;> try cases h
      rename_i q R1 C1 h1
      split at h <;> cases h
      rename_i qs' R2 C2 h2
      exact .agg _ _ _ _ _ _ (purC_spec h1 hC.app.1) (purL_spec h2 hC.app.2)
    · rename_i p0 ps0 _ heq
      cases heq
      split at h <;> try cases h
      rename_i q R1 C1 h1
      split at h <;> cases h
      rename_i qs' R2 C2 h2
      exact purO_spec h1 hC.app.1 (purL_spec h2 hC.app.2)

/-- Cells taken out, written out. -/
def takeK : Nat → List PV → (List PV → Option PV) → Option PV
  | 0, _, k => k []
  | n + 1, c :: cs, k => takeK n cs fun r => k (c :: r)
  | _ + 1, [], _ => none
def dropK : Nat → List PV → (List PV → Option PV) → Option PV
  | 0, cs, k => k cs
  | n + 1, _ :: cs, k => dropK n cs k
  | _ + 1, [], _ => none
def loadK (g : Bool) (n off : Nat) (cs : List PV) : Option PV :=
  bif g then dropK off cs fun cs' => takeK n cs' fun r => some (.agg r) else dropK off cs fun cs' => match cs' with | c :: _ => some c | [] => none
theorem takeK_spec : ∀ (n : Nat) (cs : List PV) (k : List PV → Option PV) (v : PV), takeK n cs k = some v → n ≤ cs.length ∧ k (cs.take n) = some v
  | 0, cs, k, v, h => ⟨Nat.zero_le _, by simpa [takeK] using h⟩
  | n + 1, [], k, v, h => by cases h
  | n + 1, c :: cs, k, v, h => by
    obtain ⟨h1, h2⟩ := takeK_spec n cs _ v h
    exact ⟨by simp; omega, by simpa using h2⟩
theorem dropK_spec : ∀ (n : Nat) (cs : List PV) (k : List PV → Option PV) (v : PV), dropK n cs k = some v → n ≤ cs.length ∧ k (cs.drop n) = some v
  | 0, cs, k, v, h => ⟨Nat.zero_le _, by simpa [dropK] using h⟩
  | n + 1, [], k, v, h => by cases h
  | n + 1, c :: cs, k, v, h => by
    obtain ⟨h1, h2⟩ := dropK_spec n cs _ v h
    exact ⟨by simp; omega, by simpa using h2⟩
theorem loadK_spec {g : Bool} {n off : Nat} {cs : List PV} {v : PV} (h : loadK g n off cs = some v) : loadPV g n off cs = some v := by
  unfold loadK at h
  unfold loadPV
  cases g with
  | true =>
    simp only [cond_true] at h
    obtain ⟨h1, h2⟩ := dropK_spec _ _ _ _ h
    obtain ⟨h3, h4⟩ := takeK_spec _ _ _ _ h2
    simp only [List.length_drop] at h3
    rw [if_pos rfl, if_pos (by omega)]; exact h4
  | false =>
    simp only [cond_false] at h
    obtain ⟨h1, h2⟩ := dropK_spec _ _ _ _ h
    simp only [Bool.false_eq_true, if_false]
    cases hd : cs.drop off with
    | nil => rw [hd] at h2; cases h2
    | cons c r =>
      rw [hd] at h2
      have : (cs.drop off)[0]? = some c := by rw [hd]; rfl
      rw [List.getElem?_drop] at this
      rw [Nat.add_zero] at this; rw [this]; exact h2

/-- Cells replaced from a place on. -/
def spliceK : Nat → List PV → List PV → (List PV → Option (List PV)) → Option (List PV)
  | 0, cs, [], k => k cs
  | 0, _ :: cs, p :: ps, k => spliceK 0 cs ps fun r => k (p :: r)
  | n + 1, c :: cs, ps, k => spliceK n cs ps fun r => k (c :: r)
  | _, [], _, _ => none
theorem spliceK_spec : ∀ (n : Nat) (cs ps : List PV) (k : List PV → Option (List PV)) (v : List PV), spliceK n cs ps k = some v → n + ps.length ≤ cs.length ∧ k (cs.take n ++ ps ++ cs.drop (n + ps.length)) = some v
  | 0, cs, [], k, v, h => by
    have : spliceK 0 cs [] k = k cs := by cases cs <;> rfl
    rw [this] at h; simpa using h
  | 0, [], p :: ps, k, v, h => by cases h
  | 0, c :: cs, p :: ps, k, v, h => by
    obtain ⟨h1, h2⟩ := spliceK_spec 0 cs ps _ v h
    exact ⟨by simp at h1 ⊢; omega, by simpa using h2⟩
  | n + 1, [], ps, k, v, h => by cases ps <;> cases h
  | n + 1, c :: cs, ps, k, v, h => by
    have e : spliceK (n + 1) (c :: cs) ps k = spliceK n cs ps fun r => k (c :: r) := by cases ps <;> rfl
    rw [e] at h
    obtain ⟨h1, h2⟩ := spliceK_spec n cs ps _ v h
    exact ⟨by simp at h1 ⊢; omega, by rw [show n + 1 + ps.length = n + ps.length + 1 by omega]; simpa using h2⟩

/-- What may be kept in a variable, and the names that it reads. -/
def curO (M : List (Nat × PV)) : PV → Option (List Nat × List (Nat × Nat))
  | .lit _ => some ([], [])
  | .err => some ([], [])
  | .nils => some ([], [])
  | .slice _ => some ([], [])
  | .fn _ _ => some ([], [])
  | .cptr _ _ => some ([], [])
  | .agg _ => some ([], [])
  | .lptr _ _ => some ([], [])
  | .own n k => match look M n with
    | some (.obj _ _ _ l) => some ([n], [(k, l.length)])
    | _ => none
  | _ => none
theorem curO_spec {S M : List (Nat × PV)} {p : PV} {R : List Nat} {C : List (Nat × Nat)} (h : curO M p = some (R, C)) (hC : AllEq C) : Cur (St.of S M).mem p ∧ ∀ j k, p = .own j k → j ∈ R := by
  unfold curO at h
  split at h <;> try (cases h; exact ⟨.plain _ rfl, fun j k e => by cases e⟩)
  · cases h; exact ⟨.agg _, fun j k e => by cases e⟩
  · cases h; exact ⟨.lptr _ _, fun j k e => by cases e⟩
  · split at h <;> cases h
    rename_i hm
    exact ⟨.own _ _ _ _ _ _ (look_mem hm) hC.1, fun j k e => by cases e; simp⟩
  · cases h
end Go.Px
