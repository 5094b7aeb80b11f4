/-
  PROVED: loops, and splits, in the form in which proofs use them. Over any program. No condition beyond those that each theorem names.
-/
import Derived.Test.YthdejnjjdihmfaaPx21
namespace Go.Px
set_option linter.unusedSimpArgs false
set_option linter.unusedVariables false
open Go.RowKit

/-- A table of footprints. -/
def footOf : List (Nat × (List Nat × List Nat)) → Nat → Foot
  | [], _ => some ([], [])
  | (m, v) :: L, n => bif Nat.beq m n then some v else footOf L n

section
variable {P : Program} {N : Nat} {Q : St → Prop} {k : List Item} {S M : List (Nat × PV)} {all : Array Oper} {F : Nat → Foot} {i : Nat} {rest : List Oper} {d : Nat} {ty : TypeId} {pos : String} {after : Array Edge}

/-- A guard that is not known: both ways; the region's bool is told by cases. -/
theorem X.ifS {op : Op} {g t : Nat} {want b : Bool} {S0 M0 : List (Nat × PV)} {u : Nat} {e1 e0 : Bool} (hg : gslot all g = some t) (hs : look S t = some (.lit (.bool b))) (hd : Nat.ble (d + 1) N = true)
    (h1 : b = want → SLx P N all F i (⟨some d, op, ty, pos, after, none⟩ :: rest) (St.of S M) (Ends N S0 M0 u e1)) (h2 : b = !want → SLx P N all F (i + 1) rest (St.of ((d, .tuple []) :: S) M) (Ends N S0 M0 u e0)) :
    SLx P N all F i (⟨some d, op, ty, pos, after, some (g, want)⟩ :: rest) (St.of S M) (Ends N S0 M0 u (bif b == want then e1 else e0)) := by
  by_cases hb : b = want
  · subst hb
    simp only [beq_self_eq_true, cond_true]
    exact X.gyes hg hs rfl (h1 rfl)
  · have hb' : b = !want := by cases b <;> cases want <;> simp_all
    have : (b == want) = false := by simpa using hb
    simp only [this, cond_false]
    exact X.gno hg hs hb' hd (h2 hb')

theorem X.end {S0 M0 : List (Nat × PV)} {u : Nat} {e : Bool} (hS : AllLook S ((u, .lit (.bool e)) :: S0)) (hM : AllLook M M0) (hr : (((u, PV.lit (.bool e)) :: S0).all fun q => refsB 3 (M0.map (·.1)) q.2) = true) (hrm : (M0.all fun q => refsM (M0.map (·.1)) q.2) = true) :
    SLx P N all F i [] (St.of S M) (Ends N S0 M0 u e) := X.nil (K := Ends N S0 M0 u e) (Weak.sub hS hM hr hrm)

/-- A LOOP: 'b': what the rounds change; 'S0', 'M0': what stays. -/
theorem R.loop {β : Type} {c : Code} (S0 M0 : List (Nat × PV)) (X Y : β → List (Nat × PV) → List (Nat × PV)) (J : Nat → β → Prop) (n0 : Nat) (b0 : β) (hS : AllLook S (X b0 S0)) (hM : AllLook M (Y b0 M0)) (hr : ((X b0 S0).all fun q => refsB 3 ((Y b0 M0).map (·.1)) q.2) = true) (hrm : ((Y b0 M0).all fun q => refsM ((Y b0 M0).map (·.1)) q.2) = true)
    (h0 : J n0 b0) (hrun : ∀ n b, J n b → Run P N Q (.code c :: .again (fun s => ∃ m b', m < n ∧ J m b' ∧ s = St.of (X b' S0) (Y b' M0)) :: k) (St.of (X b S0) (Y b M0))) : Run P N Q (.code (.loop c) :: k) (St.of S M) := by
  refine Run.loop (fun n s => ∃ b, J n b ∧ s = St.of (X b S0) (Y b M0)) n0 (Weak.sub hS hM hr hrm) ⟨b0, h0, rfl⟩ ?_
  rintro n s ⟨b, hJ, rfl⟩
  have := hrun n b hJ
  have e : (fun s => ∃ m b', m < n ∧ J m b' ∧ s = St.of (X b' S0) (Y b' M0)) = (fun s' => ∃ m, m < n ∧ ∃ b, J m b ∧ s' = St.of (X b S0) (Y b M0)) := by
    funext s
    apply propext
    constructor
    · rintro ⟨m, b', h1, h2, h3⟩; exact ⟨m, h1, b', h2, h3⟩
    · rintro ⟨m, h1, b', h2, h3⟩; exact ⟨m, b', h1, h2, h3⟩
  rw [← e]; exact this
theorem R.again {β : Type} {S0 M0 : List (Nat × PV)} {X Y : β → List (Nat × PV) → List (Nat × PV)} {J : Nat → β → Prop} {n : Nat} (m : Nat) (b' : β) (hlt : m < n) (hJ : J m b') (hS : AllLook S (X b' S0)) (hM : AllLook M (Y b' M0)) (hr : ((X b' S0).all fun q => refsB 3 ((Y b' M0).map (·.1)) q.2) = true)
    (hrm : ((Y b' M0).all fun q => refsM ((Y b' M0).map (·.1)) q.2) = true) : Run P N Q (.again (fun s => ∃ m b', m < n ∧ J m b' ∧ s = St.of (X b' S0) (Y b' M0)) :: k) (St.of S M) :=
  Run.again (Weak.sub hS hM hr hrm) ⟨m, b', hlt, hJ, rfl⟩

/-- The end: one result in a slot. -/
theorem R.fin1 {fn : Func} {t : Nat} {v r : PV} (hres : fn.results = #[.tmp t]) (hv : look S t = some v) (hp : v.plain = true) (hr : v = r) : Run P N (Fin P fn r) (.code .ret :: k) (St.of S M) :=
  Run.ret ⟨[v], [v], [], by rw [hres]; exact .tmp t v [] [] (look_slot hv) .nil, .plain v [] [] [] hp .nil, hr⟩
/-- The end: one slice of the call's own. -/
theorem R.fin1o {fn : Func} {t n j e sz : Nat} {x : Bool} {l : List PV} {r : PV} (hres : fn.results = #[.tmp t]) (hv : look S t = some (.own n j)) (hm : look M n = some (.obj x e sz l)) (hj : j = l.length) (hr : .fresh x e sz l = r) : Run P N (Fin P fn r) (.code .ret :: k) (St.of S M) :=
  Run.ret ⟨[.own n j], [.fresh x e sz l], [n], by rw [hres]; exact .tmp t _ [] [] (look_slot hv) .nil, .own n j x e sz l [] [] [] (look_mem hm) hj (by simp) .nil, hr⟩
/-- The end: one nil slice. -/
theorem R.fin1n {fn : Func} {t e sz : Nat} {x : Bool} {r : PV} (hres : fn.results = #[.tmp t]) (hv : look S t = some .nils) (hsz : 0 < sz) (hr : .fresh x e sz [] = r) : Run P N (Fin P fn r) (.code .ret :: k) (St.of S M) :=
  Run.ret ⟨[.nils], [.fresh x e sz []], [], by rw [hres]; exact .tmp t _ [] [] (look_slot hv) .nil, .nils x e sz [] [] [] hsz .nil, hr⟩
end
end Go.Px
