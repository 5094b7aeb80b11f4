/-
  PROVED: the rules of code, of forgetting and of loops, in the form in which proofs use them. Over any program. No condition beyond those that each theorem names.
-/
import Derived.Test.YthdejnjjdihmfaaPx20
namespace Go.Px
set_option linter.unusedSimpArgs false
set_option linter.unusedVariables false
open Go.RowKit

/-- The references of a value lie among G; 'd': the depth that is looked at. -/
def refsB : Nat → List Nat → PV → Bool
  | _, G, .own n _ => G.contains n
  | _, G, .lptr n _ => G.contains n
  | _, G, .eptr n _ _ _ => G.contains n
  | 0, _, .agg _ => false
  | 0, _, .tuple _ => false
  | d + 1, G, .agg cs => cs.all (refsB d G)
  | d + 1, G, .tuple cs => cs.all (refsB d G)
  | _, _, _ => true
def refsM (G : List Nat) : PV → Bool
  | .blk _ cs => cs.all (refsB 2 G)
  | _ => true

theorem RV.forget {pub : Nat → Nat → Prop} {w : World} {V : Nat → Value} {m m' : Nat → PV} {G : List Nat} (hm : ∀ n ∈ G, m' n = m n) {p : PV} {v : Value} (h : RV pub w V m p v) : ∀ d, refsB d G p = true → RV pub w V m' p v := by
  induction h with
  | undef v => intro d _; exact .undef v
  | pure h => intro d _; exact .pure h
  | ref h =>
    intro d hd
    refine .ref ?_
    cases h with
    | own n k _ x e sz l h1 h2 h3 =>
      have : n ∈ G := by cases d <;> simpa [refsB] using hd
      exact .own n k _ x e sz l ((hm n this).trans h1) h2 h3
    | lptr n off x cs b h1 h2 =>
      have : n ∈ G := by cases d <;> simpa [refsB] using hd
      exact .lptr n off x cs b ((hm n this).trans h1) h2
    | eptr n k i off _ x e sz l h1 h2 h3 =>
      have : n ∈ G := by cases d <;> simpa [refsB] using hd
      exact .eptr n k i off _ x e sz l ((hm n this).trans h1) h2 h3
  | agg cs arr hs hd hc ih =>
    intro d hdd
    cases d with
    | zero => simp [refsB] at hdd
    | succ d =>
      simp only [refsB, List.all_eq_true] at hdd
      exact .agg cs arr hs hd fun j c hj => ih j c hj d (hdd c (List.mem_of_getElem? hj))
  | tuple cs arr hs hc ih =>
    intro d hdd
    cases d with
    | zero => simp [refsB] at hdd
    | succ d =>
      simp only [refsB, List.all_eq_true] at hdd
      exact .tuple cs arr hs fun j c hj => ih j c hj d (hdd c (List.mem_of_getElem? hj))

def memB : Nat → List Nat → Bool
  | _, [] => false
  | n, m :: L => bif Nat.beq m n then true else memB n L
/-- What the second list says, the first says too (of each name the first entry counts). -/
def AllLookD (S : List (Nat × PV)) : List Nat → List (Nat × PV) → Prop
  | _, [] => True
  | seen, (t, v) :: S' => bif memB t seen then AllLookD S seen S' else look S t = some v ∧ AllLookD S (t :: seen) S'
abbrev AllLook (S S' : List (Nat × PV)) : Prop := AllLookD S [] S'
theorem AllLookD.at {S : List (Nat × PV)} : ∀ {S' : List (Nat × PV)} {seen : List Nat}, AllLookD S seen S' → ∀ {t v}, memB t seen = false → look S' t = some v → look S t = some v
  | [], _, _, _, _, _, h => by cases h
  | (u, p) :: S', seen, hA, t, v, hs, h => by
    unfold look at h
    unfold AllLookD at hA
    cases hb : Nat.beq u t with
    | true =>
      rw [hb] at h; simp at h; subst h
      have := Nat.eq_of_beq_eq_true hb; subst this
      rw [hs] at hA
      exact hA.1
    | false =>
      rw [hb] at h
      cases hu : memB u seen with
      | true => rw [hu] at hA; exact AllLookD.at hA hs h
      | false =>
        rw [hu] at hA
        exact AllLookD.at hA.2 (by unfold memB; rw [hb]; exact hs) h
theorem AllLook.at {S S' : List (Nat × PV)} (h : AllLook S S') {t : Nat} {v : PV} (hl : look S' t = some v) : look S t = some v := AllLookD.at h rfl hl
theorem look_mem_key : ∀ {S : List (Nat × PV)} {t : Nat} {v : PV}, look S t = some v → (t, v) ∈ S
  | [], _, _, h => by cases h
  | (u, p) :: S, t, v, h => by
    unfold look at h
    cases hb : Nat.beq u t with
    | true =>
      rw [hb] at h; simp at h; subst h
      have := Nat.eq_of_beq_eq_true hb; subst this
      exact List.mem_cons_self ..
    | false => rw [hb] at h; exact List.mem_cons_of_mem _ (look_mem_key h)
theorem look_of_key : ∀ {S : List (Nat × PV)} {t : Nat}, t ∈ S.map (·.1) → ∃ v, look S t = some v
  | [], _, h => by cases h
  | (u, p) :: S, t, h => by
    unfold look
    cases hb : Nat.beq u t with
    | true => exact ⟨p, rfl⟩
    | false =>
      rw [List.map_cons, List.mem_cons] at h
      rcases h with h | h
      · subst h; simp at hb
      · exact look_of_key h

/-- A state forgets. -/
theorem Weak.sub {N : Nat} {S M S' M' : List (Nat × PV)} (hS : AllLook S S') (hM : AllLook M M') (hr : (S'.all fun q => refsB 3 (M'.map (·.1)) q.2) = true) (hrm : (M'.all fun q => refsM (M'.map (·.1)) q.2) = true) : Weak N (St.of S M) (St.of S' M') := by
  intro w0 pub0 a w ⟨pub, V, c1, c2, h⟩
  have hG : ∀ n ∈ M'.map (·.1), (St.of S' M').mem n = (St.of S M).mem n := fun n hn => by
    obtain ⟨v, hv⟩ := look_of_key hn
    rw [look_mem hv, look_mem (hM.at hv)]
  refine ⟨pub, V, c1, c2, ⟨h.defers, h.size, h.below, h.pubLt, fun t => ?_, fun n => ?_, fun n m g h1 h2 => ?_⟩⟩
  · cases ht : look S' t with
    | none => simp only [St.of, ht]; exact .undef _
    | some v =>
      have h1 := h.slots t
      rw [look_slot (hS.at ht)] at h1
      rw [look_slot ht]
      exact h1.forget hG 3 (List.all_eq_true.1 hr _ (look_mem_key ht))
  · cases hn : look M' n with
    | none => rw [look_none hn]; exact .undef
    | some p =>
      have h1 := h.mem n
      rw [look_mem (hM.at hn)] at h1
      rw [look_mem hn]
      have hrn := List.all_eq_true.1 hrm _ (look_mem_key hn)
      cases h1 with
      | undef => exact .undef
      | blk x cs g arr T hv hB hg hs hp hq hc hr' =>
        simp only [refsM, List.all_eq_true] at hrn
        exact .blk x cs g arr T hv hB hg hs hp hq (fun j c hj => ⟨(hc j c hj).1, (hc j c hj).2.forget hG 2 (hrn c (List.mem_of_getElem? hj))⟩) hr'
      | obj x e sz l xs hsz hl how hp hq hc => exact .obj x e sz l xs hsz hl how hp hq hc
  · have e : ∀ k, (St.of S' M').mem k ≠ .undef → (St.of S M).mem k ≠ .undef := fun k hk => by
      cases hk' : look M' k with
      | none => exact absurd (look_none hk') hk
      | some p => rw [look_mem (hM.at hk')]; rw [look_mem hk'] at hk; exact hk
    exact h.apart n m g (e n h1) (e m h2)

section
variable {P : Program} {N : Nat} {Q : St → Prop} {k : List Item} {S M : List (Nat × PV)}

/-- The beginning of a proof of a contract. -/
def slotsOf : Nat → List PV → List (Nat × PV)
  | _, [] => []
  | i, p :: ps => (i, p) :: slotsOf (i + 1) ps
theorem look_slotsOf : ∀ (ps : List PV) (i t : Nat), look (slotsOf i ps) t = if t < i then none else ps[t - i]?
  | [], i, t => by simp [slotsOf, look]
  | p :: ps, i, t => by
    unfold slotsOf look
    cases hb : Nat.beq i t with
    | true =>
      have := Nat.eq_of_beq_eq_true hb; subst this
      simp
    | false =>
      have hne : i ≠ t := fun e => by subst e; simp at hb
      rw [cond_false, look_slotsOf ps (i + 1) t]
      by_cases h : t < i
      · rw [if_pos h, if_pos (by omega)]
      · rw [if_neg h, if_neg (by omega), show t - i = (t - (i + 1)) + 1 by omega]; simp
theorem PC.start {f : FuncId} {fn : Func} {c : Code} {args : List PV} {r : PV} (hf : P.funcs[f]? = some fn) (hN : fn.ntmps = N) (hb : fn.body = some c) (hok : okFn P f = true) (hn : Nat.ble args.length N = true) (h : Run P N (Fin P fn r) [.code c] (St.of (slotsOf 0 args) [])) : PC P f args r := by
  subst hN
  refine PC.intro hf hb hok (Nat.le_of_ble_eq_true hn) ?_
  have e : (⟨initSlot args, fun _ => .undef⟩ : St) = St.of (slotsOf 0 args) [] := by
    unfold St.of
    congr 1
    funext t
    rw [initSlot_get, look_slotsOf]; simp
  rw [e]; exact h

theorem R.cond {c : Operand} {x y : Code} {b : Bool} (hc : evO S c = some (.lit (.bool b))) (h1 : b = true → Run P N Q (.code x :: k) (St.of S M)) (h2 : b = false → Run P N Q (.code y :: k) (St.of S M)) : Run P N Q (.code (.cond c x y) :: k) (St.of S M) := Run.cond (evO_spec hc) h1 h2
theorem R.condT {c : Operand} {x y : Code} {b : Bool} (hb : b = true) (hc : evO S c = some (.lit (.bool b)) := by rfl) (h1 : Run P N Q (.code x :: k) (St.of S M)) : Run P N Q (.code (.cond c x y) :: k) (St.of S M) := Run.cond (evO_spec hc) (fun _ => h1) (fun h => by rw [hb] at h; cases h)
theorem R.condF {c : Operand} {x y : Code} {b : Bool} (hb : b = false) (hc : evO S c = some (.lit (.bool b)) := by rfl) (h1 : Run P N Q (.code y :: k) (St.of S M)) : Run P N Q (.code (.cond c x y) :: k) (St.of S M) := Run.cond (evO_spec hc) (fun h => by rw [hb] at h; cases h) (fun _ => h1)
theorem R.forget {S' M' : List (Nat × PV)} (hS : AllLook S S') (hM : AllLook M M') (hr : (S'.all fun q => refsB 3 (M'.map (·.1)) q.2) = true) (hrm : (M'.all fun q => refsM (M'.map (·.1)) q.2) = true) (h : Run P N Q k (St.of S' M')) : Run P N Q k (St.of S M) := Run.weak (Weak.sub hS hM hr hrm) h

/-- A region whose ways meet again in one bool. -/
def Ends (N : Nat) (S M : List (Nat × PV)) (t : Nat) (e : Bool) (s : St) : Prop := Weak N s (St.of ((t, .lit (.bool e)) :: S) M)
theorem R.regB {id : Nat} {l : List Oper} (t : Nat) {e : Bool} (h : SLx P N l.toArray (fun _ => none) 0 l (St.of S M) (Ends N S M t e)) (h2 : Run P N Q k (St.of ((t, .lit (.bool e)) :: S) M)) : Run P N Q (.code (.region id l.toArray false) :: k) (St.of S M) := fun w0 pub0 a w hR =>
  wp_region_lit (SLx.sound (fun s a w hs hR => h2 w0 pub0 a w (hs _ _ _ _ hR)) l 0 _ a w h hR)
theorem SLx.mono {all : Array Oper} {F : Nat → Foot} {K K' : St → Prop} (hK : ∀ s, K s → K' s) : ∀ (l : List Oper) (i : Nat) (s : St), SLx P N all F i l s K → SLx P N all F i l s K'
  | [], _, s, h => hK s h
  | _ :: l, i, _, ⟨s', h1, h2⟩ => ⟨s', h1, SLx.mono hK l (i + 1) s' h2⟩
theorem R.drawB {id : Nat} {l : List Oper} (t : Nat) {e : Bool} (F : Nat → Foot) (hm : P.follows .mixedOrders = true) (hB : Region.lexB .any l.toArray = true) (hF : footFrom l.toArray F l.length 0 (Array.replicate l.length false) = true)
    (h : SLx P N l.toArray F 0 l (St.of S M) (Ends N S M t e)) (h2 : Run P N Q k (St.of ((t, .lit (.bool e)) :: S) M)) : Run P N Q (.code (.region id l.toArray true) :: k) (St.of S M) :=
  Run.draw F hm hB hF (SLx.mono (fun s hs w0 pub0 a w hR => h2 w0 pub0 a w (hs _ _ _ _ hR)) l 0 _ h)
theorem X.splitAnd {all : Array Oper} {F : Nat → Foot} {i : Nat} {l : List Oper} {s : St} {S0 M0 : List (Nat × PV)} {t : Nat} (b : Bool) {e : Bool} (h1 : b = true → SLx P N all F i l s (Ends N S0 M0 t e)) (h2 : b = false → SLx P N all F i l s (Ends N S0 M0 t false)) : SLx P N all F i l s (Ends N S0 M0 t (b && e)) := by
  cases b
  · exact h2 rfl
  · exact h1 rfl
theorem X.splitOr {all : Array Oper} {F : Nat → Foot} {i : Nat} {l : List Oper} {s : St} {S0 M0 : List (Nat × PV)} {t : Nat} (b : Bool) {e : Bool} (h1 : b = false → SLx P N all F i l s (Ends N S0 M0 t e)) (h2 : b = true → SLx P N all F i l s (Ends N S0 M0 t true)) : SLx P N all F i l s (Ends N S0 M0 t (b || e)) := by
  cases b
  · exact h1 rfl
  · exact h2 rfl

/-- A pure slice in a variable: published already; a variable of the call's own is published: it stays as it is from then on. -/
theorem R.pubBlk {n : Nat} {cs qs : List PV} {R : List Nat} {C : List (Nat × Nat)} (hm : look M n = some (.blk true cs)) (hp : purC M cs = some (qs, R, C)) (hC : AllEq C) (h : Run P N Q k (St.of S ((n, .blk false qs) :: M))) : Run P N Q k (St.of S M) := by
  refine Run.weak (s' := St.of S ((n, .blk false qs) :: M)) ?_ h
  intro w0 pub0 a w ⟨pub, V, c1, c2, hrel⟩
  have hpur := purC_spec (S := S) hp hC
  have hmn := hrel.mem n
  rw [look_mem hm] at hmn
  generalize hVn : V n = v at hmn
  cases hmn with
  | blk _ _ g arr T hv hB hg hs hpp hq hc hr =>
    have hlen := hpur.length
    have hrep : ∀ (j : Nat) c, qs[j]? = some c → Rep pub w c (arr.getD j Go.undef) := fun j c hj => by
      have hjl : j < cs.length := by rw [← hlen]; exact (List.getElem?_eq_some_iff.1 hj).1
      exact hpur.rep hrel j _ c _ (List.getElem?_eq_getElem hjl) hj (hc j _ (List.getElem?_eq_getElem hjl)).2
    subst hv
    have hlt : g < w.heap.size := (Array.getElem?_eq_some_iff.1 hg).1
    have ht := hrel.touch (pub' := fun b o => pub b o ∨ (b = g ∧ o < arr.size)) (w' := w) n (by rw [look_mem hm]; intro e; cases e) (V n) (.blk false qs) (fun e => by cases e) (Nat.le_refl _) rfl rfl rfl (fun _ _ _ => rfl) (fun b o h => .inl h)
      (fun b o ho => ho.imp id fun h => by rw [hVn, h.1]; rfl) (fun b hb => by rw [hVn] at hb; simp [blockOf] at hb; omega) (fun _ _ _ => rfl) (.inl rfl) (fun q u hq => by rw [updV_self]; exact refs_blk (look_mem hm) hq)
      (fun t => .blk false qs g arr T hVn hB hg (hs.trans hlen.symm) (fun o _ => rfl) (fun _ o ho => .inr ⟨rfl, ho⟩) (fun j c hj => ⟨(hc j _ (List.getElem?_eq_getElem (by rw [← hlen]; exact (List.getElem?_eq_some_iff.1 hj).1))).1, .pure (t.rep (hrep j c hj))⟩) (fun _ j c hj => t.rep (hrep j c hj)))
    rw [updV_self] at ht
    have e : ({ (St.of S M) with mem := upd (St.of S M).mem n (.blk false qs) } : St) = St.of S ((n, .blk false qs) :: M) := by
      have := mem_of S M n (.blk false qs)
      simp only [upds] at this
      rw [this]; rfl
    rw [e] at ht
    exact ⟨_, V, fun b o ho => .inl (c1 b o ho), fun b o ho => ho.elim (c2 b o) (fun h => .inr (by rw [h.1]; exact hB)), ht⟩
end
end Go.Px
