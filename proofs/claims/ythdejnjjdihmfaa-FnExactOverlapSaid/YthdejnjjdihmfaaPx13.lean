/-
  PROVED: contracts of functions over pure values, calls, results. Over any program. No condition beyond those that each theorem names.
-/
import Derived.Test.YthdejnjjdihmfaaPx12
import Derived.Deep.LoopGhost
namespace Go.Px
set_option linter.unusedSimpArgs false
set_option linter.unusedVariables false
open Go.RowKit

/-- What a result is: pure, or memory that the caller owns from now on; the last list: its blocks. -/
inductive RR (pub : Nat → Nat → Prop) (w : World) (B : Nat) : PV → Value → List Nat → Prop where
  | pure (p : PV) (v : Value) (h : Rep pub w p v) : RR pub w B p v []
  | fresh (x : Bool) (e sz : Nat) (l : List PV) (v : Value) (h : MemOk pub w (fun _ => Go.undef) (fun _ => .undef) B v (.obj x e sz l)) : RR pub w B (.fresh x e sz l) v v.ownBlock.toList
  | agg (cs : List PV) (arr : Array Value) (gs : List (List Nat)) (hs : arr.size = cs.length) (hg : gs.length = cs.length) (hd : ∀ (j : Nat) c, cs[j]? = some c → (arr.getD j Go.undef).oneCell' = true)
      (hc : ∀ (j : Nat) c g, cs[j]? = some c → gs[j]? = some g → RR pub w B c (arr.getD j Go.undef) g) : RR pub w B (.agg cs) (.agg arr) gs.flatten
  | tuple (cs : List PV) (arr : Array Value) (gs : List (List Nat)) (hs : arr.size = cs.length) (hg : gs.length = cs.length)
      (hc : ∀ (j : Nat) c g, cs[j]? = some c → gs[j]? = some g → RR pub w B c (arr.getD j Go.undef) g) : RR pub w B (.tuple cs) (.tuple arr) gs.flatten

def okFn (P : Program) (f : FuncId) : Bool :=
  match P.funcs[f]? with
  | some fn => fn.body.isSome && fn.name != "runtime.NumGoroutine"
  | none => false

/-- THE CONTRACT OF A FUNCTION: pure arguments, a pure result. -/
def PC (P : Program) (f : FuncId) (args : List PV) (r : PV) : Prop :=
  okFn P f = true ∧ ∀ (w : World) (pub : Nat → Nat → Prop) (vals : List Value), (∀ b o, pub b o → b < w.heap.size) → vals.length = args.length → (∀ (i : Nat) p v, args[i]? = some p → vals[i]? = some v → Rep pub w p v) →
    Calls P f vals.toArray w fun e w' => ∃ v, e = .returned v ∧ Below w.heap.size w w' ∧ ∃ pub' gs, (∀ b o, pub b o → pub' b o) ∧ (∀ b o, pub' b o → pub b o ∨ w.heap.size ≤ b) ∧ (∀ b o, pub' b o → b < w'.heap.size) ∧ RR pub' w' w.heap.size r v gs ∧ gs.Nodup

/-- A result is taken into the caller's state: what is fresh gets names from n on. -/
inductive RecvL : Nat → List PV → List PV → List (Nat × PV) → Nat → Prop where
  | nil (n : Nat) : RecvL n [] [] [] n
  | plain (n : Nat) (p : PV) (ps ps' : List PV) (U : List (Nat × PV)) (n' : Nat) (hp : p.plain = true) (h : RecvL n ps ps' U n') : RecvL n (p :: ps) (p :: ps') U n'
  | fresh (n : Nat) (x : Bool) (e sz : Nat) (l ps ps' : List PV) (U : List (Nat × PV)) (n' : Nat) (h : RecvL (n + 1) ps ps' U n') : RecvL n (.fresh x e sz l :: ps) (.own n l.length :: ps') ((n, .obj x e sz l) :: U) n'
  | agg (n : Nat) (cs cs' ps ps' : List PV) (U U' : List (Nat × PV)) (n1 n2 : Nat) (hc : RecvL n cs cs' U n1) (h : RecvL n1 ps ps' U' n2) : RecvL n (.agg cs :: ps) (.agg cs' :: ps') (U ++ U') n2
  | tuple (n : Nat) (cs cs' ps ps' : List PV) (U U' : List (Nat × PV)) (n1 n2 : Nat) (hc : RecvL n cs cs' U n1) (h : RecvL n1 ps ps' U' n2) : RecvL n (.tuple cs :: ps) (.tuple cs' :: ps') (U ++ U') n2

theorem RecvL.length {n : Nat} {ps ps' : List PV} {U : List (Nat × PV)} {n' : Nat} (h : RecvL n ps ps' U n') : ps'.length = ps.length := by
  induction h <;> simp_all
theorem RecvL.names {n : Nat} {ps ps' : List PV} {U : List (Nat × PV)} {n' : Nat} (h : RecvL n ps ps' U n') : n ≤ n' ∧ ∀ q ∈ U, n ≤ q.1 ∧ q.1 < n' := by
  induction h with
  | nil n => exact ⟨Nat.le_refl _, fun q hq => by cases hq⟩
  | plain n p ps ps' U n' hp _ ih => exact ih
  | fresh n x e sz l ps ps' U n' _ ih =>
    refine ⟨by omega, fun q hq => ?_⟩
    rcases List.mem_cons.1 hq with h | h
    · subst h; exact ⟨Nat.le_refl _, by have := ih.1; show n < n'; omega⟩
    · have := ih.2 q h; omega
  | agg n cs cs' ps ps' U U' n1 n2 _ _ ih1 ih2 =>
    refine ⟨by omega, fun q hq => ?_⟩
    rcases List.mem_append.1 hq with h | h
    · have := ih1.2 q h; omega
    · have := ih2.2 q h; omega
  | tuple n cs cs' ps ps' U U' n1 n2 _ _ ih1 ih2 =>
    refine ⟨by omega, fun q hq => ?_⟩
    rcases List.mem_append.1 hq with h | h
    · have := ih1.2 q h; omega
    · have := ih2.2 q h; omega

theorem upds_append (m : Nat → PV) (U U' : List (Nat × PV)) : upds m (U ++ U') = upds (upds m U) U' := by
  induction U generalizing m with
  | nil => rfl
  | cons q U ih => exact ih _
theorem upds_ne {m : Nat → PV} {U : List (Nat × PV)} {k : Nat} (h : ∀ q ∈ U, q.1 ≠ k) : upds m U k = m k := by
  induction U generalizing m with
  | nil => rfl
  | cons q U ih =>
    have := h q (List.mem_cons_self ..)
    rw [upds, ih (fun r hr => h r (List.mem_cons_of_mem _ hr)), upd_ne _ _ (Ne.symm this)]

section
variable {P : Program} {N : Nat} {w0 w w' : World} {pub pub' : Nat → Nat → Prop} {V : Nat → Value} {s : St} {a : Act}

/-- The world and what is public go on. -/
theorem Rel0.worldPub (h : Rel0 N w0 pub V s a w) (hb : Below w.heap.size w w') (p1 : ∀ b o, pub b o → pub' b o) (p2 : ∀ b o, pub' b o → pub b o ∨ w.heap.size ≤ b) (p3 : ∀ b o, pub' b o → b < w'.heap.size) :
    Rel0 N w0 pub' V s a w' ∧ ∀ p v, RV pub w V s.mem p v → RV pub' w' V s.mem p v := by
  have hsz : w0.heap.size ≤ w.heap.size := h.below.size
  have t : Tr pub w V s.mem pub' w' V s.mem (fun _ => False) :=
    ⟨p1, fun b o ho => hb.cell (p := ⟨b, o, none⟩) (h.pubLt b o ho), fun _ _ h => h, fun _ _ _ => rfl, fun _ _ => rfl,
     fun n g _ hu hg => by
      have hlt := ((h.mem n).block_ge hu hg).2
      exact ⟨hb.block g hlt, fun o ho => (p2 g o ho).resolve_right (by omega)⟩⟩
  exact ⟨h.turn t (hb.mono hsz) p3 (fun _ hn => hn.elim) (fun n k g hne h1 h2 h3 h4 => hne (h.apart n k g h1 h2 h3 h4)), fun p v hv => t.rv hv⟩

/-- A name for memory that is already there. -/
theorem Rel0.adopt (h : Rel0 N w0 pub V s a w) (n : Nat) (hn : s.mem n = .undef) {v : Value} {x : Bool} {e sz : Nat} {l : List PV} {V' : Nat → Value} {m' : Nat → PV} {B : Nat} (hB : w0.heap.size ≤ B) (hm : MemOk pub w V' m' B v (.obj x e sz l))
    (hap : ∀ k g, s.mem k ≠ .undef → blockOf (V k) = some g → blockOf v = some g → False) :
    Rel0 N w0 pub (updV V n v) { s with mem := upd s.mem n (.obj x e sz l) } a w ∧ ∀ p u, RV pub w V s.mem p u → RV pub w (updV V n v) (upd s.mem n (.obj x e sz l)) p u := by
  have refs : ∀ q u, RefOk V s.mem q u → RefOk (updV V n v) (upd s.mem n (.obj x e sz l)) q u := by
    intro q u hq
    cases hq with
    | own k j _ x e sz l hm hk hh =>
      have hne : k ≠ n := fun e => by rw [e, hn] at hm; cases hm
      exact .own k j u x e sz l ((upd_ne _ _ hne).trans hm) hk (fun e => (hh e).trans (updV_ne _ _ hne).symm)
    | lptr k off x cs b hm hv =>
      have hne : k ≠ n := fun e => by rw [e, hn] at hm; cases hm
      exact .lptr k off x cs b ((upd_ne _ _ hne).trans hm) ((updV_ne _ _ hne).trans hv)
    | eptr k j i off _ x e sz l hm hk hh =>
      have hne : k ≠ n := fun e => by rw [e, hn] at hm; cases hm
      exact .eptr k j i off u x e sz l ((upd_ne _ _ hne).trans hm) hk (fun e => by rw [updV_ne _ _ hne]; exact hh e)
  have t : Tr pub w V s.mem pub w (updV V n v) (upd s.mem n (.obj x e sz l)) (fun k => k = n) :=
    ⟨fun _ _ h => h, fun _ _ _ => rfl, refs, fun k hk _ => updV_ne _ _ hk, fun k hk => upd_ne _ _ hk, fun k g _ hu hg => ⟨rfl, fun _ ho => ho⟩⟩
  refine ⟨h.turn t (Below.refl _ _) h.pubLt (fun k hk => ?_) (fun i k g hne h1 h2 h3 h4 => ?_), fun p u hu => t.rv hu⟩
  · subst hk
    rw [updV_same, upd_same]
    cases hm with
    | obj _ _ _ _ xs hsz hl how hp hq hc =>
      exact .obj x e sz l xs hsz hl ⟨how.1, how.2.imp id fun ⟨g, cap, cur, h1, h2, h3⟩ => ⟨g, cap, cur, h1, Nat.le_trans hB h2, h3⟩⟩ hp hq hc
  · by_cases hi : i = n
    · subst hi
      rw [updV_same] at h3
      rw [updV_ne _ _ (Ne.symm hne)] at h4
      rw [upd_ne _ _ (Ne.symm hne)] at h2
      exact hap k g h2 h4 h3
    · by_cases hk : k = n
      · subst hk
        rw [updV_same] at h4
        rw [updV_ne _ _ hne] at h3
        rw [upd_ne _ _ hne] at h1
        exact hap i g h1 h3 h4
      · rw [updV_ne _ _ hi] at h3
        rw [updV_ne _ _ hk] at h4
        rw [upd_ne _ _ hi] at h1
        rw [upd_ne _ _ hk] at h2
        exact hne (h.apart i k g h1 h2 h3 h4)

theorem MemOk.obj_block {B : Nat} {m : Nat → PV} {v : Value} {x : Bool} {e sz : Nat} {l : List PV} (h : MemOk pub w V m B v (.obj x e sz l)) : blockOf v = v.ownBlock ∧ ∀ g, v.ownBlock = some g → B ≤ g := by
  cases h with
  | obj _ _ _ _ xs hsz hl how hp hq hc =>
    rcases how.2 with ⟨h1, _⟩ | ⟨g, cap, cur, h1, hB, _⟩
    · rw [h1]; exact ⟨rfl, fun g h => by cases h⟩
    · rw [h1]; exact ⟨rfl, fun g' h => by simp [Value.ownBlock] at h; omega⟩

theorem RR.plain_inv {B : Nat} {p : PV} {v : Value} {g : List Nat} (h : RR pub w B p v g) (hp : p.plain = true) : Rep pub w p v := by
  cases h with
  | pure _ _ h => exact h
  | fresh => cases hp
  | agg => cases hp
  | tuple => cases hp
theorem RR.fresh_inv {B : Nat} {x : Bool} {e sz : Nat} {l : List PV} {v : Value} {g : List Nat} (h : RR pub w B (.fresh x e sz l) v g) : MemOk pub w (fun _ => Go.undef) (fun _ => .undef) B v (.obj x e sz l) ∧ g = v.ownBlock.toList := by
  cases h with
  | pure _ _ h => cases h
  | fresh _ _ _ _ _ h => exact ⟨h, rfl⟩
theorem RR.agg_inv {B : Nat} {cs : List PV} {v : Value} {g : List Nat} (h : RR pub w B (.agg cs) v g) : ∃ (arr : Array Value) (gs : List (List Nat)), v = .agg arr ∧ arr.size = cs.length ∧ gs.length = cs.length ∧ (∀ (j : Nat) c, cs[j]? = some c → (arr.getD j Go.undef).oneCell' = true) ∧
    (∀ (j : Nat) c g, cs[j]? = some c → gs[j]? = some g → RR pub w B c (arr.getD j Go.undef) g) ∧ gs.flatten = g := by
  cases h with
  | pure _ _ h =>
    cases h with
    | agg _ arr hs hd hc =>
      refine ⟨arr, List.replicate cs.length [], rfl, hs, by simp, hd, fun j c g hj hg => ?_, by simp⟩
      have : g = [] := by
        simp only [List.getElem?_replicate] at hg
        split at hg <;> simp_all
      subst this; exact .pure _ _ (hc j c hj)
  | agg _ arr gs hs hg hd hc => exact ⟨arr, gs, rfl, hs, hg, hd, hc, rfl⟩
theorem RR.tuple_inv {B : Nat} {cs : List PV} {v : Value} {g : List Nat} (h : RR pub w B (.tuple cs) v g) : ∃ (arr : Array Value) (gs : List (List Nat)), v = .tuple arr ∧ arr.size = cs.length ∧ gs.length = cs.length ∧
    (∀ (j : Nat) c g, cs[j]? = some c → gs[j]? = some g → RR pub w B c (arr.getD j Go.undef) g) ∧ gs.flatten = g := by
  cases h with
  | pure _ _ h =>
    cases h with
    | tuple _ arr hs hc =>
      refine ⟨arr, List.replicate cs.length [], rfl, hs, by simp, fun j c g hj hg => ?_, by simp⟩
      have : g = [] := by
        simp only [List.getElem?_replicate] at hg
        split at hg <;> simp_all
      subst this; exact .pure _ _ (hc j c hj)
  | tuple _ arr gs hs hg hc => exact ⟨arr, gs, rfl, hs, hg, hc, rfl⟩

/-- Results are taken in. 'G': the blocks that names bear already, from B on. -/
theorem RecvL.sound {n : Nat} {ps ps' : List PV} {U : List (Nat × PV)} {n' : Nat} (hr : RecvL n ps ps' U n') : ∀ {V : Nat → Value} {s : St} (_ : Rel0 N w0 pub V s a w) (B : Nat) (_ : w0.heap.size ≤ B) (G : List Nat)
    (_ : ∀ k g, s.mem k ≠ .undef → blockOf (V k) = some g → g < B ∨ g ∈ G) (vs : List Value) (gss : List (List Nat)) (_ : vs.length = ps.length) (_ : gss.length = ps.length)
    (_ : ∀ (i : Nat) p v g, ps[i]? = some p → vs[i]? = some v → gss[i]? = some g → RR pub w B p v g) (_ : gss.flatten.Nodup) (_ : ∀ g ∈ gss.flatten, g ∉ G) (_ : ∀ k, n ≤ k → k < n' → s.mem k = .undef),
    ∃ V', Rel0 N w0 pub V' { s with mem := upds s.mem U } a w ∧ (∀ k g, upds s.mem U k ≠ .undef → blockOf (V' k) = some g → g < B ∨ g ∈ G ++ gss.flatten) ∧ (∀ p v, RV pub w V s.mem p v → RV pub w V' (upds s.mem U) p v) ∧
      ∀ (i : Nat) p v, ps'[i]? = some p → vs[i]? = some v → RV pub w V' (upds s.mem U) p v := by
  induction hr with
  | nil n =>
    intro V s h B hB G hG vs gss hv hg hRR hnd hng hun
    have : gss = [] := List.eq_nil_of_length_eq_zero hg
    subst this
    exact ⟨V, h, fun k g h1 h2 => by simpa using hG k g h1 h2, fun _ _ h => h, fun i p v h => by simp at h⟩
  | plain n p ps ps' U n' hp hr ih =>
    intro V s h B hB G hG vs gss hv hg hRR hnd hng hun
    match vs, gss, hv, hg with
    | v :: vs, g :: gss, hv, hg =>
      have h0 := hRR 0 p v g rfl rfl rfl
      have hrep := h0.plain_inv hp
      simp only [List.flatten_cons] at hnd hng ⊢
      obtain ⟨V', h1, h2, h3, h4⟩ := ih h B hB G hG vs gss (by simpa using hv) (by simpa using hg) (fun i q u g' a1 a2 a3 => hRR (i + 1) q u g' (by simpa using a1) (by simpa using a2) (by simpa using a3)) (List.nodup_append.1 hnd).2.1 (fun g' hg' => hng g' (by simp [hg'])) hun
      refine ⟨V', h1, fun k g' a1 a2 => ?_, h3, fun i q u a1 a2 => ?_⟩
      · rcases h2 k g' a1 a2 with h | h
        · exact .inl h
        · exact .inr (by simp only [List.mem_append] at h ⊢; rcases h with h | h <;> simp [h])
      · cases i with
        | zero => simp at a1 a2; subst a1; subst a2; exact .pure hrep
        | succ i => exact h4 i q u (by simpa using a1) (by simpa using a2)
  | fresh n x e sz l ps ps' U n' hr ih =>
    intro V s h B hB G hG vs gss hv hg hRR hnd hng hun
    match vs, gss, hv, hg with
    | v :: vs, g :: gss, hv, hg =>
      have h0 := hRR 0 _ v g rfl rfl rfl
      obtain ⟨hm, rfl⟩ := h0.fresh_inv
      have hbo := hm.obj_block
      have hnn := hr.names.1
      simp only [List.flatten_cons] at hnd hng ⊢
      obtain ⟨h1, h2⟩ := h.adopt n (hun n (Nat.le_refl _) (by omega)) hB hm (fun k g' a1 a2 a3 => by
        have hgo : g' ∈ v.ownBlock.toList := by rw [← hbo.1, a3]; simp
        rcases hG k g' a1 a2 with h5 | h5
        · have := hbo.2 g' (by rw [← hbo.1]; exact a3); omega
        · exact hng g' (by simp at hgo ⊢; exact .inl hgo) h5)
      obtain ⟨V', h3, h4, h5, h6⟩ := ih h1 B hB (G ++ v.ownBlock.toList) (fun k g' a1 a2 => by
        by_cases hk : k = n
        · subst hk
          rw [updV_same] at a2
          exact .inr (by rw [← hbo.1, a2]; simp)
        · simp only [upd_ne _ _ hk] at a1
          rw [updV_ne _ _ hk] at a2
          rcases hG k g' a1 a2 with h | h
          · exact .inl h
          · exact .inr (by simp [h])) vs gss (by simpa using hv) (by simpa using hg) (fun i q u g' a1 a2 a3 => hRR (i + 1) q u g' (by simpa using a1) (by simpa using a2) (by simpa using a3)) (List.nodup_append.1 hnd).2.1
        (fun g' hg' hgG => by
          rcases List.mem_append.1 hgG with h | h
          · exact hng g' (by simp only [List.mem_append]; exact .inr hg') h
          · exact (List.nodup_append.1 hnd).2.2 g' h g' hg' rfl) (fun k k1 k2 => by simp only [upd_ne _ _ (show k ≠ n by omega)]; exact hun k (by omega) k2)
      refine ⟨V', h3, fun k g' a1 a2 => ?_, fun p u hp => h5 _ _ (h2 _ _ hp), fun i q u a1 a2 => ?_⟩
      · have := h4 k g' a1 a2
        rwa [List.append_assoc] at this
      · cases i with
        | zero =>
          simp at a1 a2; subst a1; subst a2
          exact h5 _ _ (.ref (.own n _ _ x e sz l (upd_same _ _ _) (Nat.le_refl _) (fun _ => (updV_same _ _ _).symm)))
        | succ i => exact h6 i q u (by simpa using a1) (by simpa using a2)
  | agg n cs cs' ps ps' U U' n1 n2 hc hr ihc ih =>
    intro V s h B hB G hG vs gss hv hg hRR hnd hng hun
    match vs, gss, hv, hg with
    | v :: vs, g :: gss, hv, hg =>
      have h0 := hRR 0 _ v g rfl rfl rfl
      obtain ⟨arr, gs, rfl, hs, hgl, hd, hcc, rfl⟩ := h0.agg_inv
      have n1' := hc.names
      have n2' := hr.names
      simp only [List.flatten_cons] at hnd hng ⊢
      obtain ⟨V1, h1, h2, h3, h4⟩ := ihc h B hB G hG arr.toList gs (by simpa using hs) hgl (fun i q u g' a1 a2 a3 => by
        have : arr.getD i Go.undef = u := by rw [Array.getElem?_toList] at a2; simp [a2]
        rw [← this]; exact hcc i q g' a1 a3) (List.nodup_append.1 hnd).1 (fun g' hg' => hng g' (by simp only [List.mem_append]; exact .inl hg')) (fun k k1 k2 => hun k k1 (by omega))
      obtain ⟨V2, h5, h6, h7, h8⟩ := ih h1 B hB (G ++ gs.flatten) h2 vs gss (by simpa using hv) (by simpa using hg) (fun i q u g' a1 a2 a3 => hRR (i + 1) q u g' (by simpa using a1) (by simpa using a2) (by simpa using a3)) (List.nodup_append.1 hnd).2.1
        (fun g' hg' hgG => by
          rcases List.mem_append.1 hgG with h | h
          · exact hng g' (by simp only [List.mem_append]; exact .inr hg') h
          · exact (List.nodup_append.1 hnd).2.2 g' h g' hg' rfl) (fun k k1 k2 => by
          show upds s.mem U k = .undef
          rw [upds_ne (fun q hq => by have := n1'.2 q hq; omega)]; exact hun k (by omega) k2)
      rw [upds_append]
      refine ⟨V2, h5, fun k g' a1 a2 => ?_, fun p u hp => h7 _ _ (h3 _ _ hp), fun i q u a1 a2 => ?_⟩
      · have := h6 k g' a1 a2
        rwa [List.append_assoc] at this
      · cases i with
        | zero =>
          simp at a1 a2; subst a1; subst a2
          have hl := hc.length
          refine .agg cs' arr (hs.trans hl.symm) (fun j c hj => ?_) (fun j c hj => ?_)
          · exact hd j _ (List.getElem?_eq_getElem (by rw [← hl]; exact (List.getElem?_eq_some_iff.1 hj).1))
          · have hlt : j < arr.size := by rw [hs, ← hl]; exact (List.getElem?_eq_some_iff.1 hj).1
            exact h7 _ _ (h4 j c _ hj (by rw [Array.getElem?_toList]; simp [hlt]))
        | succ i => exact h8 i q u (by simpa using a1) (by simpa using a2)
  | tuple n cs cs' ps ps' U U' n1 n2 hc hr ihc ih =>
    intro V s h B hB G hG vs gss hv hg hRR hnd hng hun
    match vs, gss, hv, hg with
    | v :: vs, g :: gss, hv, hg =>
      have h0 := hRR 0 _ v g rfl rfl rfl
      obtain ⟨arr, gs, rfl, hs, hgl, hcc, rfl⟩ := h0.tuple_inv
      have n1' := hc.names
      have n2' := hr.names
      simp only [List.flatten_cons] at hnd hng ⊢
      obtain ⟨V1, h1, h2, h3, h4⟩ := ihc h B hB G hG arr.toList gs (by simpa using hs) hgl (fun i q u g' a1 a2 a3 => by
        have : arr.getD i Go.undef = u := by rw [Array.getElem?_toList] at a2; simp [a2]
        rw [← this]; exact hcc i q g' a1 a3) (List.nodup_append.1 hnd).1 (fun g' hg' => hng g' (by simp only [List.mem_append]; exact .inl hg')) (fun k k1 k2 => hun k k1 (by omega))
      obtain ⟨V2, h5, h6, h7, h8⟩ := ih h1 B hB (G ++ gs.flatten) h2 vs gss (by simpa using hv) (by simpa using hg) (fun i q u g' a1 a2 a3 => hRR (i + 1) q u g' (by simpa using a1) (by simpa using a2) (by simpa using a3)) (List.nodup_append.1 hnd).2.1
        (fun g' hg' hgG => by
          rcases List.mem_append.1 hgG with h | h
          · exact hng g' (by simp only [List.mem_append]; exact .inr hg') h
          · exact (List.nodup_append.1 hnd).2.2 g' h g' hg' rfl) (fun k k1 k2 => by
          show upds s.mem U k = .undef
          rw [upds_ne (fun q hq => by have := n1'.2 q hq; omega)]; exact hun k (by omega) k2)
      rw [upds_append]
      refine ⟨V2, h5, fun k g' a1 a2 => ?_, fun p u hp => h7 _ _ (h3 _ _ hp), fun i q u a1 a2 => ?_⟩
      · have := h6 k g' a1 a2
        rwa [List.append_assoc] at this
      · cases i with
        | zero =>
          simp at a1 a2; subst a1; subst a2
          have hl := hc.length
          refine .tuple cs' arr (hs.trans hl.symm) (fun j c hj => ?_)
          have hlt : j < arr.size := by rw [hs, ← hl]; exact (List.getElem?_eq_some_iff.1 hj).1
          exact h7 _ _ (h4 j c _ hj (by rw [Array.getElem?_toList]; simp [hlt]))
        | succ i => exact h8 i q u (by simpa using a1) (by simpa using a2)
end
end Go.Px
