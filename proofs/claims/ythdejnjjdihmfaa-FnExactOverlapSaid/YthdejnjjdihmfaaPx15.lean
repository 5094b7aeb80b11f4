/-
  PROVED: calls; from code to contracts. Over any program. No condition beyond those that each theorem names.
-/
import Derived.Test.YthdejnjjdihmfaaPx14
namespace Go.Px
set_option linter.unusedSimpArgs false
set_option linter.unusedVariables false
open Go.RowKit

theorem RecvL.cover {n : Nat} {ps ps' : List PV} {U : List (Nat × PV)} {n' : Nat} (h : RecvL n ps ps' U n') : ∀ j, n ≤ j → j < n' → ∃ q ∈ U, q.1 = j := by
  induction h with
  | nil n => intro j h1 h2; omega
  | plain n p ps ps' U n' hp _ ih => exact ih
  | fresh n x e sz l ps ps' U n' _ ih =>
    intro j h1 h2
    by_cases hj : j = n
    · exact ⟨_, List.mem_cons_self .., hj.symm⟩
    · obtain ⟨q, hq, e⟩ := ih j (by omega) h2
      exact ⟨q, List.mem_cons_of_mem _ hq, e⟩
  | agg n cs cs' ps ps' U U' n1 n2 _ _ ih1 ih2 =>
    intro j h1 h2
    by_cases hj : j < n1
    · obtain ⟨q, hq, e⟩ := ih1 j h1 hj
      exact ⟨q, List.mem_append.2 (.inl hq), e⟩
    · obtain ⟨q, hq, e⟩ := ih2 j (by omega) h2
      exact ⟨q, List.mem_append.2 (.inr hq), e⟩
  | tuple n cs cs' ps ps' U U' n1 n2 _ _ ih1 ih2 =>
    intro j h1 h2
    by_cases hj : j < n1
    · obtain ⟨q, hq, e⟩ := ih1 j h1 hj
      exact ⟨q, List.mem_append.2 (.inl hq), e⟩
    · obtain ⟨q, hq, e⟩ := ih2 j (by omega) h2
      exact ⟨q, List.mem_append.2 (.inr hq), e⟩

section
variable {P : Program} {N : Nat} {Q : St → Prop} {k : List Item} {s : St}

theorem okFn_run {f : FuncId} (h : okFn P f = true) (w : World) (args : Array Value) : (callFunc f args).run P w = .ok (.enter f args) w := by
  unfold okFn at h
  split at h
  · rename_i fn hf
    simp only [Bool.and_eq_true, bne_iff_ne, ne_eq] at h
    have hb : ¬ fn.body = none := by cases hbb : fn.body <;> simp_all
    unfold callFunc
    simp [hf, hb, h.2]
  · cases h

/-- A CALL of a function, or of a closure. -/
theorem call_wp {w0 : World} {pub0 : Nat → Nat → Prop} {a : Act} {w : World} {d : Nat} {fo : Operand} {args : Array Operand} {ats : Array TypeId} {ty : TypeId} {pos : String} {after : Array Edge} {gd : Option (Nat × Bool)} {f : FuncId} {caps ps ps' : List PV} {r p : PV} {R : List Nat} {U : List (Nat × PV)} {n' : Nat}
    (hf : s.ev fo = .fn f caps) (hps : args.toList.map s.ev = ps) (hp : PurL s.mem ps ps' R) (hc : PC P f (ps' ++ caps) r) (hr : RecvL (64 * d) [r] [p] U n') (hU : ∀ q ∈ U, s.mem q.1 = .undef) (hd : d < N)
    (hR : Rel N w0 pub0 s a w) {K : Act → World → Prop} {Q' : Exit → Act → World → Prop} (hK : ∀ a w, Rel N w0 pub0 ⟨upd s.slot d p, upds s.mem U⟩ a w → K a w) :
    (⟨some d, .call { callee := .value fo, args := args, argTypes := ats }, ty, pos, after, gd⟩ : Oper).wp P a w K Q' := by
  obtain ⟨pub, V, c1, c2, hrel⟩ := hR
  obtain ⟨hok, hcall⟩ := hc
  obtain ⟨arr, hfv, hsz, hcaps⟩ := (hf ▸ hrel.ev fo).fn_inv
  unfold Oper.wp
  have hrun : (execOp a.eval ⟨some d, .call { callee := .value fo, args := args, argTypes := ats }, ty, pos, after, gd⟩).run P w = .ok (.enter f (args.map a.eval ++ arr)) w := by
    simp [execOp, resolve, hfv, Deferred.ofValue, invoke, okFn_run hok]
  rw [hrun, Oper.upon_enter]
  have hlen := hp.length
  have hvals : (args.map a.eval ++ arr) = ((args.map a.eval).toList ++ arr.toList).toArray := by simp
  rw [hvals]
  refine (hcall w pub ((args.map a.eval).toList ++ arr.toList) hrel.pubLt ?_ ?_).mono ?_
  · have : ps.length = args.size := by rw [← hps]; simp
    simp [hlen, this, hsz]
  · intro i q v h1 h2
    have hpl : ps.length = args.size := by rw [← hps]; simp
    by_cases hi : i < ps'.length
    · rw [List.getElem?_append_left hi] at h1
      rw [List.getElem?_append_left (by simp; omega)] at h2
      have hi' : i < ps.length := by omega
      obtain ⟨x, hx, hrv⟩ := hrel.at_op args.toList i _ (by rw [hps]; exact List.getElem?_eq_getElem hi')
      have hv : v = a.eval x := by
        have hx' : args[i]? = some x := by simpa using hx
        simp [hx'] at h2; exact h2.symm
      subst hv
      exact hp.rep hrel i _ q _ (List.getElem?_eq_getElem hi') h1 hrv
    · rw [List.getElem?_append_right (by omega)] at h1
      rw [List.getElem?_append_right (by simp; omega)] at h2
      have hj : i - ps'.length = i - (args.map a.eval).toList.length := by simp; omega
      rw [← hj] at h2
      have := hcaps _ q h1
      have hv : arr.getD (i - ps'.length) Go.undef = v := by
        rw [Array.getElem?_toList] at h2; simp [h2]
      rw [hv] at this
      exact this
  · rintro e w' ⟨v, rfl, hbel, pub', gs, p1, p2, p3, hRR, hnd⟩
    obtain ⟨hrel2, hmono⟩ := hrel.worldPub hbel p1 p2 p3
    have hs0 := hrel.below.size
    obtain ⟨V', h1, _, _, h4⟩ := hr.sound hrel2 w.heap.size hs0 [] (fun k g a1 a2 => .inl ((hrel.mem k).block_ge a1 a2).2) [v] [gs] rfl rfl (fun i q u g a1 a2 a3 => by
      cases i with
      | zero => simp at a1 a2 a3; subst a1; subst a2; subst a3; exact hRR
      | succ i => simp at a1) (by simpa using hnd) (fun _ _ h => by cases h) (fun j j1 j2 => by
        obtain ⟨q, hq, rfl⟩ := hr.cover j j1 j2
        exact hU q hq)
    have hput := h1.put d hd (h4 0 p v rfl rfl)
    exact hK _ _ ⟨pub', V', fun b o ho => p1 b o (c1 b o ho), fun b o ho => (p2 b o ho).elim (c2 b o) (fun h => .inr (by omega)), hput⟩

/-- What a slot's value is as a result. -/
inductive ResL (m : Nat → PV) : List PV → List PV → List Nat → Prop where
  | nil : ResL m [] [] []
  | plain (p : PV) (ps ps' : List PV) (G : List Nat) (hp : p.plain = true) (h : ResL m ps ps' G) : ResL m (p :: ps) (p :: ps') G
  | own (n k : Nat) (x : Bool) (e sz : Nat) (l ps ps' : List PV) (G : List Nat) (hm : m n = .obj x e sz l) (hk : k = l.length) (hn : n ∉ G) (h : ResL m ps ps' G) : ResL m (.own n k :: ps) (.fresh x e sz l :: ps') (n :: G)
  | nils (x : Bool) (e sz : Nat) (ps ps' : List PV) (G : List Nat) (hsz : 0 < sz) (h : ResL m ps ps' G) : ResL m (.nils :: ps) (.fresh x e sz [] :: ps') G
  | shared (n k e sz : Nat) (l ps ps' : List PV) (G : List Nat) (hm : m n = .obj false e sz l) (hk : k = l.length) (h : ResL m ps ps' G) : ResL m (.own n k :: ps) (.slice l :: ps') G
  | agg (cs cs' ps ps' : List PV) (G G' : List Nat) (hc : ResL m cs cs' G) (hd : ∀ n ∈ G, n ∉ G') (h : ResL m ps ps' G') : ResL m (.agg cs :: ps) (.agg cs' :: ps') (G ++ G')

theorem ResL.length {m : Nat → PV} {ps ps' : List PV} {G : List Nat} (h : ResL m ps ps' G) : ps'.length = ps.length := by
  induction h <;> simp_all

theorem ResL.sound {w0 : World} {pub : Nat → Nat → Prop} {V : Nat → Value} {a : Act} {w : World} (hrel : Rel0 N w0 pub V s a w) {ps ps' : List PV} {G : List Nat} (h : ResL s.mem ps ps' G) : ∀ (vs : List Value), vs.length = ps.length →
    (∀ (i : Nat) p v, ps[i]? = some p → vs[i]? = some v → RV pub w V s.mem p v) → ∃ gss : List (List Nat), gss.length = ps'.length ∧ (∀ (i : Nat) p v g, ps'[i]? = some p → vs[i]? = some v → gss[i]? = some g → RR pub w w0.heap.size p v g) ∧ gss.flatten.Nodup ∧
      ∀ g ∈ gss.flatten, ∃ n ∈ G, s.mem n ≠ .undef ∧ blockOf (V n) = some g := by
  induction h with
  | nil => intro vs hv hrv; exact ⟨[], rfl, fun i p v g h => by simp at h, by simp, fun g h => by simp at h⟩
  | plain p ps ps' G hp _ ih =>
    intro vs hv hrv
    match vs, hv with
    | v :: vs, hv =>
      obtain ⟨gss, h1, h2, h3, h4⟩ := ih vs (by simpa using hv) (fun i q u a1 a2 => hrv (i + 1) q u (by simpa using a1) (by simpa using a2))
      refine ⟨[] :: gss, by simp [h1], fun i q u g a1 a2 a3 => ?_, by simpa using h3, fun g hg => h4 g (by simpa using hg)⟩
      cases i with
      | zero => simp at a1 a2 a3; subst a1; subst a2; subst a3; exact .pure _ _ ((hrv 0 _ _ rfl rfl).plain hp)
      | succ i => exact h2 i q u g (by simpa using a1) (by simpa using a2) (by simpa using a3)
  | own n k x e sz l ps ps' G hm hk hn _ ih =>
    intro vs hv hrv
    match vs, hv with
    | v :: vs, hv =>
      obtain ⟨gss, h1, h2, h3, h4⟩ := ih vs (by simpa using hv) (fun i q u a1 a2 => hrv (i + 1) q u (by simpa using a1) (by simpa using a2))
      obtain ⟨x', e', sz', l', hm', _, hv'⟩ := (hrv 0 _ v rfl rfl).own_inv
      rw [hm] at hm'; cases hm'
      have hmn := hrel.mem n
      rw [hm, ← hv' hk] at hmn
      have hbo := hmn.obj_block
      have hne : s.mem n ≠ .undef := by rw [hm]; intro e; cases e
      refine ⟨v.ownBlock.toList :: gss, by simp [h1], fun i q u g a1 a2 a3 => ?_, ?_, fun g hg => ?_⟩
      · cases i with
        | zero =>
          simp at a1 a2 a3; subst a1; subst a2; subst a3
          refine .fresh x e sz l v ?_
          cases hmn with
          | obj _ _ _ _ xs hsz hl how hp hq hc => exact .obj x e sz l xs hsz hl how hp hq hc
        | succ i => exact h2 i q u g (by simpa using a1) (by simpa using a2) (by simpa using a3)
      · rw [List.flatten_cons]
        refine List.nodup_append.2 ⟨by cases v.ownBlock <;> simp, h3, fun g1 hg1 g2 hg2 e => ?_⟩
        subst e
        obtain ⟨n2, hn2, hu2, hb2⟩ := h4 g1 hg2
        have hb1 : blockOf (V n) = some g1 := by
          rw [← hv' hk, hbo.1]; simpa using hg1
        exact hn (hrel.apart n n2 g1 hne hu2 hb1 hb2 ▸ hn2)
      · rw [List.flatten_cons, List.mem_append] at hg
        rcases hg with hg | hg
        · exact ⟨n, List.mem_cons_self .., hne, by rw [← hv' hk, hbo.1]; simpa using hg⟩
        · obtain ⟨n2, hn2, hu2, hb2⟩ := h4 g hg
          exact ⟨n2, List.mem_cons_of_mem _ hn2, hu2, hb2⟩
  | nils x e sz ps ps' G hsz _ ih =>
    intro vs hv hrv
    match vs, hv with
    | v :: vs, hv =>
      obtain ⟨gss, h1, h2, h3, h4⟩ := ih vs (by simpa using hv) (fun i q u a1 a2 => hrv (i + 1) q u (by simpa using a1) (by simpa using a2))
      have hv0 := (hrv 0 _ v rfl rfl).nils_inv
      subst hv0
      refine ⟨[] :: gss, by simp [h1], fun i q u g a1 a2 a3 => ?_, by simpa using h3, fun g hg => h4 g (by simpa using hg)⟩
      cases i with
      | zero =>
        simp at a1 a2 a3; subst a1; subst a2; subst a3
        exact .fresh x e sz [] (.slice none 0 0) (.obj x e sz [] [] hsz (fun _ h => by cases h) (World.ownsRow_nil w _ e sz) (fun g o h => by cases h) (fun _ g o h => by cases h) (fun i c h => by simp at h))
      | succ i => exact h2 i q u g (by simpa using a1) (by simpa using a2) (by simpa using a3)
  | shared n k e sz l ps ps' G hm hk _ ih =>
    intro vs hv hrv
    match vs, hv with
    | v :: vs, hv =>
      obtain ⟨gss, h1, h2, h3, h4⟩ := ih vs (by simpa using hv) (fun i q u a1 a2 => hrv (i + 1) q u (by simpa using a1) (by simpa using a2))
      obtain ⟨x', e', sz', l', hm', _, hv'⟩ := (hrv 0 _ v rfl rfl).own_inv
      rw [hm] at hm'; cases hm'
      have hmn := hrel.mem n
      rw [hm, ← hv' hk] at hmn
      refine ⟨[] :: gss, by simp [h1], fun i q u g a1 a2 a3 => ?_, by simpa using h3, fun g hg => h4 g (by simpa using hg)⟩
      cases i with
      | zero => simp at a1 a2 a3; subst a1; subst a2; subst a3; exact .pure _ _ (Rep.slice_own hmn)
      | succ i => exact h2 i q u g (by simpa using a1) (by simpa using a2) (by simpa using a3)
  | agg cs cs' ps ps' G G' hc hd hr ihc ih =>
    intro vs hv hrv
    match vs, hv with
    | v :: vs, hv =>
      obtain ⟨gss, h1, h2, h3, h4⟩ := ih vs (by simpa using hv) (fun i q u a1 a2 => hrv (i + 1) q u (by simpa using a1) (by simpa using a2))
      obtain ⟨arr, hva, hs, hcc⟩ := (hrv 0 _ v rfl rfl).agg_inv
      subst hva
      obtain ⟨gs, g1, g2, g3, g4⟩ := ihc arr.toList (by simpa using hs) (fun i q u a1 a2 => by
        have : arr.getD i Go.undef = u := by rw [Array.getElem?_toList] at a2; simp [a2]
        rw [← this]; exact (hcc i q a1).2)
      have hl := hc.length
      refine ⟨gs.flatten :: gss, by simp [h1], fun i q u g a1 a2 a3 => ?_, ?_, fun g hg => ?_⟩
      · cases i with
        | zero =>
          simp at a1 a2 a3; subst a1; subst a2; subst a3
          refine .agg cs' arr gs (hs.trans hl.symm) g1 (fun j c hj => ?_) (fun j c g hj hg => ?_)
          · exact (hcc j _ (List.getElem?_eq_getElem (by rw [← hl]; exact (List.getElem?_eq_some_iff.1 hj).1))).1
          · have hlt : j < arr.size := by rw [hs, ← hl]; exact (List.getElem?_eq_some_iff.1 hj).1
            exact g2 j c _ g hj (by rw [Array.getElem?_toList]; simp [hlt]) hg
        | succ i => exact h2 i q u g (by simpa using a1) (by simpa using a2) (by simpa using a3)
      · rw [List.flatten_cons]
        refine List.nodup_append.2 ⟨g3, h3, fun b1 hb1 b2 hb2 e => ?_⟩
        subst e
        obtain ⟨n1, hn1, hu1, hv1⟩ := g4 b1 hb1
        obtain ⟨n2, hn2, hu2, hv2⟩ := h4 b1 hb2
        exact hd n1 hn1 (hrel.apart n1 n2 b1 hu1 hu2 hv1 hv2 ▸ hn2)
      · rw [List.flatten_cons, List.mem_append] at hg
        rcases hg with hg | hg
        · obtain ⟨n1, hn1, hu1, hv1⟩ := g4 g hg
          exact ⟨n1, List.mem_append.2 (.inl hn1), hu1, hv1⟩
        · obtain ⟨n2, hn2, hu2, hv2⟩ := h4 g hg
          exact ⟨n2, List.mem_append.2 (.inr hn2), hu2, hv2⟩

/-- The results' places. -/
inductive ResAt (P : Program) (s : St) : List ResultVar → List PV → Prop where
  | nil : ResAt P s [] []
  | tmp (t : Nat) (v : PV) (rs : List ResultVar) (ps : List PV) (hv : s.slot t = v) (h : ResAt P s rs ps) : ResAt P s (.tmp t :: rs) (v :: ps)
  | cell (t : Nat) (ty : TypeId) (g : Bool) (sz n off : Nat) (y : Bool) (cs : List PV) (v : PV) (rs : List ResultVar) (ps : List PV) (ht : shp P ty = some (g, sz)) (hg : g = true ∨ sz = 1) (hx : s.slot t = .lptr n off) (hm : s.mem n = .blk y cs) (hv : loadPV g sz off cs = some v)
      (h : ResAt P s rs ps) : ResAt P s (.cell t ty :: rs) (v :: ps)

theorem ResAt.run {w0 : World} {pub : Nat → Nat → Prop} {V : Nat → Value} {a : Act} {w : World} (hrel : Rel0 N w0 pub V s a w) (g : ResultVar → Sem Value) (hg1 : ∀ t, g (.tmp t) = pure (a.tmps.getD t Go.undef)) (hg2 : ∀ t ty, g (.cell t ty) = (do loadVar ty (← asAddr (a.tmps.getD t Go.undef)))) {rs : List ResultVar} {ps : List PV} (h : ResAt P s rs ps) :
    ∃ vs : List Value, (rs.mapM g).run P w = .ok vs w ∧ vs.length = ps.length ∧ ∀ (i : Nat) p v, ps[i]? = some p → vs[i]? = some v → RV pub w V s.mem p v := by
  induction h with
  | nil => exact ⟨[], by simp, rfl, fun i p v h => by simp at h⟩
  | tmp t v rs ps hv _ ih =>
    obtain ⟨vs, h1, h2, h3⟩ := ih
    refine ⟨a.tmps.getD t Go.undef :: vs, ?_, by simp [h2], fun i p u a1 a2 => ?_⟩
    · rw [List.mapM_cons, hg1, Sem.run_bind, Sem.run_pure, Result.andThen_ok, Sem.run_bind, h1]; rfl
    · cases i with
      | zero => simp at a1 a2; subst a1; subst a2; have := hrel.slots t; rw [hv] at this; simpa using this
      | succ i => exact h3 i p u (by simpa using a1) (by simpa using a2)
  | cell t ty gg sz n off y cs v rs ps ht hgg hx hm hv _ ih =>
    obtain ⟨vs, h1, h2, h3⟩ := ih
    have hsl := hrel.slots t
    rw [hx] at hsl
    obtain ⟨x', cs', b, hm', hb, hpt⟩ := hsl.lptr_inv
    rw [hm] at hm'; cases hm'
    have hmn := hrel.mem n
    rw [hm] at hmn
    cases hmn with
    | blk _ _ g' arr T hvv hB hh hs hp hq hc hr =>
      rw [hb] at hvv
      simp only [Value.pointer.injEq, Option.some.injEq, Addr.mk.injEq, and_true] at hvv
      subst hvv
      obtain ⟨u, hu, hru⟩ := run_loadPV (P := P) (w := w) (m := s.mem) (V := V) (pub := pub) ht hgg b 0 off cs (fun j => arr.getD j Go.undef) (fun j c hj => by
        have hlt : j < arr.size := by rw [hs]; exact (List.getElem?_eq_some_iff.1 hj).1
        refine ⟨?_, (hc j c hj).1, (hc j c hj).2⟩
        rw [Nat.zero_add, cell_of_row w b j arr T (0, 0) hh]; simp [hlt]) hv
      rw [Nat.zero_add] at hu
      refine ⟨u :: vs, ?_, by simp [h2], fun i p u' a1 a2 => ?_⟩
      · rw [List.mapM_cons, hg2, hpt]
        simp only [Sem.run_bind, asAddr, Sem.run_pure, Result.andThen_ok, hu, h1]
      · cases i with
        | zero => simp at a1 a2; subst a1; subst a2; exact hru
        | succ i => exact h3 i p u' (by simpa using a1) (by simpa using a2)

theorem results_run {fn : Func} {w0 : World} {pub : Nat → Nat → Prop} {V : Nat → Value} {a : Act} {w : World} (hrel : Rel0 N w0 pub V s a w) {ps : List PV} (h : ResAt P s fn.results.toList ps) :
    ∃ vs : List Value, (results fn a.tmps).run P w = .ok (if h : vs.length = 1 then vs[0] else .tuple vs.toArray) w ∧ vs.length = ps.length ∧ ∀ (i : Nat) p v, ps[i]? = some p → vs[i]? = some v → RV pub w V s.mem p v := by
  have key : ∀ g : ResultVar → Sem Value, (∀ t, g (.tmp t) = pure (a.tmps.getD t Go.undef)) → (∀ t ty, g (.cell t ty) = (do loadVar ty (← asAddr (a.tmps.getD t Go.undef)))) →
      ∃ vs : List Value, (do let vs ← fn.results.mapM g; pure (if h : vs.size = 1 then vs[0] else .tuple vs) : Sem Value).run P w = .ok (if h : vs.length = 1 then vs[0] else .tuple vs.toArray) w ∧ vs.length = ps.length ∧ ∀ (i : Nat) p v, ps[i]? = some p → vs[i]? = some v → RV pub w V s.mem p v := by
    intro g hg1 hg2
    obtain ⟨vs, h1, h2, h3⟩ := h.run hrel g hg1 hg2
    refine ⟨vs, ?_, h2, h3⟩
    rw [Array.mapM_eq_mapM_toList, Sem.run_bind, Sem.run_map, h1]
    simp only [Result.andThen_ok, Sem.run_pure, List.size_toArray]
    by_cases hl : vs.length = 1 <;> simp [hl]
  exact key _ (fun _ => rfl) (fun _ _ => rfl)

def resOf : List PV → PV
  | [p] => p
  | ps => .tuple ps

/-- The state at the end gives the result. -/
def Fin (P : Program) (fn : Func) (r : PV) (s : St) : Prop := ∃ ps ps' G, ResAt P s fn.results.toList ps ∧ ResL s.mem ps ps' G ∧ resOf ps' = r

/-- The state at the beginning. -/
def initSlot : List PV → Nat → PV
  | [], _ => .undef
  | p :: _, 0 => p
  | _ :: ps, n + 1 => initSlot ps n
theorem initSlot_get : ∀ (ps : List PV) (i : Nat), initSlot ps i = (ps[i]?).getD .undef
  | [], i => by simp [initSlot]
  | p :: ps, 0 => by simp [initSlot]
  | p :: ps, i + 1 => by simp [initSlot, initSlot_get ps i]

theorem PC.intro {f : FuncId} {fn : Func} {c : Code} {args : List PV} {r : PV} (hf : P.funcs[f]? = some fn) (hb : fn.body = some c) (hok : okFn P f = true) (hn : args.length ≤ fn.ntmps)
    (h : Run P fn.ntmps (Fin P fn r) [.code c] ⟨initSlot args, fun _ => .undef⟩) : PC P f args r := by
  refine ⟨hok, fun w pub vals hpub hlen hrep => ?_⟩
  refine calls_of_wp hf hb ?_
  have hrel : Rel fn.ntmps w pub ⟨initSlot args, fun _ => .undef⟩ { tmps := vals.toArray ++ Array.replicate (fn.ntmps - vals.toArray.size) undef, defers := [] } w := by
    refine ⟨pub, fun _ => Go.undef, fun _ _ h => h, fun _ _ h => .inl h, ⟨rfl, by simp; omega, Below.refl _ _, hpub, fun t => ?_, fun n => .undef, fun n m g h => absurd rfl h⟩⟩
    have hsl := initSlot_get args t
    show RV pub w _ _ (initSlot args t) _
    rw [hsl]
    by_cases ht : t < args.length
    · have h1 : args[t]? = some args[t] := List.getElem?_eq_getElem ht
      have h2 : vals[t]? = some (vals[t]'(by omega)) := List.getElem?_eq_getElem (by omega)
      have := hrep t _ _ h1 h2
      have h3 : (vals.toArray ++ Array.replicate (fn.ntmps - vals.toArray.size) undef).getD t Go.undef = vals[t]'(by omega) := by
        simp [Array.getElem?_append_left (show t < vals.toArray.size by simp; omega), show t < vals.length by omega]
      simp only [h1, Option.getD_some]
      rw [h3]; exact .pure this
    · have h1 : args[t]? = none := List.getElem?_eq_none (by omega)
      simp only [h1, Option.getD_none]
      exact .undef _
  refine Code.wp_mono (fun e a w' q => ?_) (h w pub _ _ hrel)
  have fin : (∃ s, Fin P fn r s ∧ Rel fn.ntmps w pub s a w') → a.defers = [] ∧ ∃ v, (results fn a.tmps).run P w' = .ok v w' ∧ ∃ v_1, Ending.returned v = .returned v_1 ∧ Below w.heap.size w w' ∧ ∃ pub' gs, (∀ b o, pub b o → pub' b o) ∧ (∀ b o, pub' b o → pub b o ∨ w.heap.size ≤ b) ∧ (∀ b o, pub' b o → b < w'.heap.size) ∧ RR pub' w' w.heap.size r v_1 gs ∧ gs.Nodup := by
    rintro ⟨s, ⟨ps, ps', G, hat, hres, hr⟩, pub', V, c1, c2, hrel'⟩
    obtain ⟨vs, h1, h2, h3⟩ := results_run hrel' hat
    obtain ⟨gss, h4, h5, h6, _⟩ := hres.sound hrel' vs h2 h3
    have hl := hres.length
    refine ⟨hrel'.defers, (if h : vs.length = 1 then vs[0] else .tuple vs.toArray), ?_, _, rfl, hrel'.below, pub', gss.flatten, c1, c2, hrel'.pubLt, ?_, h6⟩
    · exact h1
    · subst hr
      match ps', vs, gss, h4, (show vs.length = ps'.length by omega), h5 with
      | [p], [v], [g], _, _, h5 => simpa [resOf] using h5 0 p v g rfl rfl rfl
      | [], [], [], _, _, h5 => simpa [resOf] using RR.tuple [] #[] [] rfl rfl (fun j c g h => by simp at h)
      | p :: q :: ps', v :: u :: vs, gss, h4, hvl, h5 =>
        have : ¬ ((v :: u :: vs).length = 1) := by simp
        rw [dif_neg this]
        refine .tuple _ _ gss (by simpa using hvl) (by simpa using h4) (fun j c g hj hg => ?_)
        have hjl : j < (v :: u :: vs).length := by rw [hvl]; exact (List.getElem?_eq_some_iff.1 hj).1
        have hget : ∀ (L : List Value) (h : j < L.length), L.toArray.getD j Go.undef = L[j] := fun L h => by simp [h]
        rw [hget _ hjl]
        exact h5 j c _ g hj (List.getElem?_eq_getElem hjl) hg
  cases e with
  | normal => exact fin q
  | ret => exact fin q
  | _ => exact q.elim
end
end Go.Px
