/-
  PROVED: general facts on pure values, contracts of functions, steps of programs and loops over lists, over any program. No condition beyond those that each theorem names.
-/
import Derived.Below
import Derived.Carry
import Derived.ChangeArms
import Derived.ChangeOld
import Derived.ChangeShapes
import Derived.ChangeSlices
import Derived.Still
import Derived.Test.YtiinfmdopfkefaaGreatQ1
namespace Go.Px
set_option linter.unusedSimpArgs false
set_option linter.unusedVariables false
open Go.RowKit

theorem RecvL.cover {n : Nat} {ps ps' : List PV} {U : List (Nat × PV)} {n' : Nat} (h : RecvL n ps ps' U n') : ∀ j, n ≤ j → j < n' → ∃ q ∈ U, q.1 = j := by
 induction h with
 | nil n => intro j h1 h2; omega
 | plain n p ps ps' U n' hp _ ih => exact ih
 | fresh n x e sz l ps ps' U n' _ ih =>
  intro j h1 h2
  by_cases hj : j = n
  ·exact ⟨_, List.mem_cons_self .., hj.symm⟩
  ·obtain ⟨q, hq, e⟩ := ih j (by omega) h2
   exact ⟨q, List.mem_cons_of_mem _ hq, e⟩
 | agg n cs cs' ps ps' U U' n1 n2 _ _ ih1 ih2 =>
  intro j h1 h2
  by_cases hj : j < n1
  ·obtain ⟨q, hq, e⟩ := ih1 j h1 hj
   exact ⟨q, List.mem_append.2 (.inl hq), e⟩
  ·obtain ⟨q, hq, e⟩ := ih2 j (by omega) h2
   exact ⟨q, List.mem_append.2 (.inr hq), e⟩
 | tuple n cs cs' ps ps' U U' n1 n2 _ _ ih1 ih2 =>
  intro j h1 h2
  by_cases hj : j < n1
  ·obtain ⟨q, hq, e⟩ := ih1 j h1 hj
   exact ⟨q, List.mem_append.2 (.inl hq), e⟩
  ·obtain ⟨q, hq, e⟩ := ih2 j (by omega) h2
   exact ⟨q, List.mem_append.2 (.inr hq), e⟩

section
variable {P : Program} {N : Nat} {Q : St → Prop} {k : List Item} {s : St}

theorem okFn_run {f : FuncId} (h : okFn P f = true) (w : World) (args : Array Value) : (callFunc f args).run P w = .ok (.enter f args) w := by
 unfold okFn at h
 split at h
 ·rename_i fn hf
  simp only [Bool.and_eq_true, bne_iff_ne, ne_eq] at h
  have hb : ¬ fn.body = none := by cases hbb : fn.body <;> simp_all
  unfold callFunc
  simp [hf, hb, h.2]
 ·cases h

theorem call_wp {w0 : Base P} {pub0 : Nat → Nat → Prop} {a : Act} {w : World} {d : Nat} {fo : Operand} {args : Array Operand} {ats : Array TypeId} {ty : TypeId} {pos : String} {after : Array Edge} {gd : Option (Nat × Bool)} {f : FuncId} {caps ps ps' : List PV} {r p : PV} {R : List Nat} {U : List (Nat × PV)} {n' : Nat}
  (hf : s.ev fo = .fn f caps) (hps : args.toList.map s.ev = ps) (hp : PurL s.mem ps ps' R) (hc : PC P f (ps' ++ caps) r) (hr : RecvL (64 * d) [r] [p] U n') (hU : ∀ q ∈ U, s.mem q.1 = .undef ∧ q.1 % 64 ≠ 63) (hd : d < N)
  (hR : Rel N w0 pub0 s a w) {K : Act → World → Prop} {Q' : Exit → Act → World → Prop} (hK : ∀ a w, Rel N w0 pub0 ⟨upd s.slot d p, upds s.mem U⟩ a w → K a w) :
  (⟨some d, .call { callee := .value fo, args := args, argTypes := ats }, ty, pos, after, gd⟩ : Oper).wp P a w K Q' := by
 obtain ⟨pub, V, c1, c2, hrel⟩ := hR
 obtain ⟨hok, hcall⟩ := hc
 obtain ⟨arr, hfv, hsz, hcaps⟩ := (hf ▸ hrel.ev fo).fn_inv
 unfold Oper.wp
 have hrun : (execOp a.eval ⟨some d, .call { callee := .value fo, args := args, argTypes := ats }, ty, pos, after, gd⟩).run P w = .ok (.enter f (args.map a.eval ++ arr)) w := by
  simp [execOp, resolve, hfv, Deferred.ofValue, invoke, okFn_run hok]
 rw [hrun, Oper.upon_enter]
 have hlen := hp.length
 have hvals : (args.map a.eval ++ arr) = ((args.map a.eval).toList ++ arr.toList).toArray := by simp
 rw [hvals]
 refine (hcall w pub ((args.map a.eval).toList ++ arr.toList) (Base.gp hrel.below) hrel.pubLt ?_ ?_).mono ?_
 ·have : ps.length = args.size := by rw [← hps]; simp
  simp [hlen, this, hsz]
 ·intro i q v h1 h2
  have hpl : ps.length = args.size := by rw [← hps]; simp
  by_cases hi : i < ps'.length
  ·rw [List.getElem?_append_left hi] at h1
   rw [List.getElem?_append_left (by simp; omega)] at h2
   have hi' : i < ps.length := by omega
   obtain ⟨x, hx, hrv⟩ := hrel.at_op args.toList i _ (by rw [hps]; exact List.getElem?_eq_getElem hi')
   have hv : v = a.eval x := by
    have hx' : args[i]? = some x := by simpa using hx
    simp [hx'] at h2; exact h2.symm
   subst hv
   exact hp.rep hrel i _ q _ (List.getElem?_eq_getElem hi') h1 hrv
  ·rw [List.getElem?_append_right (by omega)] at h1
   rw [List.getElem?_append_right (by simp; omega)] at h2
   have hj : i - ps'.length = i - (args.map a.eval).toList.length := by simp; omega
   rw [← hj] at h2
   have := hcaps _ q h1
   have hv : arr.getD (i - ps'.length) Go.undef = v := by
    rw [Array.getElem?_toList] at h2; simp [h2]
   rw [hv] at this
   exact this
 ·rintro e w' ⟨v, rfl, hbel, pub', gs, p1, p2, p3, hRR, hnd⟩
  obtain ⟨hrel2, hmono⟩ := hrel.worldPub hbel p1 p2 p3
  have hs0 : w0.w.heap.size ≤ w.heap.size := hrel.below.size
  obtain ⟨V', h1, _, _, h4⟩ := hr.sound hrel2 w.heap.size hs0 [] (fun k g a1 a2 => .inl ((hrel.mem k).block_lt a1 a2)) [v] [gs] rfl rfl (fun i q u g a1 a2 a3 => by
   cases i with
   | zero => simp at a1 a2 a3; subst a1; subst a2; subst a3; exact hRR
   | succ i => simp at a1) (by simpa using hnd) (fun _ _ h => by cases h) (fun j j1 j2 => by
    obtain ⟨q, hq, rfl⟩ := hr.cover j j1 j2
    exact hU q hq)
  have hput := h1.put d hd (h4 0 p v rfl rfl)
  exact hK _ _ ⟨pub', V', fun b o ho => p1 b o (c1 b o ho), fun b o ho => (p2 b o ho).elim (c2 b o) (fun h => .inr (.inl (by omega))), hput⟩

inductive ResL (m : Nat → PV) : List PV → List PV → List Nat → Prop where
 | nil : ResL m [] [] []
 | plain (p : PV) (ps ps' : List PV) (G : List Nat) (hp : p.plain = true) (h : ResL m ps ps' G) : ResL m (p :: ps) (p :: ps') G
 | own (n k : Nat) (x : Bool) (e sz : Nat) (l ps ps' : List PV) (G : List Nat) (hm : m n = .obj x e sz l) (hk : k = l.length) (hn : n ∉ G) (h : ResL m ps ps' G) : ResL m (.own n k :: ps) (.fresh x e sz l :: ps') (n :: G)
 | nils (x : Bool) (e sz : Nat) (ps ps' : List PV) (G : List Nat) (hsz : 0 < sz) (h : ResL m ps ps' G) : ResL m (.nils :: ps) (.fresh x e sz [] :: ps') G
 | shared (n k e sz : Nat) (l ps ps' : List PV) (G : List Nat) (hm : m n = .obj false e sz l) (hk : k = l.length) (h : ResL m ps ps' G) : ResL m (.own n k :: ps) (.slice l :: ps') G
 | agg (cs cs' ps ps' : List PV) (G G' : List Nat) (hc : ResL m cs cs' G) (hd : ∀ n ∈ G, n ∉ G') (h : ResL m ps ps' G') : ResL m (.agg cs :: ps) (.agg cs' :: ps') (G ++ G')

theorem ResL.length {m : Nat → PV} {ps ps' : List PV} {G : List Nat} (h : ResL m ps ps' G) : ps'.length = ps.length := by
 induction h <;> simp_all

theorem ResL.sound {w0 : Base P} {pub : Nat → Nat → Prop} {V : Nat → Value} {a : Act} {w : World} (hrel : Rel0 N w0 pub V s a w) {ps ps' : List PV} {G : List Nat} (h : ResL s.mem ps ps' G) : ∀ (vs : List Value), vs.length = ps.length →
  (∀ (i : Nat) p v, ps[i]? = some p → vs[i]? = some v → RV pub w V s.mem p v) → ∃ gss : List (List Nat), gss.length = ps'.length ∧ (∀ (i : Nat) p v g, ps'[i]? = some p → vs[i]? = some v → gss[i]? = some g → RR pub w w0.O p v g) ∧ gss.flatten.Nodup ∧
   ∀ g ∈ gss.flatten, ∃ n ∈ G, s.mem n ≠ .undef ∧ blockOf (V n) = some g := by
 induction h with
 | nil => intro vs hv hrv; exact ⟨[], rfl, fun i p v g h => by simp at h, by simp, fun g h => by simp at h⟩
 | plain p ps ps' G hp _ ih =>
  intro vs hv hrv
  match vs, hv with
  | v :: vs, hv =>
   obtain ⟨gss, h1, h2, h3, h4⟩ := ih vs (by simpa using hv) (fun i q u a1 a2 => hrv (i + 1) q u (by simpa using a1) (by simpa using a2))
   refine ⟨[] :: gss, by simp [h1], fun i q u g a1 a2 a3 => ?_, by simpa using h3, fun g hg => h4 g (by simpa using hg)⟩
   cases i with
   | zero => simp at a1 a2 a3; subst a1; subst a2; subst a3; exact .pure _ _ ((hrv 0 _ _ rfl rfl).plain hp)
   | succ i => exact h2 i q u g (by simpa using a1) (by simpa using a2) (by simpa using a3)
 | own n k x e sz l ps ps' G hm hk hn _ ih =>
  intro vs hv hrv
  match vs, hv with
  | v :: vs, hv =>
   obtain ⟨gss, h1, h2, h3, h4⟩ := ih vs (by simpa using hv) (fun i q u a1 a2 => hrv (i + 1) q u (by simpa using a1) (by simpa using a2))
   obtain ⟨x', e', sz', l', hm', _, hv'⟩ := (hrv 0 _ v rfl rfl).own_inv
   rw [hm] at hm'; cases hm'
   have hmn := hrel.mem n
   rw [hm, ← hv' hk] at hmn
   have hbo := hmn.obj_block
   have hne : s.mem n ≠ .undef := by rw [hm]; intro e; cases e
   refine ⟨v.ownBlock.toList :: gss, by simp [h1], fun i q u g a1 a2 a3 => ?_, ?_, fun g hg => ?_⟩
   ·cases i with
    | zero =>
     simp at a1 a2 a3; subst a1; subst a2; subst a3
     refine .fresh x e sz l v ?_
     cases hmn with
     | obj _ _ _ _ xs hsz hmx hl how hp hq hc => exact .obj x e sz l xs hsz hmx hl how hp hq hc
    | succ i => exact h2 i q u g (by simpa using a1) (by simpa using a2) (by simpa using a3)
   ·rw [List.flatten_cons]
    refine List.nodup_append.2 ⟨by cases v.ownBlock <;> simp, h3, fun g1 hg1 g2 hg2 e => ?_⟩
    subst e
    obtain ⟨n2, hn2, hu2, hb2⟩ := h4 g1 hg2
    have hb1 : blockOf (V n) = some g1 := by
     rw [← hv' hk, hbo.1]; simpa using hg1
    exact hn (hrel.apart n n2 g1 hne hu2 (.inl hb1) (.inl hb2) ▸ hn2)
   ·rw [List.flatten_cons, List.mem_append] at hg
    rcases hg with hg | hg
    ·exact ⟨n, List.mem_cons_self .., hne, by rw [← hv' hk, hbo.1]; simpa using hg⟩
    ·obtain ⟨n2, hn2, hu2, hb2⟩ := h4 g hg
     exact ⟨n2, List.mem_cons_of_mem _ hn2, hu2, hb2⟩
 | nils x e sz ps ps' G hsz _ ih =>
  intro vs hv hrv
  match vs, hv with
  | v :: vs, hv =>
   obtain ⟨gss, h1, h2, h3, h4⟩ := ih vs (by simpa using hv) (fun i q u a1 a2 => hrv (i + 1) q u (by simpa using a1) (by simpa using a2))
   have hv0 := (hrv 0 _ v rfl rfl).nils_inv
   subst hv0
   refine ⟨[] :: gss, by simp [h1], fun i q u g a1 a2 a3 => ?_, by simpa using h3, fun g hg => h4 g (by simpa using hg)⟩
   cases i with
   | zero =>
    simp at a1 a2 a3; subst a1; subst a2; subst a3
    exact .fresh x e sz [] (.slice none 0 0) (.obj x e sz [] [] hsz (by simp) (fun _ h => by cases h) ⟨(⟨by simp, .inl ⟨rfl, rfl⟩⟩ : rowG w e sz (.slice none 0 0) 0 []), fun g h => by cases h⟩ (fun g o h => by cases h) (fun _ g o h => by cases h) (fun i c h => by simp at h))
   | succ i => exact h2 i q u g (by simpa using a1) (by simpa using a2) (by simpa using a3)
 | shared n k e sz l ps ps' G hm hk _ ih =>
  intro vs hv hrv
  match vs, hv with
  | v :: vs, hv =>
   obtain ⟨gss, h1, h2, h3, h4⟩ := ih vs (by simpa using hv) (fun i q u a1 a2 => hrv (i + 1) q u (by simpa using a1) (by simpa using a2))
   obtain ⟨x', e', sz', l', hm', _, hv'⟩ := (hrv 0 _ v rfl rfl).own_inv
   rw [hm] at hm'; cases hm'
   have hmn := hrel.mem n
   rw [hm, ← hv' hk] at hmn
   refine ⟨[] :: gss, by simp [h1], fun i q u g a1 a2 a3 => ?_, by simpa using h3, fun g hg => h4 g (by simpa using hg)⟩
   cases i with
   | zero => simp at a1 a2 a3; subst a1; subst a2; subst a3; exact .pure _ _ (Rep.slice_own hmn)
   | succ i => exact h2 i q u g (by simpa using a1) (by simpa using a2) (by simpa using a3)
 | agg cs cs' ps ps' G G' hc hd hr ihc ih =>
  intro vs hv hrv
  match vs, hv with
  | v :: vs, hv =>
   obtain ⟨gss, h1, h2, h3, h4⟩ := ih vs (by simpa using hv) (fun i q u a1 a2 => hrv (i + 1) q u (by simpa using a1) (by simpa using a2))
   obtain ⟨arr, hva, hs, hcc⟩ := (hrv 0 _ v rfl rfl).agg_inv
   subst hva
   obtain ⟨gs, g1, g2, g3, g4⟩ := ihc arr.toList (by simpa using hs) (fun i q u a1 a2 => by
    have : arr.getD i Go.undef = u := by rw [Array.getElem?_toList] at a2; simp [a2]
    rw [← this]; exact (hcc i q a1).2)
   have hl := hc.length
   refine ⟨gs.flatten :: gss, by simp [h1], fun i q u g a1 a2 a3 => ?_, ?_, fun g hg => ?_⟩
   ·cases i with
    | zero =>
     simp at a1 a2 a3; subst a1; subst a2; subst a3
     refine .agg cs' arr gs (hs.trans hl.symm) g1 (fun j c hj => ?_) (fun j c g hj hg => ?_)
     ·exact (hcc j _ (List.getElem?_eq_getElem (by rw [← hl]; exact (List.getElem?_eq_some_iff.1 hj).1))).1
     ·have hlt : j < arr.size := by rw [hs, ← hl]; exact (List.getElem?_eq_some_iff.1 hj).1
      exact g2 j c _ g hj (by rw [Array.getElem?_toList]; simp [hlt]) hg
    | succ i => exact h2 i q u g (by simpa using a1) (by simpa using a2) (by simpa using a3)
   ·rw [List.flatten_cons]
    refine List.nodup_append.2 ⟨g3, h3, fun b1 hb1 b2 hb2 e => ?_⟩
    subst e
    obtain ⟨n1, hn1, hu1, hv1⟩ := g4 b1 hb1
    obtain ⟨n2, hn2, hu2, hv2⟩ := h4 b1 hb2
    exact hd n1 hn1 (hrel.apart n1 n2 b1 hu1 hu2 (.inl hv1) (.inl hv2) ▸ hn2)
   ·rw [List.flatten_cons, List.mem_append] at hg
    rcases hg with hg | hg
    ·obtain ⟨n1, hn1, hu1, hv1⟩ := g4 g hg
     exact ⟨n1, List.mem_append.2 (.inl hn1), hu1, hv1⟩
    ·obtain ⟨n2, hn2, hu2, hv2⟩ := h4 g hg
     exact ⟨n2, List.mem_append.2 (.inr hn2), hu2, hv2⟩

inductive ResAt (P : Program) (s : St) : List ResultVar → List PV → Prop where
 | nil : ResAt P s [] []
 | tmp (t : Nat) (v : PV) (rs : List ResultVar) (ps : List PV) (hv : s.slot t = v) (h : ResAt P s rs ps) : ResAt P s (.tmp t :: rs) (v :: ps)
 | cell (t : Nat) (ty : TypeId) (g : Bool) (sz n off : Nat) (y : Bool) (cs : List PV) (v : PV) (rs : List ResultVar) (ps : List PV) (ht : shp P ty = some (g, sz)) (hg : g = true ∨ sz = 1) (hx : s.slot t = .lptr n off) (hm : s.mem n = .blk y cs) (hv : loadPV g sz off cs = some v)
   (h : ResAt P s rs ps) : ResAt P s (.cell t ty :: rs) (v :: ps)

theorem ResAt.run {w0 : Base P} {pub : Nat → Nat → Prop} {V : Nat → Value} {a : Act} {w : World} (hrel : Rel0 N w0 pub V s a w) (g : ResultVar → Sem Value) (hg1 : ∀ t, g (.tmp t) = pure (a.tmps.getD t Go.undef)) (hg2 : ∀ t ty, g (.cell t ty) = (do loadVar ty (← asAddr (a.tmps.getD t Go.undef)))) {rs : List ResultVar} {ps : List PV} (h : ResAt P s rs ps) :
  ∃ vs : List Value, (rs.mapM g).run P w = .ok vs w ∧ vs.length = ps.length ∧ ∀ (i : Nat) p v, ps[i]? = some p → vs[i]? = some v → RV pub w V s.mem p v := by
 induction h with
 | nil => exact ⟨[], by simp, rfl, fun i p v h => by simp at h⟩
 | tmp t v rs ps hv _ ih =>
  obtain ⟨vs, h1, h2, h3⟩ := ih
  refine ⟨a.tmps.getD t Go.undef :: vs, ?_, by simp [h2], fun i p u a1 a2 => ?_⟩
  ·rw [List.mapM_cons, hg1, Sem.run_bind, Sem.run_pure, Result.andThen_ok, Sem.run_bind, h1]; rfl
  ·cases i with
   | zero => simp at a1 a2; subst a1; subst a2; have := hrel.slots t; rw [hv] at this; simpa using this
   | succ i => exact h3 i p u (by simpa using a1) (by simpa using a2)
 | cell t ty gg sz n off y cs v rs ps ht hgg hx hm hv _ ih =>
  obtain ⟨vs, h1, h2, h3⟩ := ih
  have hsl := hrel.slots t
  rw [hx] at hsl
  obtain ⟨x', cs', b, hm', hb, hpt⟩ := hsl.lptr_inv
  rw [hm] at hm'; cases hm'
  have hmn := hrel.mem n
  rw [hm] at hmn
  cases hmn with
  | blk _ _ g' arr T hvv hB hh hs hp hq hc hr =>
   rw [hb] at hvv
   simp only [Value.pointer.injEq, Option.some.injEq, Addr.mk.injEq, and_true] at hvv
   subst hvv
   obtain ⟨u, hu, hru⟩ := run_loadPV (P := P) (w := w) (m := s.mem) (V := V) (pub := pub) ht hgg b 0 off cs (fun j => arr.getD j Go.undef) (fun j c hj => by
    have hlt : j < arr.size := by rw [hs]; exact (List.getElem?_eq_some_iff.1 hj).1
    refine ⟨?_, (hc j c hj).1, (hc j c hj).2⟩
    rw [Nat.zero_add, cell_of_row w b j arr T (0, 0) hh]; simp [hlt]) hv
   rw [Nat.zero_add] at hu
   refine ⟨u :: vs, ?_, by simp [h2], fun i p u' a1 a2 => ?_⟩
   ·rw [List.mapM_cons, hg2, hpt]
    simp only [Sem.run_bind, asAddr, Sem.run_pure, Result.andThen_ok, hu, h1]
   ·cases i with
    | zero => simp at a1 a2; subst a1; subst a2; exact hru
    | succ i => exact h3 i p u' (by simpa using a1) (by simpa using a2)

theorem results_run {fn : Func} {w0 : Base P} {pub : Nat → Nat → Prop} {V : Nat → Value} {a : Act} {w : World} (hrel : Rel0 N w0 pub V s a w) {ps : List PV} (h : ResAt P s fn.results.toList ps) :
  ∃ vs : List Value, (results fn a.tmps).run P w = .ok (if h : vs.length = 1 then vs[0] else .tuple vs.toArray) w ∧ vs.length = ps.length ∧ ∀ (i : Nat) p v, ps[i]? = some p → vs[i]? = some v → RV pub w V s.mem p v := by
 have key : ∀ g : ResultVar → Sem Value, (∀ t, g (.tmp t) = pure (a.tmps.getD t Go.undef)) → (∀ t ty, g (.cell t ty) = (do loadVar ty (← asAddr (a.tmps.getD t Go.undef)))) →
   ∃ vs : List Value, (do let vs ← fn.results.mapM g; pure (if h : vs.size = 1 then vs[0] else .tuple vs) : Sem Value).run P w = .ok (if h : vs.length = 1 then vs[0] else .tuple vs.toArray) w ∧ vs.length = ps.length ∧ ∀ (i : Nat) p v, ps[i]? = some p → vs[i]? = some v → RV pub w V s.mem p v := by
  intro g hg1 hg2
  obtain ⟨vs, h1, h2, h3⟩ := h.run hrel g hg1 hg2
  refine ⟨vs, ?_, h2, h3⟩
  rw [Array.mapM_eq_mapM_toList, Sem.run_bind, Sem.run_map, h1]
  simp only [Result.andThen_ok, Sem.run_pure, List.size_toArray]
  by_cases hl : vs.length = 1 <;> simp [hl]
 exact key _ (fun _ => rfl) (fun _ _ => rfl)

def resOf : List PV → PV
 | [p] => p
 | ps => .tuple ps

def Fin (P : Program) (fn : Func) (r : PV) (s : St) : Prop := ∃ ps ps' G, ResAt P s fn.results.toList ps ∧ ResL s.mem ps ps' G ∧ resOf ps' = r

def initSlot : List PV → Nat → PV
 | [], _ => .undef
 | p :: _, 0 => p
 | _ :: ps, n + 1 => initSlot ps n
theorem initSlot_get : ∀ (ps : List PV) (i : Nat), initSlot ps i = (ps[i]?).getD .undef
 | [], i => by simp [initSlot]
 | p :: ps, 0 => by simp [initSlot]
 | p :: ps, i + 1 => by simp [initSlot, initSlot_get ps i]

theorem PC.intro {f : FuncId} {fn : Func} {c : Code} {args : List PV} {r : PV} (hf : P.funcs[f]? = some fn) (hb : fn.body = some c) (hok : okFn P f = true) (hn : args.length ≤ fn.ntmps)
  (h : Run P fn.ntmps (Fin P fn r) [.code c] ⟨initSlot args, fun _ => .undef⟩) : PC P f args r := by
 refine ⟨hok, fun w pub vals hgp hpub hlen hrep => ?_⟩
 have good : ∀ w' : World, (∀ k, ¬ Base0.O ⟨w, fun _ => False, fun _ => Go.undef⟩ k → w'.heap[k]? = w.heap[k]?) → GP P w' := fun w' hw => hgp.same fun k hk => hw k (fun ho => ho.elim (fun h => absurd hk (Nat.not_lt.2 h)) id)
 refine calls_of_wp hf hb ?_
 have hO : Base0.O ⟨w, fun _ => False, fun _ => Go.undef⟩ = fun b => w.heap.size ≤ b := by funext b; simp [Base0.O]
 have hrel : Rel fn.ntmps (⟨⟨w, fun _ => False, fun _ => Go.undef⟩, good⟩ : Base P) pub ⟨initSlot args, fun _ => .undef⟩ { tmps := vals.toArray ++ Array.replicate (fn.ntmps - vals.toArray.size) undef, defers := [] } w := by
  refine ⟨pub, fun _ => Go.undef, fun _ _ h => h, fun _ _ h => .inl h, ⟨rfl, by simp; omega, BelowB.refl _ _, fun _ _ => rfl, hpub, fun t => ?_, fun n => .undef, fun n m g h => absurd rfl h, fun b o ho hb0 => absurd (hpub b o ho) (by show ¬ _; have : w.heap.size ≤ b := hb0; omega), fun n own _ h => by cases h⟩⟩
  have hsl := initSlot_get args t
  show RV pub w _ _ (initSlot args t) _
  rw [hsl]
  by_cases ht : t < args.length
  ·have h1 : args[t]? = some args[t] := List.getElem?_eq_getElem ht
   have h2 : vals[t]? = some (vals[t]'(by omega)) := List.getElem?_eq_getElem (by omega)
   have := hrep t _ _ h1 h2
   have h3 : (vals.toArray ++ Array.replicate (fn.ntmps - vals.toArray.size) undef).getD t Go.undef = vals[t]'(by omega) := by
    simp [Array.getElem?_append_left (show t < vals.toArray.size by simp; omega), show t < vals.length by omega]
   simp only [h1, Option.getD_some]
   rw [h3]; exact .pure this
  ·have h1 : args[t]? = none := List.getElem?_eq_none (by omega)
   simp only [h1, Option.getD_none]
   exact .undef _
 refine Code.wp_mono (fun e a w' q => ?_) (h _ pub _ _ hrel)
 have fin : (∃ s, Fin P fn r s ∧ Rel fn.ntmps (⟨⟨w, fun _ => False, fun _ => Go.undef⟩, good⟩ : Base P) pub s a w') → a.defers = [] ∧ ∃ v, (results fn a.tmps).run P w' = .ok v w' ∧ ∃ v_1, Ending.returned v = .returned v_1 ∧ Below w.heap.size w w' ∧ ∃ pub' gs, (∀ b o, pub b o → pub' b o) ∧ (∀ b o, pub' b o → pub b o ∨ w.heap.size ≤ b) ∧ (∀ b o, pub' b o → b < w'.heap.size ∧ (w.heap.size ≤ b → w'.frozen? ⟨b, o, none⟩ = false)) ∧ RR pub' w' (fun b => w.heap.size ≤ b) r v_1 gs ∧ gs.Nodup := by
  rintro ⟨s, ⟨ps, ps', G, hat, hres, hr⟩, pub', V, c1, c2, hrel'⟩
  obtain ⟨vs, h1, h2, h3⟩ := results_run hrel' hat
  obtain ⟨gss, h4, h5, h6, _⟩ := hres.sound hrel' vs h2 h3
  have hl := hres.length
  simp only [hO] at h5 c2
  have hbel : Below w.heap.size w w' := ⟨hrel'.below.os, hrel'.below.tape, hrel'.below.output, hrel'.below.size, fun k hk => hrel'.below.block k (by rw [hO]; omega)⟩
  refine ⟨hrel'.defers, (if h : vs.length = 1 then vs[0] else .tuple vs.toArray), ?_, _, rfl, hbel, pub', gss.flatten, c1, c2, fun b o ho => ⟨hrel'.pubLt b o ho, hrel'.soft b o ho⟩, ?_, h6⟩
  ·exact h1
  ·subst hr
   match ps', vs, gss, h4, (show vs.length = ps'.length by omega), h5 with
   | [p], [v], [g], _, _, h5 => simpa [resOf] using h5 0 p v g rfl rfl rfl
   | [], [], [], _, _, h5 => simpa [resOf] using RR.tuple [] #[] [] rfl rfl (fun j c g h => by simp at h)
   | p :: q :: ps', v :: u :: vs, gss, h4, hvl, h5 =>
    have : ¬ ((v :: u :: vs).length = 1) := by simp
    rw [dif_neg this]
    refine .tuple _ _ gss (by simpa using hvl) (by simpa using h4) (fun j c g hj hg => ?_)
    have hjl : j < (v :: u :: vs).length := by rw [hvl]; exact (List.getElem?_eq_some_iff.1 hj).1
    have hget : ∀ (L : List Value) (h : j < L.length), L.toArray.getD j Go.undef = L[j] := fun L h => by simp [h]
    rw [hget _ hjl]
    exact h5 j c _ g hj (List.getElem?_eq_getElem hjl) hg
 cases e with
 | normal => exact fin q
 | ret => exact fin q
 | _ => exact q.elim
end
end Go.Px
namespace Go.Px
set_option linter.unusedSimpArgs false
set_option linter.unusedVariables false
open Go.RowKit

def look : List (Nat × PV) → Nat → Option PV
 | [], _ => none
 | (m, v) :: L, n => bif Nat.beq m n then some v else look L n

def St.of (S M : List (Nat × PV)) : St := ⟨fun t => (look S t).getD .undef, fun n => (look M n).getD .undef⟩

theorem look_upd (S : List (Nat × PV)) (d : Nat) (p : PV) : upd (fun t => (look S t).getD .undef) d p = fun t => (look ((d, p) :: S) t).getD .undef := by
 funext t
 by_cases h : t = d
 ·subst h; simp [upd, look]
 ·have h2 : Nat.beq d t = false := by
   cases hb : Nat.beq d t with
   | true => exact absurd (Nat.eq_of_beq_eq_true hb).symm h
   | false => rfl
  simp [upd, h, look, h2]
theorem slot_of (S M : List (Nat × PV)) (d : Nat) (p : PV) : upd (St.of S M).slot d p = (St.of ((d, p) :: S) M).slot := look_upd S d p
theorem mem_of (S M : List (Nat × PV)) (d : Nat) (p : PV) : upds (St.of S M).mem [(d, p)] = (St.of S ((d, p) :: M)).mem := look_upd M d p
theorem upds_of (S : List (Nat × PV)) : ∀ (U M : List (Nat × PV)), upds (St.of S M).mem U = (St.of S (U.reverse ++ M)).mem
 | [], M => rfl
 | (n, p) :: U, M => by
  rw [upds, show upd (St.of S M).mem n p = (St.of S ((n, p) :: M)).mem from look_upd M n p, upds_of S U]; simp

theorem look_slot {S M : List (Nat × PV)} {t : Nat} {v : PV} (h : look S t = some v) : (St.of S M).slot t = v := by simp [St.of, h]
theorem look_mem {S M : List (Nat × PV)} {t : Nat} {v : PV} (h : look M t = some v) : (St.of S M).mem t = v := by simp [St.of, h]
theorem look_none {S M : List (Nat × PV)} {t : Nat} (h : look M t = none) : (St.of S M).mem t = .undef := by simp [St.of, h]

end Go.Px
namespace Go.Px
set_option linter.unusedSimpArgs false
set_option linter.unusedVariables false
open Go.RowKit

def memOf (M : List (Nat × PV)) : Nat → PV := (St.of [] M).mem
def handB : List (Nat × PV) → Bool
 | [] => true
 | (n, .obj true _ _ _) :: M => Nat.beq (n % 64) 63 && handB M
 | (n, .blk true cs) :: M => Nat.beq (n % 64) 63 && (cs.all PV.plain && handB M)
 | (n, .yreg false false) :: M => Nat.beq (n % 64) 63 && handB M
 | (n, .yreg true true) :: M => Nat.beq (n % 64) 63 && handB M
 | _ => false
def blocksOf (V : Nat → Value) (M : List (Nat × PV)) (b : Nat) : Prop := ∃ n, memOf M n ≠ .undef ∧ (∀ own, memOf M n ≠ .yreg false own) ∧ inB (V n) b
def PCM (P : Program) (f : FuncId) (args : List PV) (M0 : List (Nat × PV)) (r : PV) (M1 : List (Nat × PV)) : Prop :=
 okFn P f = true ∧ ∀ (w : World) (pub : Nat → Nat → Prop) (V : Nat → Value) (vals : List Value), (∀ w' : World, (∀ k, ¬ Base0.O ⟨w, blocksOf V M0, V⟩ k → w'.heap[k]? = w.heap[k]?) → GP P w') → (∀ b o, pub b o → b < w.heap.size) → vals.length = args.length →
  (∀ n, MemOk pub w V (memOf M0) (fun _ => True) (V n) (memOf M0 n)) → (∀ n m g, memOf M0 n ≠ .undef → memOf M0 m ≠ .undef → inB (V n) g → inB (V m) g → n = m) →
  (∀ (i : Nat) p v, args[i]? = some p → vals[i]? = some v → RV pub w V (memOf M0) p v) →
  Calls P f vals.toArray w fun e w' => ∃ v, e = .returned v ∧ BelowB ⟨w, blocksOf V M0, V⟩ w w' ∧ ∃ pub', (∀ b o, pub b o → pub' b o) ∧ (∀ b o, pub' b o → pub b o ∨ w.heap.size ≤ b) ∧ (∀ b o, pub' b o → b < w'.heap.size ∧ (w.heap.size ≤ b → w'.frozen? ⟨b, o, none⟩ = false)) ∧
   (∀ n, memOf M1 n ≠ .undef → MemOk pub' w' V (memOf M1) (fun _ => True) (V n) (memOf M1 n)) ∧ (∀ n own, memOf M0 n = .yreg true own → SkW (regB (V n)) w w') ∧ ∃ gs, RR pub' w' (fun b => w.heap.size ≤ b) r v gs ∧ gs.Nodup
theorem memOf_nil (n : Nat) : memOf [] n = .undef := rfl
theorem memOf_cons (q : Nat × PV) (M : List (Nat × PV)) (n : Nat) : memOf (q :: M) n = if n = q.1 then q.2 else memOf M n := by
 have h := mem_of [] M q.1 q.2
 simp only [upds] at h
 have := congrFun h n
 unfold memOf
 rw [← this]
 rfl
theorem handB_spec : ∀ {M : List (Nat × PV)}, handB M = true → ∀ n, memOf M n ≠ .undef → n % 64 = 63 ∧ ((∃ e sz l, memOf M n = .obj true e sz l) ∨ (∃ cs, memOf M n = .blk true cs ∧ ∀ c ∈ cs, c.plain = true) ∨ ∃ s, memOf M n = .yreg s s)
 | [], _, n, hn => absurd (memOf_nil n) hn
 | (m, p) :: M, h, n, hn => by
  rw [memOf_cons] at hn ⊢
  by_cases e : n = m
  ·subst e
   simp only [if_true] at hn ⊢
   unfold handB at h
   split at h
   ·rename_i heq; cases heq
   ·rename_i heq; cases heq
    simp only [Bool.and_eq_true] at h
    exact ⟨Nat.eq_of_beq_eq_true h.1, .inl ⟨_, _, _, rfl⟩⟩
   ·rename_i heq; cases heq
    simp only [Bool.and_eq_true, List.all_eq_true] at h
    exact ⟨Nat.eq_of_beq_eq_true h.1, .inr (.inl ⟨_, rfl, h.2.1⟩)⟩
   ·rename_i heq; cases heq
    simp only [Bool.and_eq_true] at h
    exact ⟨Nat.eq_of_beq_eq_true h.1, .inr (.inr ⟨_, rfl⟩)⟩
   ·rename_i heq; cases heq
    simp only [Bool.and_eq_true] at h
    exact ⟨Nat.eq_of_beq_eq_true h.1, .inr (.inr ⟨_, rfl⟩)⟩
   ·cases h
  ·simp only [if_neg e] at hn ⊢
   refine handB_spec ?_ n hn
   unfold handB at h
   split at h
   ·rename_i heq; cases heq
   ·rename_i heq; cases heq
    simp only [Bool.and_eq_true] at h
    exact h.2
   ·rename_i heq; cases heq
    simp only [Bool.and_eq_true] at h
    exact h.2.2
   ·rename_i heq; cases heq
    simp only [Bool.and_eq_true] at h
    exact h.2
   ·rename_i heq; cases heq
    simp only [Bool.and_eq_true] at h
    exact h.2
   ·cases h
section
variable {pub : Nat → Nat → Prop} {w : World} {V V' : Nat → Value} {m m' : Nat → PV} {B B' : Nat → Prop} {v : Value} {p : PV}
theorem MemOk.rebase (h : MemOk pub w V m B v p) (hB : ∀ g, p ≠ .undef → (∀ s, p ≠ .yreg s false) → inB v g → B' g) : MemOk pub w V m B' v p := by
 cases h with
 | undef => exact .undef
 | yreg s own lo hi hv hh hp hB0 => exact .yreg s own lo hi hv hh hp (fun b h1 h2 h3 => hB b (fun e => by cases e) (fun s' e => by subst h3; cases e) (.inr ⟨lo, hi, hv, h1, h2⟩))
 | blk x cs g arr T hv _ hg hs hp hq hc hr => exact .blk x cs g arr T hv (hB g (by intro e; cases e) (fun s' e => by cases e) (by rw [hv]; exact .inl rfl)) hg hs hp hq hc hr
 | obj x e sz l xs hsz hmx hl how hp hq hc => exact .obj x e sz l xs hsz hmx hl ⟨how.1, fun g hg => hB g (by intro e; cases e) (fun s' e => by cases e) (.inl (ownBlock_blockOf hg))⟩ hp hq hc
theorem MemOk.move (h : MemOk pub w V m B v p) (hp : (∃ x e sz l, p = .obj x e sz l) ∨ (∃ x cs, p = .blk x cs ∧ ∀ c ∈ cs, c.plain = true) ∨ ∃ s own, p = .yreg s own) : MemOk pub w V' m' B v p := by
 cases h with
 | undef => exact .undef
 | yreg s own lo hi hv hh hp' hB0 => exact .yreg s own lo hi hv hh hp' hB0
 | blk x cs g arr T hv hB hg hs hp' hq hc hr =>
  rcases hp with ⟨_, _, _, _, e⟩ | ⟨_, _, e, hpl⟩ | ⟨_, _, e⟩
  ·cases e
  rotate_left
  ·cases e
  ·cases e
   exact .blk x cs g arr T hv hB hg hs hp' hq (fun j c hj => ⟨(hc j c hj).1, .pure ((hc j c hj).2.plain (hpl c (List.mem_of_getElem? hj)))⟩) hr
 | obj x e sz l xs hsz hmx hl how hp' hq hc => exact .obj x e sz l xs hsz hmx hl how hp' hq hc
theorem MemOk.excl (h : MemOk pub w V m B v p) (hp : (∃ e sz l, p = .obj true e sz l) ∨ (∃ cs, p = .blk true cs) ∨ ∃ s own, p = .yreg s own) {g o : Nat} (hg : inB v g) : ¬ pub g o := by
 intro hpub
 cases h with
 | undef => rcases hp with ⟨_, _, _, e⟩ | ⟨_, e⟩ | ⟨_, _, e⟩ <;> cases e
 | yreg s own lo hi hv hh hp' hB0 =>
  rcases hg with hg | ⟨lo', hi', h1, h2, h3⟩
  ·subst hv; cases hg
  ·rw [hv] at h1
   simp at h1
   exact hp' g o (by omega) (by omega) hpub
 | blk x cs g' arr T hv hB hh hs hp' hq hc hr =>
  rcases hp with ⟨_, _, _, e⟩ | ⟨_, e⟩ | ⟨_, _, e⟩
  ·cases e
  rotate_left
  ·cases e
  ·cases e
   subst hv
   have hg := inB_pointer hg
   simp [blockOf] at hg
   subst hg
   have := hp' o hpub
   cases this
 | obj x e sz l xs hsz hmx hl how hp' hq hc =>
  rcases hp with ⟨_, _, _, e⟩ | ⟨_, e⟩ | ⟨_, _, e⟩
  rotate_left
  ·cases e
  ·cases e
  ·cases e
   have hob : v.ownBlock = some g := by
    rcases how.1.2 with ⟨h1, _⟩ | ⟨g', cap, cur, h1, _⟩
    ·subst h1; have hg := inB_slice hg; cases hg
    ·subst h1; exact inB_slice hg
   have := (hp' g o hob hpub).1
   cases this
end
end Go.Px
namespace Go.Px
set_option linter.unusedSimpArgs false
set_option linter.unusedVariables false
open Go.RowKit

def FinM (P : Program) (fn : Func) (r : PV) (M1 : List (Nat × PV)) (s : St) : Prop := (∃ ps ps' G, ResAt P s fn.results.toList ps ∧ ResL s.mem ps ps' G ∧ resOf ps' = r ∧ ∀ n ∈ G, n % 64 ≠ 63) ∧ ∀ n, memOf M1 n ≠ .undef → s.mem n = memOf M1 n

theorem RR.narrow {pub : Nat → Nat → Prop} {w : World} {B B' : Nat → Prop} {p : PV} {v : Value} {gs : List Nat} (h : RR pub w B p v gs) : (∀ g ∈ gs, B' g) → RR pub w B' p v gs := by
 induction h with
 | pure p v h => exact fun _ => .pure p v h
 | fresh x e sz l v h =>
  intro hB
  refine .fresh x e sz l v (h.rebase fun g _ _ hg => hB g ?_)
  rw [← h.obj_block.1, h.one (fun e => by cases e) (fun s o e => by cases e) hg]; simp
 | agg cs arr gs hs hg hd hc ih => exact fun hB => .agg cs arr gs hs hg hd (fun j c g hj hgj => ih j c g hj hgj (fun b hb => hB b (List.mem_flatten.2 ⟨g, List.mem_of_getElem? hgj, hb⟩)))
 | tuple cs arr gs hs hg hc ih => exact fun hB => .tuple cs arr gs hs hg (fun j c g hj hgj => ih j c g hj hgj (fun b hb => hB b (List.mem_flatten.2 ⟨g, List.mem_of_getElem? hgj, hb⟩)))

theorem PCM.intro {P : Program} {f : FuncId} {fn : Func} {c : Code} {args : List PV} {M0 M1 : List (Nat × PV)} {r : PV} (hf : P.funcs[f]? = some fn) (hb : fn.body = some c) (hok : okFn P f = true) (hn : args.length ≤ fn.ntmps)
  (h0 : handB M0 = true) (h1 : handB M1 = true) (h01 : ∀ n, memOf M0 n ≠ .undef → memOf M1 n ≠ .undef) (hr01 : ∀ n own, memOf M0 n = .yreg true own → memOf M1 n = .yreg true own)
  (h : Run P fn.ntmps (FinM P fn r M1) [.code c] ⟨initSlot args, memOf M0⟩) : PCM P f args M0 r M1 := by
 refine ⟨hok, fun w pub V vals hgp hpub hlen hmem hap hrep => ?_⟩
 refine calls_of_wp hf hb ?_
 have hrel : Rel fn.ntmps (⟨⟨w, blocksOf V M0, V⟩, hgp⟩ : Base P) pub ⟨initSlot args, memOf M0⟩ { tmps := vals.toArray ++ Array.replicate (fn.ntmps - vals.toArray.size) undef, defers := [] } w := by
  refine ⟨pub, V, fun _ _ h => h, fun _ _ h => .inl h, ⟨rfl, by simp; omega, BelowB.refl _ _, fun _ _ => rfl, hpub, fun t => ?_, fun n => (hmem n).rebase fun g hu hs hg => .inr ⟨n, hu, fun own e => (by
   rcases (handB_spec h0 n hu).2 with ⟨_, _, _, e'⟩ | ⟨_, e', _⟩ | ⟨_, e'⟩
   ·rw [e'] at e; cases e
   ·rw [e'] at e; cases e
   ·rw [e'] at e; cases e; exact hs _ e'), hg⟩, hap, fun b o ho hb0 => absurd (hpub b o ho) (by show ¬ _; have : w.heap.size ≤ b := hb0; omega), fun n own _ _ => .refl _ _⟩⟩
  have hsl := initSlot_get args t
  show RV pub w _ _ (initSlot args t) _
  rw [hsl]
  by_cases ht : t < args.length
  ·have h1 : args[t]? = some args[t] := List.getElem?_eq_getElem ht
   have h2 : vals[t]? = some (vals[t]'(by omega)) := List.getElem?_eq_getElem (by omega)
   have := hrep t _ _ h1 h2
   have h3 : (vals.toArray ++ Array.replicate (fn.ntmps - vals.toArray.size) undef).getD t Go.undef = vals[t]'(by omega) := by
    simp [Array.getElem?_append_left (show t < vals.toArray.size by simp; omega), show t < vals.length by omega]
   simp only [h1, Option.getD_some]
   rw [h3]; exact this
  ·have h1 : args[t]? = none := List.getElem?_eq_none (by omega)
   simp only [h1, Option.getD_none]
   exact .undef _
 refine Code.wp_mono (fun e a w' q => ?_) (h _ pub _ _ hrel)
 have fin : (∃ s, FinM P fn r M1 s ∧ Rel fn.ntmps (⟨⟨w, blocksOf V M0, V⟩, hgp⟩ : Base P) pub s a w') → a.defers = [] ∧ ∃ v, (results fn a.tmps).run P w' = .ok v w' ∧ ∃ v_1, Ending.returned v = .returned v_1 ∧ BelowB ⟨w, blocksOf V M0, V⟩ w w' ∧ ∃ pub', (∀ b o, pub b o → pub' b o) ∧ (∀ b o, pub' b o → pub b o ∨ w.heap.size ≤ b) ∧ (∀ b o, pub' b o → b < w'.heap.size ∧ (w.heap.size ≤ b → w'.frozen? ⟨b, o, none⟩ = false)) ∧
   (∀ n, memOf M1 n ≠ .undef → MemOk pub' w' V (memOf M1) (fun _ => True) (V n) (memOf M1 n)) ∧ (∀ n own, memOf M0 n = .yreg true own → SkW (regB (V n)) w w') ∧ ∃ gs, RR pub' w' (fun b => w.heap.size ≤ b) r v_1 gs ∧ gs.Nodup := by
  rintro ⟨s, ⟨⟨ps, ps', G, hat, hres, hrr, hG⟩, hM⟩, pub', V', c1, c2, hrel'⟩
  obtain ⟨vs, g1, g2, g3⟩ := results_run hrel' hat
  obtain ⟨gss, g4, g5', g6, g7⟩ := hres.sound hrel' vs g2 g3
  have hl := hres.length
  have hV : ∀ n, memOf M1 n ≠ .undef → V' n = V n := fun n hu => hrel'.fixed n (handB_spec h1 n hu).1
  have hmo : ∀ n, memOf M1 n ≠ .undef → MemOk pub' w' V (memOf M1) (fun _ => True) (V n) (memOf M1 n) := fun n hu => by
   have := hrel'.mem n
   rw [hM n hu, hV n hu] at this
   refine (this.rebase fun _ _ _ _ => trivial).move ?_
   rcases (handB_spec h1 n hu).2 with ⟨e, sz, l, h⟩ | ⟨cs, h, hp⟩ | ⟨s', h⟩
   ·exact .inl ⟨_, _, _, _, h⟩
   ·exact .inr (.inl ⟨_, _, h, hp⟩)
   ·exact .inr (.inr ⟨_, _, h⟩)
  have hnew : ∀ g ∈ gss.flatten, w.heap.size ≤ g := fun g hg => by
   obtain ⟨n, hn, hu, hb⟩ := g7 g hg
   rcases ((hrel'.mem n).block_ge hu hb).1 with h | ⟨m, hum, _, hbm⟩
   ·exact h
   ·have hu1 := h01 m hum
    have h63 := (handB_spec h0 m hum).1
    have := hrel'.apart n m g hu (by rw [hM m hu1]; exact hu1) (.inl hb) (by rw [hV m hu1]; exact hbm)
    subst this
    exact absurd h63 (hG _ hn)
  have g5 : ∀ (i : Nat) p v g, ps'[i]? = some p → vs[i]? = some v → gss[i]? = some g → RR pub' w' (fun b => w.heap.size ≤ b) p v g := fun i p v g a1 a2 a3 =>
   (g5' i p v g a1 a2 a3).narrow fun b hb => hnew b (List.mem_flatten.2 ⟨g, List.mem_of_getElem? a3, hb⟩)
  refine ⟨hrel'.defers, (if h : vs.length = 1 then vs[0] else .tuple vs.toArray), g1, _, rfl, hrel'.below, pub', c1, fun b o ho => ?_, fun b o ho => ⟨hrel'.pubLt b o ho, hrel'.soft b o ho⟩, hmo, fun n own hn => ?_, ?_⟩
  ·rcases c2 b o ho with h | h | ⟨n, hu, _, hb⟩
   ·exact .inl h
   ·exact .inr h
   ·have hu1 := h01 n hu
    refine absurd ho ((hmo n hu1).excl ?_ hb)
    rcases (handB_spec h1 n hu1).2 with ⟨e, sz, l, h⟩ | ⟨cs, h, _⟩ | ⟨s', h⟩
    ·exact .inl ⟨_, _, _, h⟩
    ·exact .inr (.inl ⟨_, h⟩)
    ·exact .inr (.inr ⟨_, _, h⟩)
  ·have hu : memOf M0 n ≠ .undef := by rw [hn]; intro e; cases e
   have hu1 := hr01 n own hn
   have := hrel'.skel n own (handB_spec h0 n hu).1 ((hM n (h01 n hu)).trans hu1)
   rwa [hV n (h01 n hu)] at this
  ·refine ⟨gss.flatten, ?_, g6⟩
   subst hrr
   match ps', vs, gss, g4, (show vs.length = ps'.length by omega), g5 with
   | [p], [v], [g], _, _, h5 => simpa [resOf] using h5 0 p v g rfl rfl rfl
   | [], [], [], _, _, h5 => simpa [resOf] using RR.tuple [] #[] [] rfl rfl (fun j c g h => by simp at h)
   | p :: q :: ps', v :: u :: vs, gss, h4, hvl, h5 =>
    have : ¬ ((v :: u :: vs).length = 1) := by simp
    rw [dif_neg this]
    refine .tuple _ _ gss (by simpa using hvl) (by simpa using h4) (fun j c g hj hg => ?_)
    have hjl : j < (v :: u :: vs).length := by rw [hvl]; exact (List.getElem?_eq_some_iff.1 hj).1
    have hget : ∀ (L : List Value) (h : j < L.length), L.toArray.getD j Go.undef = L[j] := fun L h => by simp [h]
    rw [hget _ hjl]
    exact h5 j c _ g hj (List.getElem?_eq_getElem hjl) hg
 cases e with
 | normal => exact fin q
 | ret => exact fin q
 | _ => exact q.elim
end Go.Px
namespace Go.Px
set_option linter.unusedSimpArgs false
set_option linter.unusedVariables false
open Go.RowKit

def nameOf (Hs : List (Nat × Nat)) (n : Nat) : Option Nat := (Hs.find? fun q => q.1 == n).map (·.2)
theorem nameOf_mem {Hs : List (Nat × Nat)} {n c : Nat} (h : nameOf Hs n = some c) : (n, c) ∈ Hs := by
 unfold nameOf at h
 cases hf : Hs.find? fun q => q.1 == n with
 | none => rw [hf] at h; cases h
 | some q =>
  rw [hf] at h
  simp at h
  subst h
  have h1 := List.find?_some hf
  have h2 := List.mem_of_find?_eq_some hf
  simp at h1
  rw [← h1]; exact h2
def placeOf (V : Nat → Value) (Hs : List (Nat × Nat)) (n : Nat) : Value := match nameOf Hs n with
 | some c => V c
 | none => Go.undef
inductive HandR : PV → PV → Prop where
 | same (p : PV) : HandR p p
 | reg (own : Bool) : HandR (.yreg false false) (.yreg false own)
theorem HandR.eq {p q : PV} (h : HandR p q) (hq : ∀ own, q ≠ .yreg false own) : p = q := by
 cases h with
 | same => rfl
 | reg own => exact absurd rfl (hq own)
theorem HandR.yngG {p q : PV} (h : HandR p q) {own : Bool} (hq : q = .yreg false own) : ∃ own', p = .yreg false own' ∧ (own' = true → own = true) := by
 cases h with
 | same => exact ⟨own, hq, id⟩
 | reg _ => exact ⟨false, rfl, fun e => by cases e⟩
theorem HandR.yngF {p q : PV} (h : HandR p q) {own : Bool} (hq : q = .yreg false own) : ∃ own', p = .yreg false own' := by
 cases h with
 | same => exact ⟨own, hq⟩
 | reg _ => exact ⟨false, rfl⟩
inductive HandL (Hs : List (Nat × Nat)) (m : Nat → PV) : List PV → List PV → List Nat → Prop where
 | nil : HandL Hs m [] [] []
 | pure (p p' : PV) (ps ps' : List PV) (R R' : List Nat) (hp : PurL m [p] [p'] R) (h : HandL Hs m ps ps' R') : HandL Hs m (p :: ps) (p' :: ps') (R ++ R')
 | own (n c k e sz : Nat) (x : Bool) (l ps ps' : List PV) (R : List Nat) (hn : nameOf Hs n = some c) (hm : m c = .obj x e sz l) (hk : k = l.length) (h : HandL Hs m ps ps' R) : HandL Hs m (.own c k :: ps) (.own n k :: ps') (c :: R)
 | lptr (n c off : Nat) (x : Bool) (cs ps ps' : List PV) (R : List Nat) (hn : nameOf Hs n = some c) (hm : m c = .blk x cs) (h : HandL Hs m ps ps' R) : HandL Hs m (.lptr c off :: ps) (.lptr n off :: ps') (c :: R)
 | yng (n c : Nat) (own : Bool) (p : PV) (ps ps' : List PV) (R : List Nat) (hn : nameOf Hs n = some c) (hm : m c = .yreg false own) (h : HandL Hs m ps ps' R) : HandL Hs m (.yng c p :: ps) (.yng n p :: ps') (c :: R)
 | ysk (n c : Nat) (own : Bool) (p : PV) (ps ps' : List PV) (R : List Nat) (hn : nameOf Hs n = some c) (hm : m c = .yreg true own) (h : HandL Hs m ps ps' R) : HandL Hs m (.ysk c p :: ps) (.ysk n p :: ps') (c :: R)
 | agg (cs cs' ps ps' : List PV) (R R' : List Nat) (hc : HandL Hs m cs cs' R) (h : HandL Hs m ps ps' R') : HandL Hs m (.agg cs :: ps) (.agg cs' :: ps') (R ++ R')
theorem HandL.length {Hs : List (Nat × Nat)} {m : Nat → PV} {ps ps' : List PV} {R : List Nat} (h : HandL Hs m ps ps' R) : ps'.length = ps.length := by
 induction h <;> simp_all
section
variable {P : Program} {N : Nat} {w0 : Base P} {w w' : World} {pub pub' : Nat → Nat → Prop} {V : Nat → Value} {s : St} {a : Act}
theorem HandL.rep (h : Rel0 N w0 pub V s a w) {Hs : List (Nat × Nat)} {M0 : List (Nat × PV)} (hM : ∀ n c, nameOf Hs n = some c → HandR (memOf M0 n) (s.mem c)) {ps ps' : List PV} {R : List Nat} (hp : HandL Hs s.mem ps ps' R) :
  ∀ (i : Nat) p p' v, ps[i]? = some p → ps'[i]? = some p' → RV pub w V s.mem p v → RV pub w (placeOf V Hs) (memOf M0) p' v := by
 induction hp with
 | nil => intro i p p' v h1; simp at h1
 | pure q q' ps ps' R R' hq _ ih =>
  intro i p p' v h1 h2 hv
  cases i with
  | zero => simp at h1 h2; subst h1; subst h2; exact .pure (hq.rep h 0 _ _ v rfl rfl hv)
  | succ i => exact ih i p p' v (by simpa using h1) (by simpa using h2) hv
 | own n c k e sz x l ps ps' R hn hm hk _ ih =>
  intro i p p' v h1 h2 hv
  cases i with
  | zero =>
   simp at h1 h2; subst h1; subst h2
   obtain ⟨x', e', sz', l', hm', _, hv'⟩ := hv.own_inv
   rw [hm] at hm'; cases hm'
   exact .ref (.own n k v x e sz l (((hM n c hn).eq (by rw [hm]; intro _ e; cases e)).trans hm) (Nat.le_of_eq hk) (fun e => by rw [hv' e]; simp [placeOf, hn]))
  | succ i => exact ih i p p' v (by simpa using h1) (by simpa using h2) hv
 | lptr n c off x cs ps ps' R hn hm _ ih =>
  intro i p p' v h1 h2 hv
  cases i with
  | zero =>
   simp at h1 h2; subst h1; subst h2
   obtain ⟨x', cs', b, hm', hb, rfl⟩ := hv.lptr_inv
   exact .ref (.lptr n off x cs b (((hM n c hn).eq (by rw [hm]; intro _ e; cases e)).trans hm) (by simp [placeOf, hn, hb]))
  | succ i => exact ih i p p' v (by simpa using h1) (by simpa using h2) hv
 | yng n c own q ps ps' R hn hm _ ih =>
  intro i p p' v h1 h2 hv
  cases i with
  | zero =>
   simp at h1 h2; subst h1; subst h2
   have hpl : placeOf V Hs n = V c := by simp [placeOf, hn]
   cases hv with
   | pure h => cases h
   | ref h => cases h
   | yng _ _ _ own' hm' h =>
    obtain ⟨own2, h2, h3⟩ := (hM n c hn).yngG hm'
    exact .yng n q v own2 h2 (by rw [hpl]; exact h.mono (fun b o hb => ⟨hb.1, fun e => hb.2 (h3 e)⟩) (fun _ _ _ => rfl))
  | succ i => exact ih i p p' v (by simpa using h1) (by simpa using h2) hv
 | ysk n c own q ps ps' R hn hm _ ih =>
  intro i p p' v h1 h2 hv
  cases i with
  | zero =>
   simp at h1 h2; subst h1; subst h2
   have hpl : placeOf V Hs n = V c := by simp [placeOf, hn]
   cases hv with
   | pure h => cases h
   | ref h => cases h
   | ysk _ _ _ own' hm' h => exact .ysk n q v own (((hM n c hn).eq (by rw [hm]; intro _ e; cases e)).trans hm) (by rw [hpl]; exact h)
  | succ i => exact ih i p p' v (by simpa using h1) (by simpa using h2) hv
 | agg cs cs' ps ps' R R' hc _ ihc ih =>
  intro i p p' v h1 h2 hv
  cases i with
  | zero =>
   simp at h1 h2; subst h1; subst h2
   obtain ⟨arr, rfl, hs, hdc⟩ := hv.agg_inv
   have hd := fun j c hj => (hdc j c hj).1
   have hcc := fun j c hj => (hdc j c hj).2
   have hl := hc.length
   refine .agg cs' arr (hs.trans hl.symm) (fun j c hj => ?_) (fun j c hj => ?_)
   ·exact hd j _ (List.getElem?_eq_getElem (by rw [← hl]; exact (List.getElem?_eq_some_iff.1 hj).1))
   ·have hlt : j < cs.length := by rw [← hl]; exact (List.getElem?_eq_some_iff.1 hj).1
    exact ihc j _ c _ (List.getElem?_eq_getElem hlt) hj (hcc j _ (List.getElem?_eq_getElem hlt))
  | succ i => exact ih i p p' v (by simpa using h1) (by simpa using h2) hv

def isRead : PV → Bool
 | .yreg false _ => true
 | _ => false
def memBack (m : Nat → PV) (Hs : List (Nat × Nat)) (M1 : List (Nat × PV)) (k : Nat) : PV := match Hs.find? fun q => q.2 == k with
 | some q => bif isRead (memOf M1 q.1) then m k else memOf M1 q.1
 | none => m k
inductive Kin : PV → PV → Prop where
 | obj (x y : Bool) (e sz : Nat) (l l' : List PV) : Kin (.obj x e sz l) (.obj y e sz l')
 | blk (x y : Bool) (cs cs' : List PV) : Kin (.blk x cs) (.blk y cs')
 | yreg (s own : Bool) : Kin (.yreg s own) (.yreg s own)
theorem Kin.ne {p q : PV} (h : Kin p q) : p ≠ .undef ∧ q ≠ .undef := by cases h <;> exact ⟨(fun e => by cases e), (fun e => by cases e)⟩
inductive KinL : PV → PV → Prop where
 | obj (x y : Bool) (e sz : Nat) (l l' : List PV) (hl : l'.length = l.length) : KinL (.obj x e sz l) (.obj y e sz l')
 | blk (x y : Bool) (cs cs' : List PV) : KinL (.blk x cs) (.blk y cs')
 | yreg (s own : Bool) : KinL (.yreg s own) (.yreg s own)
theorem MemOk.len {pub pub' : Nat → Nat → Prop} {w w' : World} {V V' : Nat → Value} {m m' : Nat → PV} {B B' : Nat → Prop} {v : Value} {x y : Bool} {e sz : Nat} {l l' : List PV} (h : MemOk pub w V m B v (.obj x e sz l)) (h' : MemOk pub' w' V' m' B' v (.obj y e sz l')) : l'.length = l.length := by
 cases h with
 | obj _ _ _ _ xs hsz hmx hl how hp hq hc =>
  cases h' with
  | obj _ _ _ _ xs' hsz' hmx' hl' how' hp' hq' hc' =>
   rcases how.1.2 with ⟨h1, h2⟩ | ⟨g, cap, cur, h1, _⟩
   ·rcases how'.1.2 with ⟨h3, h4⟩ | ⟨g', cap', cur', h3, _⟩
    ·omega
    ·rw [h1] at h3; cases h3
   ·rcases how'.1.2 with ⟨h3, h4⟩ | ⟨g', cap', cur', h3, _⟩
    ·rw [h1] at h3; cases h3
    ·rw [h1] at h3; injection h3 with a b c; exact b.symm
theorem Kin.len {pub pub' : Nat → Nat → Prop} {w w' : World} {V V' : Nat → Value} {m m' : Nat → PV} {B B' : Nat → Prop} {v : Value} {p q : PV} (k : Kin p q) (h : MemOk pub w V m B v p) (h' : MemOk pub' w' V' m' B' v q) : KinL p q := by
 cases k with
 | obj x y e sz l l' => exact .obj x y e sz l l' (h.len h')
 | blk x y cs cs' => exact .blk x y cs cs'
 | yreg s own => exact .yreg s own
structure HandF (m : Nat → PV) (Hs : List (Nat × Nat)) (M0 M1 : List (Nat × PV)) : Prop where
 at_ : ∀ n c, nameOf Hs n = some c → HandR (memOf M0 n) (m c)
 dom : ∀ n, memOf M0 n ≠ .undef → ∃ c, nameOf Hs n = some c
 back : ∀ k q, (Hs.find? fun q => q.2 == k) = some q → nameOf Hs q.1 = some k
 none_ : ∀ n c, nameOf Hs n = some c → (Hs.find? fun q => q.2 == c) = some (n, c)
 kin : ∀ n c, nameOf Hs n = some c → Kin (memOf M0 n) (memOf M1 n)
 h0 : handB M0 = true
 h1 : handB M1 = true
theorem Rel0.handed (h : Rel0 N w0 pub V s a w) {Hs : List (Nat × Nat)} {M0 M1 : List (Nat × PV)} (hh : HandF s.mem Hs M0 M1) (hb : BelowB ⟨w, blocksOf (placeOf V Hs) M0, placeOf V Hs⟩ w w')
  (p1 : ∀ b o, pub b o → pub' b o) (p2 : ∀ b o, pub' b o → pub b o ∨ w.heap.size ≤ b) (p3 : ∀ b o, pub' b o → b < w'.heap.size ∧ (w.heap.size ≤ b → w'.frozen? ⟨b, o, none⟩ = false))
  (hmem : ∀ n, memOf M1 n ≠ .undef → MemOk pub' w' (placeOf V Hs) (memOf M1) (fun _ => True) (placeOf V Hs n) (memOf M1 n)) (hsk : ∀ n own, memOf M0 n = .yreg true own → SkW (regB (placeOf V Hs n)) w w') :
  Rel0 N w0 pub' V { s with mem := memBack s.mem Hs M1 } a w' ∧ (∀ p v, RV pub w V s.mem p v → RV pub' w' V (memBack s.mem Hs M1) p v) ∧ (∀ k, memBack s.mem Hs M1 k ≠ .undef → s.mem k ≠ .undef) := by
 have hsz : w0.w.heap.size ≤ w.heap.size := h.below.size
 have hne : ∀ n c, nameOf Hs n = some c → s.mem c ≠ .undef := fun n c hn e => by
  have h1 := hh.at_ n c hn
  have h2 := (hh.kin n c hn).ne.1
  rw [e] at h1
  generalize memOf M0 n = p at h1 h2
  cases h1 with
  | same => exact h2 rfl
 have hpl : ∀ n c, nameOf Hs n = some c → placeOf V Hs n = V c := fun n c hn => by simp [placeOf, hn]
 -- a handed name that is no region to be read
 have hback : ∀ n k, nameOf Hs n = some k → (∀ own, s.mem k ≠ .yreg false own) → memOf M0 n = s.mem k ∧ memBack s.mem Hs M1 k = memOf M1 n := fun n k hn hk => by
  have e := (hh.at_ n k hn).eq hk
  refine ⟨e, ?_⟩
  have hr : isRead (memOf M1 n) = false := by
   have hkin := hh.kin n k hn
   rw [e] at hkin
   generalize s.mem k = p at hk hkin
   generalize memOf M1 n = q at hkin
   cases hkin with
   | obj => rfl
   | blk => rfl
   | yreg s' own => cases s' with | true => rfl | false => exact absurd rfl (hk own)
  simp [memBack, hh.none_ n k hn, hr]
 have hread : ∀ n k own, nameOf Hs n = some k → s.mem k = .yreg false own → memBack s.mem Hs M1 k = s.mem k := fun n k own hn hk => by
  have hr : isRead (memOf M1 n) = true := by
   have hkin := hh.kin n k hn
   obtain ⟨own', e⟩ := (hh.at_ n k hn).yngF hk
   rw [e] at hkin
   generalize memOf M1 n = q at hkin
   cases hkin with
   | yreg s' own => rfl
  simp [memBack, hh.none_ n k hn, hr]
 have hkeep : ∀ k, ¬ (∃ n, nameOf Hs n = some k ∧ ∀ own, s.mem k ≠ .yreg false own) → memBack s.mem Hs M1 k = s.mem k := fun k hk => by
  by_cases hx : ∃ n, nameOf Hs n = some k
  ·obtain ⟨n, hn⟩ := hx
   by_cases hy : ∃ own, s.mem k = .yreg false own
   ·obtain ⟨own, hy⟩ := hy
    exact hread n k own hn hy
   ·exact absurd ⟨n, hn, fun own e => hy ⟨own, e⟩⟩ hk
  ·unfold memBack
   cases hf : Hs.find? fun q => q.2 == k with
   | none => rfl
   | some q => exact absurd ⟨q.1, hh.back k q hf⟩ hx
 -- a block that is not of a handed name stays
 have stay : ∀ g, g < w.heap.size → (∀ n c, nameOf Hs n = some c → (∀ own, s.mem c ≠ .yreg false own) → ¬ inB (V c) g) → w'.heap[g]? = w.heap[g]? := fun g hg hn => hb.block g (fun ho => by
  rcases ho with ho | ⟨n, hu, hs, hbn⟩
  ·exact absurd hg (Nat.not_lt.2 ho)
  ·obtain ⟨c, hc⟩ := hh.dom n hu
   rw [hpl n c hc] at hbn
   refine hn n c hc (fun own e => ?_) hbn
   obtain ⟨own', e'⟩ := (hh.at_ n c hc).yngF e
   exact hs own' e')
 have notpub : ∀ c g o, s.mem c ≠ .undef → (∀ x e sz l, s.mem c = .obj x e sz l → x = true) → (∀ x cs, s.mem c = .blk x cs → x = true) → inB (V c) g → ¬ pub g o := fun c g o hu h1 h2 hg => by
  refine (h.mem c).excl ?_ hg
  cases hc : s.mem c with
  | undef => exact absurd hc hu
  | obj x e sz l => have := h1 x e sz l hc; subst this; exact .inl ⟨_, _, _, rfl⟩
  | blk x cs => have := h2 x cs hc; subst this; exact .inr (.inl ⟨_, rfl⟩)
  | yreg s' own => exact .inr (.inr ⟨_, _, rfl⟩)
  | _ => have := h.mem c; rw [hc] at this; cases this
 have notpubH : ∀ n c g o, nameOf Hs n = some c → inB (V c) g → ¬ pub g o := fun n c g o hn hg => by
  have h1 := hh.at_ n c hn
  have hsp := (handB_spec hh.h0 n (hh.kin n c hn).ne.1).2
  refine notpub c g o (hne n c hn) (fun x e sz l hx => ?_) (fun x cs hx => ?_) hg
  ·rw [h1.eq (by rw [hx]; intro _ e; cases e), hx] at hsp
   rcases hsp with ⟨_, _, _, e⟩ | ⟨_, e, _⟩ | ⟨_, e⟩
   ·cases e; rfl
   ·cases e
   ·cases e
  ·rw [h1.eq (by rw [hx]; intro _ e; cases e), hx] at hsp
   rcases hsp with ⟨_, _, _, e⟩ | ⟨_, e, _⟩ | ⟨_, e⟩
   ·cases e
   ·cases e; rfl
   ·cases e
 have refs : ∀ p v, RefOk V s.mem p v → RefOk V (memBack s.mem Hs M1) p v := fun p v hp => by
  have look : ∀ k, s.mem k ≠ .undef → memBack s.mem Hs M1 k = s.mem k ∨ KinL (s.mem k) (memBack s.mem Hs M1 k) := fun k _ => by
   by_cases hk : ∃ n, nameOf Hs n = some k ∧ ∀ own, s.mem k ≠ .yreg false own
   ·obtain ⟨n, hn, hy⟩ := hk
    obtain ⟨e0, e⟩ := hback n k hn hy
    rw [e, ← e0]
    have h2 := hmem n (hh.kin n k hn).ne.2
    rw [hpl n k hn] at h2
    exact .inr ((hh.kin n k hn).len (v := V k) (e0 ▸ h.mem k) h2)
   ·exact .inl (hkeep k hk)
  cases hp with
  | own k j _ x e sz l hm hk hv =>
   rcases look k (by rw [hm]; intro e; cases e) with e1 | e1
   ·exact .own k j v x e sz l (e1.trans hm) hk hv
   ·rw [hm] at e1
    generalize hq : memBack s.mem Hs M1 k = q at e1
    cases e1 with
    | obj _ y _ _ _ l' hl => exact .own k j v y e sz l' hq (by omega) (fun e => hv (by omega))
  | lptr k off x cs b hm hv =>
   rcases look k (by rw [hm]; intro e; cases e) with e1 | e1
   ·exact .lptr k off x cs b (e1.trans hm) hv
   ·rw [hm] at e1
    generalize hq : memBack s.mem Hs M1 k = q at e1
    cases e1 with
    | blk _ y _ cs' => exact .lptr k off y cs' b hq hv
  | eptr k j i off _ x e sz l hm hk hv =>
   rcases look k (by rw [hm]; intro e; cases e) with e1 | e1
   ·exact .eptr k j i off v x e sz l (e1.trans hm) hk hv
   ·rw [hm] at e1
    generalize hq : memBack s.mem Hs M1 k = q at e1
    cases e1 with
    | obj _ y _ _ _ l' hl =>
     refine .eptr k j i off v y e sz l' hq (by omega) (fun e => ?_)
     obtain ⟨g, cap, h1, h2⟩ := hv (by omega)
     exact ⟨g, cap, by rw [hl]; exact h1, h2⟩
  | osl k j i i2 _ x e sz l hm hk hij hv =>
   rcases look k (by rw [hm]; intro e; cases e) with e1 | e1
   ·exact .osl k j i i2 v x e sz l (e1.trans hm) hk hij hv
   ·rw [hm] at e1
    generalize hq : memBack s.mem Hs M1 k = q at e1
    cases e1 with
    | obj _ y _ _ _ l' hl =>
     refine .osl k j i i2 v y e sz l' hq (by omega) hij (fun e => ?_)
     obtain ⟨g, cap, h1, h2⟩ := hv (by omega)
     exact ⟨g, cap, by rw [hl]; exact h1, h2⟩
 have t : Tr pub w V s.mem pub' w' V (memBack s.mem Hs M1) (fun k => ∃ n, nameOf Hs n = some k ∧ ∀ own, s.mem k ≠ .yreg false own) :=
  ⟨p1, fun b o ho => World.cell?_of_block (a := ⟨b, o, none⟩) (stay b (h.pubLt b o ho) fun n c hn _ hg => notpubH n c b o hn hg ho), refs, fun _ _ _ => rfl, hkeep,
  fun k g hk hu hg => ⟨stay g ((h.mem k).block_lt hu hg) (fun n c hn hy hgc => hk ⟨n, by rw [h.apart k c g hu (hne n c hn) hg hgc]; exact ⟨hn, hy⟩⟩), fun o ho => (p2 g o ho).resolve_right (by have := (h.mem k).block_lt hu hg; omega)⟩,
  fun c s' own ⟨n, hn, hy⟩ hm => by
   obtain ⟨e0, e⟩ := hback n c hn hy
   have hkin := hh.kin n c hn
   rw [e0, hm] at hkin
   cases s' with
   | false => exact absurd hm (hy own)
   | true =>
    rw [e]
    generalize memOf M1 n = q at hkin
    cases hkin with
    | yreg _ _ =>
     refine ⟨rfl, rfl, rfl, ?_⟩
     have := hsk n own (e0.trans hm)
     rwa [hpl n c hn] at this⟩
 have hbel : BelowB w0 w w' := ⟨hb.os, hb.tape, hb.output, hb.size, fun g hg => by
  have h1 : ¬ w0.w.heap.size ≤ g := fun e => hg (.inl e)
  refine stay g (by omega) (fun n c hn hy hgc => hg ?_)
  by_cases hr : ∀ s' own, s.mem c ≠ .yreg s' own
  ·exact ((h.mem c).block_ge (hne n c hn) ((h.mem c).one (hne n c hn) hr hgc)).1
  ·simp only [Classical.not_forall, Classical.not_not] at hr
   obtain ⟨s', own, hr⟩ := hr
   have hmc := h.mem c
   have e0 := (hh.at_ n c hn).eq hy
   have hsp := (handB_spec hh.h0 n (hh.kin n c hn).ne.1).2
   rw [e0, hr] at hsp
   rw [hr] at hmc
   generalize V c = vc at hmc hgc
   rcases hsp with ⟨_, _, _, e⟩ | ⟨_, e, _⟩ | ⟨s2, e⟩
   ·cases e
   ·cases e
   ·cases s' with
    | false => exact absurd hr (hy _)
    | true =>
     have ho : own = true := by injection e with a b; rw [b, ← a]
     cases hmc with
     | yreg _ _ lo hi hv hh' hp' hB0 =>
      rcases hgc with hgc | ⟨lo', hi', k1, k2, k3⟩
      ·subst hv; cases hgc
      ·rw [hv] at k1
       simp at k1
       exact hB0 g (by omega) (by omega) ho⟩
 have ud : ∀ k, memBack s.mem Hs M1 k ≠ .undef → s.mem k ≠ .undef := fun k hk => by
  by_cases hx : ∃ n, nameOf Hs n = some k
  ·obtain ⟨n, hn⟩ := hx; exact hne n k hn
  ·rwa [hkeep k (fun ⟨n, hn, _⟩ => hx ⟨n, hn⟩)] at hk
 refine ⟨h.turn t hbel (fun _ _ => rfl) (fun b o ho => (p3 b o ho).1) (fun k ⟨n, hn, hy⟩ => ?_) (fun i k g hik hi hk e1 e2 => hik (h.apart i k g (ud i hi) (ud k hk) e1 e2)) (fun i own _ hm => ?_) (fun b o ho hb0 => by
  by_cases hn : w.heap.size ≤ b
  ·exact (p3 b o ho).2 hn
  ·have ho1 := (p2 b o ho).resolve_right hn
   rw [frozenOB' (stay b (by omega) fun n c hn _ hg => notpubH n c b o hn hg ho1)]
   exact h.soft b o ho1 hb0), fun p v hp => t.rv hp, ud⟩
 ·obtain ⟨e0, e⟩ := hback n k hn hy
  rw [e]
  have hm := hmem n (hh.kin n k hn).ne.2
  rw [hpl n k hn] at hm
  have hsp := (handB_spec hh.h1 n (hh.kin n k hn).ne.2).2
  refine (hm.rebase fun g hu hs' hg => ?_).move ?_
  ·have hkin := hh.kin n k hn
   have hmk := h.mem k
   rw [e0] at hkin
   generalize hsk' : s.mem k = q at hkin hmk
   generalize memOf M1 n = q1 at hkin hm hs' hsp
   generalize V k = vk at hm hmk hg
   cases hkin with
   | obj x y e sz l l' => exact (hmk.block_ge (fun e => by cases e) (hmk.one (fun e => by cases e) (fun s o e => by cases e) hg)).1
   | blk x y cs cs' => exact (hmk.block_ge (fun e => by cases e) (hmk.one (fun e => by cases e) (fun s o e => by cases e) hg)).1
   | yreg s' own =>
    rcases hsp with ⟨_, _, _, e⟩ | ⟨_, e, _⟩ | ⟨s2, e⟩
    ·cases e
    ·cases e
    ·have ho : own = s' := by injection e with a b; rw [b, ← a]
     cases s' with
     | false => subst ho; exact absurd rfl (hs' _)
     | true =>
      cases hmk with
      | yreg _ _ lo hi hv hh' hp' hB0 =>
       rcases hg with hg | ⟨lo', hi', k1, k2, k3⟩
       ·subst hv; cases hg
       ·rw [hv] at k1
        simp at k1
        exact hB0 g (by omega) (by omega) ho
  ·rcases hsp with ⟨e, sz, l, h⟩ | ⟨cs, h, hp⟩ | ⟨s2, h⟩
   ·exact .inl ⟨_, _, _, _, h⟩
   ·exact .inr (.inl ⟨_, _, h, hp⟩)
   ·exact .inr (.inr ⟨_, _, h⟩)
 ·by_cases hx : ∃ n, nameOf Hs n = some i ∧ ∀ own, s.mem i ≠ .yreg false own
  ·obtain ⟨n, hn, hy⟩ := hx
   obtain ⟨e0, e⟩ := hback n i hn hy
   have hkin := hh.kin n i hn
   have hm' : memBack s.mem Hs M1 i = .yreg true own := hm
   rw [← e, hm', e0] at hkin
   generalize s.mem i = q at hkin
   cases hkin with
   | yreg _ _ => rfl
  ·rw [← hkeep i hx]; exact hm

def backU (Hs : List (Nat × Nat)) (M1 : List (Nat × PV)) : List (Nat × PV) := Hs.filterMap fun q => bif isRead (memOf M1 q.1) then none else some (q.2, memOf M1 q.1)
theorem memBack_eq (M1 : List (Nat × PV)) : ∀ (Hs : List (Nat × Nat)) (m : Nat → PV), (Hs.map (·.2)).Nodup → memBack m Hs M1 = upds m (backU Hs M1)
 | [], m, _ => rfl
 | (n, c) :: Hs, m, h => by
  simp only [List.map_cons, List.nodup_cons] at h
  have hno : (Hs.find? fun q => q.2 == c) = none := by
   rw [List.find?_eq_none]
   intro q hq hc
   exact h.1 (List.mem_map.2 ⟨q, hq, by simpa using hc⟩)
  have ih := fun m => memBack_eq M1 Hs m h.2
  cases hr : isRead (memOf M1 n) with
  | true =>
   have e : backU ((n, c) :: Hs) M1 = backU Hs M1 := by simp [backU, List.filterMap_cons, hr]
   rw [e, ← ih]
   funext k
   unfold memBack
   simp only [List.find?_cons]
   by_cases e : c = k
   ·subst e; rw [hno]; simp [hr]
   ·simp only [show (c == k) = false by simpa using e]
  | false =>
   have e : backU ((n, c) :: Hs) M1 = (c, memOf M1 n) :: backU Hs M1 := by simp [backU, List.filterMap_cons, hr]
   rw [e, upds, ← ih]
   funext k
   unfold memBack
   simp only [List.find?_cons]
   by_cases e : c = k
   ·subst e; rw [hno]; simp [upd, hr]
   ·simp only [show (c == k) = false by simpa using e]
    cases hf : Hs.find? fun q => q.2 == k with
    | none => simp [upd, Ne.symm e]
    | some q => simp [upd, Ne.symm e]
theorem HandF.local {m m2 : Nat → PV} {Hs : List (Nat × Nat)} {M0 M1 : List (Nat × PV)} (h : HandF m Hs M0 M1) (e : ∀ n c, nameOf Hs n = some c → m2 c = m c) : HandF m2 Hs M0 M1 :=
 ⟨fun n c hn => by rw [e n c hn]; exact h.at_ n c hn, h.dom, h.back, h.none_, h.kin, h.h0, h.h1⟩
theorem PurL.local {m m' : Nat → PV} {ps ps' : List PV} {R : List Nat} (h : PurL m ps ps' R) (hm : ∀ n ∈ R, m' n = m n) : PurL m' ps ps' R := by
 induction h with
 | nil => exact .nil
 | plain p ps ps' R hp _ ih => exact .plain p ps ps' R hp (ih hm)
 | own n k e sz l ps ps' R h1 hk _ ih => exact .own n k e sz l ps ps' R ((hm n (by simp)).trans h1) hk (ih fun j hj => hm j (by simp [hj]))
 | lptr n off cs ps ps' R h1 _ ih => exact .lptr n off cs ps ps' R ((hm n (by simp)).trans h1) (ih fun j hj => hm j (by simp [hj]))
 | agg cs cs' ps ps' R R' _ _ ih1 ih2 => exact .agg cs cs' ps ps' R R' (ih1 fun j hj => hm j (by simp [hj])) (ih2 fun j hj => hm j (by simp [hj]))
theorem HandL.local {m m2 : Nat → PV} {Hs : List (Nat × Nat)} {ps ps' : List PV} {R : List Nat} (h : HandL Hs m ps ps' R) (e : ∀ n ∈ R, m2 n = m n) : HandL Hs m2 ps ps' R := by
 induction h with
 | nil => exact .nil
 | pure p p' ps ps' R R' hp _ ih => exact .pure p p' ps ps' R R' (hp.local fun n hn => e n (List.mem_append.2 (.inl hn))) (ih fun n hn => e n (List.mem_append.2 (.inr hn)))
 | own n c k ee sz x l ps ps' R hn hm hk _ ih => exact .own n c k ee sz x l ps ps' R hn ((e c (List.mem_cons_self ..)).trans hm) hk (ih fun n hn => e n (List.mem_cons_of_mem _ hn))
 | lptr n c off x cs ps ps' R hn hm _ ih => exact .lptr n c off x cs ps ps' R hn ((e c (List.mem_cons_self ..)).trans hm) (ih fun n hn => e n (List.mem_cons_of_mem _ hn))
 | yng n c own p ps ps' R hn hm _ ih => exact .yng n c own p ps ps' R hn ((e c (List.mem_cons_self ..)).trans hm) (ih fun n hn => e n (List.mem_cons_of_mem _ hn))
 | ysk n c own p ps ps' R hn hm _ ih => exact .ysk n c own p ps ps' R hn ((e c (List.mem_cons_self ..)).trans hm) (ih fun n hn => e n (List.mem_cons_of_mem _ hn))
 | agg cs cs' ps ps' R R' _ _ ih1 ih2 => exact .agg cs cs' ps ps' R R' (ih1 fun n hn => e n (List.mem_append.2 (.inl hn))) (ih2 fun n hn => e n (List.mem_append.2 (.inr hn)))

inductive Relen1 (m m' : Nat → PV) : PV → PV → Prop where
 | same (p : PV) : Relen1 m m' p p
 | own (c k e sz e' sz' : Nat) (x x' : Bool) (l l' : List PV) (h1 : m c = .obj x e sz l) (hk : k = l.length) (h2 : m' c = .obj x' e' sz' l') : Relen1 m m' (.own c k) (.own c l'.length)
inductive RelenP (m m' : Nat → PV) : PV → PV → Prop where
 | one (p q : PV) (h : Relen1 m m' p q) : RelenP m m' p q
 | agg (cs cs' : List PV) (hl : cs'.length = cs.length) (h : ∀ (j : Nat) c c', cs[j]? = some c → cs'[j]? = some c' → Relen1 m m' c c') : RelenP m m' (.agg cs) (.agg cs')
theorem Relen1.rv {m m' : Nat → PV} {V : Nat → Value} (hm : ∀ p v, RV pub w V m p v → RV pub' w' V m' p v) {p q : PV} {v : Value} (h : Relen1 m m' p q) (hv : RV pub w V m p v) : RV pub' w' V m' q v := by
 cases h with
 | same => exact hm _ _ hv
 | own c k e sz e' sz' x x' l l' h1 hk h2 =>
  obtain ⟨x1, e1, sz1, l1, hm1, _, hv'⟩ := hv.own_inv
  rw [h1] at hm1; cases hm1
  exact .ref (.own c _ v x' e' sz' l' h2 (Nat.le_refl _) (fun _ => hv' hk))
theorem RelenP.rv {m m' : Nat → PV} {V : Nat → Value} (hm : ∀ p v, RV pub w V m p v → RV pub' w' V m' p v) {p q : PV} {v : Value} (h : RelenP m m' p q) (hv : RV pub w V m p v) : RV pub' w' V m' q v := by
 cases h with
 | one _ _ h => exact h.rv hm hv
 | agg cs cs' hl h =>
  obtain ⟨arr, rfl, hs, hdc⟩ := hv.agg_inv
  refine .agg cs' arr (hs.trans hl.symm) (fun j c hj => ?_) (fun j c hj => ?_)
  ·exact (hdc j _ (List.getElem?_eq_getElem (by rw [← hl]; exact (List.getElem?_eq_some_iff.1 hj).1))).1
  ·have hlt : j < cs.length := by rw [← hl]; exact (List.getElem?_eq_some_iff.1 hj).1
   exact (h j _ c (List.getElem?_eq_getElem hlt) hj).rv hm (hdc j _ (List.getElem?_eq_getElem hlt)).2

theorem Rel0.handedO (h : Rel0 N w0 pub V s a w) {Hs : List (Nat × Nat)} {M0 M1 : List (Nat × PV)} (hh : HandF s.mem Hs M0 M1) (g : Nat) (ho : Base0.O ⟨w, blocksOf (placeOf V Hs) M0, placeOf V Hs⟩ g) : w0.O g := by
 have hne : ∀ n c, nameOf Hs n = some c → s.mem c ≠ .undef := fun n c hn e => by
  have h1 := hh.at_ n c hn
  have h2 := (hh.kin n c hn).ne.1
  rw [e] at h1
  generalize memOf M0 n = p at h1 h2
  cases h1 with
  | same => exact h2 rfl
 have hpl : ∀ n c, nameOf Hs n = some c → placeOf V Hs n = V c := fun n c hn => by simp [placeOf, hn]
 rcases ho with ho | ⟨n, hu, hs, hbn⟩
 ·exact .inl (Nat.le_trans h.below.size ho)
 ·obtain ⟨c, hn⟩ := hh.dom n hu
  rw [hpl n c hn] at hbn
  have hgc := hbn
  have hy : ∀ own, s.mem c ≠ .yreg false own := fun own e => by
   obtain ⟨own', e'⟩ := (hh.at_ n c hn).yngF e
   exact hs own' e'
  by_cases hr : ∀ s' own, s.mem c ≠ .yreg s' own
  ·exact ((h.mem c).block_ge (hne n c hn) ((h.mem c).one (hne n c hn) hr hgc)).1
  ·simp only [Classical.not_forall, Classical.not_not] at hr
   obtain ⟨s', own, hr⟩ := hr
   have hmc := h.mem c
   have e0 := (hh.at_ n c hn).eq hy
   have hsp := (handB_spec hh.h0 n (hh.kin n c hn).ne.1).2
   rw [e0, hr] at hsp
   rw [hr] at hmc
   generalize V c = vc at hmc hgc
   rcases hsp with ⟨_, _, _, e⟩ | ⟨_, e, _⟩ | ⟨s2, e⟩
   ·cases e
   ·cases e
   ·cases s' with
    | false => exact absurd hr (hy _)
    | true =>
     have ho : own = true := by injection e with a b; rw [b, ← a]
     cases hmc with
     | yreg _ _ lo hi hv hh' hp' hB0 =>
      rcases hgc with hgc | ⟨lo', hi', k1, k2, k3⟩
      ·subst hv; cases hgc
      ·rw [hv] at k1
       simp at k1
       exact hB0 g (by omega) (by omega) ho
theorem call_wpM {pub0 : Nat → Nat → Prop} {d : Nat} {fo : Operand} {args : Array Operand} {ats : Array TypeId} {ty : TypeId} {pos : String} {after : Array Edge} {gd : Option (Nat × Bool)} {f : FuncId} {caps ps ps' : List PV} {r p : PV} {R : List Nat} {Hs : List (Nat × Nat)} {M0 M1 U : List (Nat × PV)} {n' : Nat} {m' sl' : Nat → PV}
  (hf : s.ev fo = .fn f caps) (hps : args.toList.map s.ev = ps) (hp : HandL Hs s.mem ps ps' R) (hc : PCM P f (ps' ++ caps) M0 r M1) (hh : HandF s.mem Hs M0 M1) (hm' : memBack s.mem Hs M1 = m') (hsl : ∀ t, RelenP s.mem m' (s.slot t) (sl' t)) (hr : RecvL (64 * d) [r] [p] U n') (hU : ∀ q ∈ U, s.mem q.1 = .undef ∧ q.1 % 64 ≠ 63) (hd : d < N)
  (hR : Rel N w0 pub0 s a w) {K : Act → World → Prop} {Q' : Exit → Act → World → Prop} (hK : ∀ a w, Rel N w0 pub0 ⟨upd sl' d p, upds m' U⟩ a w → K a w) :
  (⟨some d, .call { callee := .value fo, args := args, argTypes := ats }, ty, pos, after, gd⟩ : Oper).wp P a w K Q' := by
 obtain ⟨pub, V, c1, c2, hrel⟩ := hR
 obtain ⟨hok, hcall⟩ := hc
 obtain ⟨arr, hfv, hsz, hcaps⟩ := (hf ▸ hrel.ev fo).fn_inv
 unfold Oper.wp
 have hrun : (execOp a.eval ⟨some d, .call { callee := .value fo, args := args, argTypes := ats }, ty, pos, after, gd⟩).run P w = .ok (.enter f (args.map a.eval ++ arr)) w := by
  simp [execOp, resolve, hfv, Deferred.ofValue, invoke, okFn_run hok]
 rw [hrun, Oper.upon_enter]
 have hlen := hp.length
 have hvals : (args.map a.eval ++ arr) = ((args.map a.eval).toList ++ arr.toList).toArray := by simp
 rw [hvals]
 have hpl : ps.length = args.size := by rw [← hps]; simp
 refine (hcall w pub (placeOf V Hs) ((args.map a.eval).toList ++ arr.toList) (fun w' hw => w0.good w' fun k hk => (hw k (fun ho => hk (hrel.handedO hh k ho))).trans (hrel.below.block k hk)) hrel.pubLt ?_ (fun n => ?_) (fun n m g hn hm e1 e2 => ?_) ?_).mono ?_
 ·simp [hlen, hpl, hsz]
 ·by_cases hu : memOf M0 n = .undef
  ·rw [hu]; exact .undef
  ·obtain ⟨c, hn⟩ := hh.dom n hu
   have hmn := hrel.mem c
   rw [show placeOf V Hs n = V c by simp [placeOf, hn]]
   have hat := hh.at_ n c hn
   have hsp := (handB_spec hh.h0 n hu).2
   generalize memOf M0 n = q at hat hsp
   generalize s.mem c = q2 at hat hmn
   cases hat with
   | same =>
    refine (hmn.rebase fun _ _ _ _ => trivial).move ?_
    rcases hsp with ⟨e, sz, l, h⟩ | ⟨cs, h, hp⟩ | ⟨s2, h⟩
    ·exact .inl ⟨_, _, _, _, h⟩
    ·exact .inr (.inl ⟨_, _, h, hp⟩)
    ·exact .inr (.inr ⟨_, _, h⟩)
   | reg own =>
    generalize V c = vc at hmn
    cases hmn with
    | yreg _ _ lo hi hv hh' hp' hB0 => exact .yreg false false lo hi hv hh' hp' (fun _ _ _ e => by cases e)
 ·obtain ⟨c, hc⟩ := hh.dom n hn
  obtain ⟨c', hc'⟩ := hh.dom m hm
  rw [show placeOf V Hs n = V c by simp [placeOf, hc]] at e1
  rw [show placeOf V Hs m = V c' by simp [placeOf, hc']] at e2
  have hne : ∀ n c, nameOf Hs n = some c → s.mem c ≠ .undef := fun n c hn e => by
   have h1 := hh.at_ n c hn
   have h2 := (hh.kin n c hn).ne.1
   rw [e] at h1
   generalize memOf M0 n = p at h1 h2
   cases h1 with
   | same => exact h2 rfl
  have h1 := hrel.apart c c' g (hne n c hc) (hne m c' hc') e1 e2
  subst h1
  have h2 := hh.none_ n c hc
  have h3 := hh.none_ m c hc'
  rw [h2] at h3
  simpa using h3
 ·intro i q v h1 h2
  by_cases hi : i < ps'.length
  ·rw [List.getElem?_append_left hi] at h1
   rw [List.getElem?_append_left (by simp; omega)] at h2
   have hi' : i < ps.length := by omega
   obtain ⟨x, hx, hrv⟩ := hrel.at_op args.toList i _ (by rw [hps]; exact List.getElem?_eq_getElem hi')
   have hv : v = a.eval x := by
    have hx' : args[i]? = some x := by simpa using hx
    simp [hx'] at h2; exact h2.symm
   subst hv
   exact hp.rep hrel hh.at_ i _ q _ (List.getElem?_eq_getElem hi') h1 hrv
  ·rw [List.getElem?_append_right (by omega)] at h1
   rw [List.getElem?_append_right (by simp; omega)] at h2
   have hj : i - ps'.length = i - (args.map a.eval).toList.length := by simp; omega
   rw [← hj] at h2
   have := hcaps _ q h1
   have hv : arr.getD (i - ps'.length) Go.undef = v := by
    rw [Array.getElem?_toList] at h2; simp [h2]
   rw [hv] at this
   exact .pure this
 ·rintro e w' ⟨v, rfl, hbel, pub', p1, p2, p3, hmem, hsk, gs, hRR, hnd⟩
  obtain ⟨hrel1, hmv, hud⟩ := hrel.handed hh hbel p1 p2 p3 hmem hsk
  have hs0 : w0.w.heap.size ≤ w.heap.size := hrel.below.size
  subst hm'
  have hrel2 : Rel0 N w0 pub' V ⟨sl', memBack s.mem Hs M1⟩ a w' := ⟨hrel1.defers, hrel1.size, hrel1.below, hrel1.fixed, hrel1.pubLt, fun t => (hsl t).rv hmv (hrel.slots t), hrel1.mem, hrel1.apart, hrel1.soft, hrel1.skel⟩
  obtain ⟨V', h1, _, _, h4⟩ := hr.sound hrel2 w.heap.size hs0 [] (fun k g a1 a2 => .inl ((hrel.mem k).block_lt (hud k a1) a2)) [v] [gs] rfl rfl (fun i q u g a1 a2 a3 => by
   cases i with
   | zero => simp at a1 a2 a3; subst a1; subst a2; subst a3; exact hRR
   | succ i => simp at a1) (by simpa using hnd) (fun _ _ h => by cases h) (fun j j1 j2 => by
    obtain ⟨q, hq, rfl⟩ := hr.cover j j1 j2
    exact ⟨Classical.byContradiction fun hne => hud _ hne (hU q hq).1, (hU q hq).2⟩)
  have hput := h1.put d hd (h4 0 p v rfl rfl)
  exact hK _ _ ⟨pub', V', fun b o ho => p1 b o (c1 b o ho), fun b o ho => (p2 b o ho).elim (c2 b o) (fun h => .inr (.inl (by omega))), hput⟩
end
end Go.Px
namespace Go.Px
set_option linter.unusedSimpArgs false
set_option linter.unusedVariables false
open Go.RowKit

def encI (lo hi : Nat) : Value := .agg #[.int .i64 lo, .int .i64 hi]
theorem regB_encI {lo hi b : Nat} : regB (encI lo hi) b ↔ lo ≤ b ∧ b < hi := by
 constructor
 ·rintro ⟨lo', hi', h, h1, h2⟩
  simp [encI] at h
  omega
 ·intro h; exact ⟨lo, hi, rfl, h.1, h.2⟩
def toY1 (n : Nat) : PV → PV
 | .slice l => .yng n (.slice l)
 | p => p
def toY (n : Nat) : PV → PV
 | .agg cs => .agg (cs.map (toY1 n))
 | p => toY1 n p
def okY1 : PV → Bool
 | .lit _ => true | .slice _ => true | _ => false
def okY : PV → Bool
 | .agg cs => cs.all okY1
 | p => okY1 p
def wrapR1 (n : Nat) : PV → PV
 | .slice l => .yng n (.slice l)
 | .fresh _ _ _ l => .yng n (.slice l)
 | p => p
def wrapR (n : Nat) : PV → PV
 | .agg cs => .agg (cs.map (wrapR1 n))
 | p => wrapR1 n p
def okR1 : PV → Bool
 | .lit _ => true | .slice _ => true | .nils => true | .fresh _ _ _ _ => true | _ => false
def okR : PV → Bool
 | .agg cs => cs.all okR1
 | p => okR1 p
section
variable {P : Program} {N : Nat} {w0 : Base P} {w w' : World} {pub pub' : Nat → Nat → Prop} {V : Nat → Value} {m : Nat → PV} {s : St} {a : Act}

theorem toY1_rv {n : Nat} {own : Bool} (hm : m n = .yreg false own) (hp : ∀ b o, pub b o → regP own w (V n) b o) {p : PV} {v : Value} (ho : okY1 p = true) (h : Rep pub w p v) : RV pub' w V m (toY1 n p) v := by
 cases p with
 | lit u => cases h with | lit _ h => exact .pure (.lit _ h)
 | slice l => exact .yng n _ v own hm (h.mono hp (fun _ _ _ => rfl))
 | _ => cases ho
theorem toY_rv {n : Nat} {own : Bool} (hm : m n = .yreg false own) (hp : ∀ b o, pub b o → regP own w (V n) b o) {p : PV} {v : Value} (ho : okY p = true) (h : Rep pub w p v) : RV pub' w V m (toY n p) v := by
 cases p with
 | agg cs =>
  simp only [okY, List.all_eq_true] at ho
  cases h with
  | agg _ arr hs hd hc =>
   refine .agg _ arr (by simpa using hs) (fun j c hj => ?_) (fun j c hj => ?_)
   all_goals
    rw [List.getElem?_map, Option.map_eq_some_iff] at hj
    obtain ⟨c', hc', rfl⟩ := hj
   ·exact hd j c' hc'
   ·exact toY1_rv hm hp (ho c' (List.mem_of_getElem? hc')) (hc j c' hc')
 | lit u => exact toY1_rv (p := .lit u) hm hp ho h
 | slice l => exact toY1_rv (p := .slice l) hm hp ho h
 | _ => cases ho

theorem MemOk.slice_rep {B : Nat → Prop} {V2 : Nat → Value} {m2 : Nat → PV} {v : Value} {x : Bool} {e sz : Nat} {l : List PV} (h : MemOk pub w V2 m2 B v (.obj x e sz l)) {pub2 : Nat → Nat → Prop} (h1 : ∀ b o, pub b o → pub2 b o) (h2 : ∀ b o, v.ownBlock = some b → w.frozen? ⟨b, o, none⟩ = false → b < w.heap.size → B b → pub2 b o) : Rep pub2 w (.slice l) v := by
 cases h with
 | obj _ _ _ _ xs hsz hmx hl how hp hq hc =>
  obtain ⟨⟨hxs, how⟩, hB⟩ := how
  rcases how with ⟨k1, k2⟩ | ⟨g, cap, cur, k1, _, ⟨fr, k2, hfr⟩, k3, k4, k5, k6⟩
  ·have : l = [] := List.eq_nil_of_length_eq_zero k2
   subst this; subst k1
   exact .slice0 none 0
  ·subst k1
   have hfl := flat_length hl
   refine .slice g 0 cap sz l (fun i => xs.getD i Go.undef) hl k3 hmx (fun i c hi => ?_) (fun i c hi => ((hc i c hi).2.mono h1 (fun _ _ _ => rfl)))
   have hlt : i < xs.length := by
    have := (List.getElem?_eq_some_iff.1 hi).1
    omega
   refine ⟨h2 g (0 + i) rfl (by
    rw [Nat.zero_add]
    refine not_frozen k2 hfr ?_
    have hle : l.length * sz ≤ cap * sz := Nat.mul_le_mul_right _ k3
    omega) (Array.getElem?_eq_some_iff.1 k2).1 (hB g rfl), ?_, (hc i c hi).1⟩
   have hlt2 : i < l.length * sz := by omega
   have h7 : cur.toList[i]? = xs[i]? := by rw [← k6, List.getElem?_take_of_lt hlt2]
   simp only [World.cell?, k2, Nat.zero_add, Option.isSome_none, Bool.false_eq_true, if_false]
   rw [← Array.getElem?_toList, h7]
   simp [hlt]

theorem wrapR1_rv {n : Nat} {B : Nat → Prop} (hm : m n = .yreg false true) (h1 : ∀ b o, pub b o → regP true w (V n) b o) (h2 : ∀ b, B b → b < w.heap.size → regB (V n) b) {p : PV} {v : Value} {gs : List Nat} (ho : okR1 p = true) (h : RR pub w B p v gs) : RV pub' w V m (wrapR1 n p) v := by
 cases p with
 | lit u => cases h with | pure _ _ h => cases h with | lit _ h => exact .pure (.lit _ h)
 | nils => cases h with | pure _ _ h => cases h; exact .pure .nils
 | slice l => cases h with | pure _ _ h => exact .yng n _ v true hm (h.mono h1 (fun _ _ _ => rfl))
 | fresh x e sz l =>
  obtain ⟨hmo, _⟩ := h.fresh_inv
  exact .yng n _ v true hm (hmo.slice_rep h1 fun b o _ hf hlt hB => ⟨h2 b hB hlt, fun _ => hf⟩)
 | _ => cases ho
theorem wrapR_rv {n : Nat} {B : Nat → Prop} (hm : m n = .yreg false true) (h1 : ∀ b o, pub b o → regP true w (V n) b o) (h2 : ∀ b, B b → b < w.heap.size → regB (V n) b) {p : PV} {v : Value} {gs : List Nat} (ho : okR p = true) (h : RR pub w B p v gs) : RV pub' w V m (wrapR n p) v := by
 cases p with
 | agg cs =>
  simp only [okR, List.all_eq_true] at ho
  obtain ⟨arr, gs', rfl, hs, hgl, hd, hcc, _⟩ := h.agg_inv
  refine .agg _ arr (by simpa using hs) (fun j c hj => ?_) (fun j c hj => ?_)
  all_goals
   rw [List.getElem?_map, Option.map_eq_some_iff] at hj
   obtain ⟨c', hc', rfl⟩ := hj
  ·exact hd j c' hc'
  ·have hlt : j < gs'.length := by rw [hgl]; exact (List.getElem?_eq_some_iff.1 hc').1
   exact wrapR1_rv hm h1 h2 (ho c' (List.mem_of_getElem? hc')) (hcc j c' _ hc' (List.getElem?_eq_getElem hlt))
 | lit u => exact wrapR1_rv (p := .lit u) hm h1 h2 ho h
 | nils => exact wrapR1_rv (p := .nils) hm h1 h2 ho h
 | slice l => exact wrapR1_rv (p := .slice l) hm h1 h2 ho h
 | fresh x e sz l => exact wrapR1_rv (p := .fresh x e sz l) hm h1 h2 ho h
 | _ => cases ho

theorem Rel0.newReg (h : Rel0 N w0 pub V s a w) (n : Nat) (hn63 : n % 64 ≠ 63) (hn : s.mem n = .undef) {lo hi : Nat} (hh : hi ≤ w.heap.size) (hp : ∀ b o, lo ≤ b → b < hi → ¬ pub b o) (hB : ∀ b, lo ≤ b → b < hi → w0.O b) (hap : ∀ k g, s.mem k ≠ .undef → inB (V k) g → ¬ (lo ≤ g ∧ g < hi)) :
  Rel0 N w0 pub (updV V n (encI lo hi)) { s with mem := upd s.mem n (.yreg false true) } a w ∧ ∀ p u, RV pub w V s.mem p u → RV pub w (updV V n (encI lo hi)) (upd s.mem n (.yreg false true)) p u := by
 have refs : ∀ q u, RefOk V s.mem q u → RefOk (updV V n (encI lo hi)) (upd s.mem n (.yreg false true)) q u := by
  intro q u hq
  cases hq with
  | own k j _ x e sz l hm hk hh =>
   have hne : k ≠ n := fun e => by rw [e, hn] at hm; cases hm
   exact .own k j u x e sz l ((upd_ne _ _ hne).trans hm) hk (fun e => (hh e).trans (updV_ne _ _ hne).symm)
  | lptr k off x cs b hm hv =>
   have hne : k ≠ n := fun e => by rw [e, hn] at hm; cases hm
   exact .lptr k off x cs b ((upd_ne _ _ hne).trans hm) ((updV_ne _ _ hne).trans hv)
  | eptr k j i off _ x e sz l hm hk hh =>
   have hne : k ≠ n := fun e => by rw [e, hn] at hm; cases hm
   exact .eptr k j i off u x e sz l ((upd_ne _ _ hne).trans hm) hk (fun e => by rw [updV_ne _ _ hne]; exact hh e)
  | osl k j i i2 _ x e sz l hm hk hij hh =>
   have hne : k ≠ n := fun e => by rw [e, hn] at hm; cases hm
   exact .osl k j i i2 u x e sz l ((upd_ne _ _ hne).trans hm) hk hij (fun e => by rw [updV_ne _ _ hne]; exact hh e)
 have inv : ∀ g, inB (encI lo hi) g → lo ≤ g ∧ g < hi := fun g hg => by
  rcases hg with hg | hg
  ·cases hg
  ·exact regB_encI.1 hg
 have t : Tr pub w V s.mem pub w (updV V n (encI lo hi)) (upd s.mem n (.yreg false true)) (fun k => k = n) :=
  ⟨fun _ _ h => h, fun _ _ _ => rfl, refs, fun k hk _ => updV_ne _ _ hk, fun k hk => upd_ne _ _ hk, fun k g _ hu hg => ⟨rfl, fun _ ho => ho⟩, fun c s' own hT hmc => by subst hT; rw [hn] at hmc; cases hmc⟩
 refine ⟨h.turn t (BelowB.refl _ _) (fun k hk => updV_ne _ _ (fun e => hn63 (e ▸ hk))) h.pubLt (fun k hk => ?_) (fun i k g hne h1 h2 h3 h4 => ?_) (fun i own _ hmi => by
  by_cases hi : i = n
  ·subst hi; rw [upd_same] at hmi; cases hmi
  ·rwa [upd_ne _ _ hi] at hmi) h.soft, fun p u hu => t.rv hu⟩
 ·subst hk
  rw [updV_same, upd_same]
  exact .yreg false true lo hi rfl hh hp (fun b b1 b2 _ => hB b b1 b2)
 ·by_cases hi : i = n
  ·subst hi
   rw [updV_same] at h3
   rw [updV_ne _ _ (Ne.symm hne)] at h4
   rw [upd_ne _ _ (Ne.symm hne)] at h2
   exact hap k g h2 h4 (inv g h3)
  ·by_cases hk : k = n
   ·subst hk
    rw [updV_same] at h4
    rw [updV_ne _ _ hne] at h3
    rw [upd_ne _ _ hne] at h1
    exact hap i g h1 h3 (inv g h4)
   ·rw [updV_ne _ _ hi] at h3
    rw [updV_ne _ _ hk] at h4
    rw [upd_ne _ _ hi] at h1
    rw [upd_ne _ _ hk] at h2
    exact hne (h.apart i k g h1 h2 h3 h4)

def MY : List (Nat × PV) := [(63, .yreg false false)]
theorem memOf_MY {n : Nat} (h : memOf MY n ≠ .undef) : n = 63 := by
 rw [MY, memOf_cons] at h
 by_cases e : n = 63
 ·exact e
 ·rw [if_neg e] at h; exact absurd (memOf_nil n) h
theorem memOf_MY63 : memOf MY 63 = .yreg false false := by rw [MY, memOf_cons]; rfl

theorem PCM.young {f : FuncId} {ps' : List PV} {r : PV} (hc : PCM P f (ps'.map (toY 63)) MY r MY) (hok : ps'.all okY = true) (hgp : GP P w) (hlt : ∀ b o, pub b o → b < w.heap.size) {vals : List Value} (hlen : vals.length = ps'.length) (hrep : ∀ (i : Nat) p v, ps'[i]? = some p → vals[i]? = some v → Rep pub w p v) :
  Calls P f vals.toArray w fun e w' => ∃ v, e = .returned v ∧ Below w.heap.size w w' ∧ ∃ pub'' gs, (∀ b o, pub'' b o → w.heap.size ≤ b ∧ b < w'.heap.size ∧ w'.frozen? ⟨b, o, none⟩ = false) ∧ RR pub'' w' (fun b => w.heap.size ≤ b) r v gs ∧ gs.Nodup := by
 obtain ⟨_, hcall⟩ := hc
 refine (hcall w (fun _ _ => False) (fun _ => encI 0 w.heap.size) vals (fun w' hw => hgp.same fun k hk => hw k (fun ho => by
  rcases ho with ho | ⟨n, hn, hs, _⟩
  ·exact absurd hk (Nat.not_lt.2 ho)
  ·have := memOf_MY hn
   subst this
   exact hs false memOf_MY63)) (fun _ _ h => h.elim) (by simpa using hlen) (fun n => ?_) (fun n k g h1 h2 _ _ => ?_) (fun i p v h1 h2 => ?_)).mono ?_
 ·by_cases hn : memOf MY n = .undef
  ·rw [hn]; exact .undef
  ·have := memOf_MY hn
   subst this
   rw [memOf_MY63]
   exact .yreg false false 0 w.heap.size rfl (Nat.le_refl _) (fun _ _ _ _ h => h) (fun _ _ _ h => by cases h)
 ·rw [memOf_MY h1, memOf_MY h2]
 ·rw [List.getElem?_map, Option.map_eq_some_iff] at h1
  obtain ⟨p', hp', rfl⟩ := h1
  refine toY_rv (V := fun _ => encI 0 w.heap.size) (n := 63) (own := false) memOf_MY63 (fun b o hb => ⟨regB_encI.2 ⟨Nat.zero_le _, hlt b o hb⟩, fun e => by cases e⟩) (List.all_eq_true.1 hok p' (List.mem_of_getElem? hp')) (hrep i p' v hp' h2)
 ·rintro e w' ⟨v, rfl, hbel, pub'', p1, p2, p3, _, _, gs, hRR, hnd⟩
  refine ⟨v, rfl, ⟨hbel.os, hbel.tape, hbel.output, hbel.size, fun k hk => hbel.block k (fun ho => ?_)⟩, pub'', gs, fun b o hb => ?_, hRR, hnd⟩
  ·rcases ho with ho | ⟨n, hn, hs, _⟩
   ·have : w.heap.size ≤ k := ho
    omega
   ·have := memOf_MY hn
    subst this
    exact hs false memOf_MY63
  ·have h1 := (p2 b o hb).resolve_left id
   exact ⟨h1, (p3 b o hb).1, (p3 b o hb).2 h1⟩

theorem call_wpY {pub0 : Nat → Nat → Prop} {d : Nat} {fo : Operand} {args : Array Operand} {ats : Array TypeId} {ty : TypeId} {pos : String} {after : Array Edge} {gd : Option (Nat × Bool)} {f : FuncId} {ps ps' : List PV} {r : PV} {R : List Nat}
  (hf : s.ev fo = .fn f []) (hps : args.toList.map s.ev = ps) (hp : PurL s.mem ps ps' R) (hok : ps'.all okY = true) (hc : PCM P f (ps'.map (toY 63)) MY r MY) (hr : okR r = true) (hn : s.mem (64 * d) = .undef) (hd : d < N)
  (hR : Rel N w0 pub0 s a w) {K : Act → World → Prop} {Q' : Exit → Act → World → Prop} (hK : ∀ a w, Rel N w0 pub0 ⟨upd s.slot d (wrapR (64 * d) r), upds s.mem [(64 * d, .yreg false true)]⟩ a w → K a w) :
  (⟨some d, .call { callee := .value fo, args := args, argTypes := ats }, ty, pos, after, gd⟩ : Oper).wp P a w K Q' := by
 obtain ⟨pub, V, c1, c2, hrel⟩ := hR
 have hokf := hc.1
 obtain ⟨arr, hfv, hsz, hcaps⟩ := (hf ▸ hrel.ev fo).fn_inv
 have harr : arr = #[] := Array.eq_empty_of_size_eq_zero (by simpa using hsz)
 subst harr
 unfold Oper.wp
 have hrun : (execOp a.eval ⟨some d, .call { callee := .value fo, args := args, argTypes := ats }, ty, pos, after, gd⟩).run P w = .ok (.enter f (args.map a.eval)) w := by
  simp [execOp, resolve, hfv, Deferred.ofValue, invoke, okFn_run hokf]
 rw [hrun, Oper.upon_enter]
 have hlen := hp.length
 have hpl : ps.length = args.size := by rw [← hps]; simp
 have hvals : (args.map a.eval) = ((args.map a.eval).toList).toArray := (Array.toArray_toList).symm
 rw [hvals]
 refine (PCM.young (pub := pub) hc hok (Base.gp hrel.below) hrel.pubLt (by simp [hlen, hpl]) (fun i q v h1 h2 => ?_)).mono ?_
 ·have hi : i < ps.length := by rw [← hlen]; exact (List.getElem?_eq_some_iff.1 h1).1
  obtain ⟨x, hx, hrv⟩ := hrel.at_op args.toList i _ (by rw [hps]; exact List.getElem?_eq_getElem hi)
  have hv : v = a.eval x := by
   have hx' : args[i]? = some x := by simpa using hx
   simp [hx'] at h2; exact h2.symm
  subst hv
  exact hp.rep hrel i _ q _ (List.getElem?_eq_getElem hi) h1 hrv
 ·rintro e w' ⟨v, rfl, hbel, pub'', gs, p1, hRR, hnd⟩
  have hsz := hbel.size
  have hs0 : w0.w.heap.size ≤ w.heap.size := hrel.below.size
  have hrel1 := hrel.world hbel
  obtain ⟨hrel2, _⟩ := hrel1.newReg (64 * d) (by omega) hn (lo := w.heap.size) (hi := w'.heap.size) (Nat.le_refl _) (fun b o h1 _ h2 => by have := hrel.pubLt b o h2; omega) (fun b h1 _ => .inl (Nat.le_trans hs0 h1)) (fun k g hu hg h => by have := (hrel.mem k).block_lt hu hg; omega)
  have hrv : RV pub w' (updV V (64 * d) (encI w.heap.size w'.heap.size)) (upd s.mem (64 * d) (.yreg false true)) (wrapR (64 * d) r) v := by
   refine wrapR_rv (upd_same _ _ _) (fun b o hb => ?_) (fun b hB hlt => ?_) hr hRR
   ·rw [updV_same]
    exact ⟨regB_encI.2 ⟨(p1 b o hb).1, (p1 b o hb).2.1⟩, fun _ => (p1 b o hb).2.2⟩
   ·rw [updV_same]
    exact regB_encI.2 ⟨hB, hlt⟩
  exact hK _ _ ⟨pub, _, c1, c2, hrel2.put d hd hrv⟩

theorem RR.widen {pub pub2 : Nat → Nat → Prop} {B : Nat → Prop} (h1 : ∀ b o, pub b o → pub2 b o) (h2 : ∀ g o, B g → pub2 g o → pub g o) {r : PV} {v : Value} {gs : List Nat} (h : RR pub w B r v gs) : RR pub2 w B r v gs := by
 induction h with
 | pure p v h => exact .pure p v (h.mono h1 (fun _ _ _ => rfl))
 | fresh x e sz l v h =>
  have hB := h.obj_block
  refine .fresh x e sz l v ?_
  cases h with
  | obj _ _ _ _ xs hsz hmx hll how hp hq hc =>
   exact .obj x e sz l xs hsz hmx hll how (fun g o hg ho => hp g o hg (h2 g o (hB.2 g hg) ho)) (fun hx g o hg ho => h1 g o (hq hx g o hg ho)) (fun i c hi => ⟨(hc i c hi).1, (hc i c hi).2.mono h1 (fun _ _ _ => rfl)⟩)
 | agg cs arr gs hs' hg hd hc ih => exact .agg cs arr gs hs' hg hd (fun j c g hj hgj => ih j c g hj hgj)
 | tuple cs arr gs hs' hg hc ih => exact .tuple cs arr gs hs' hg (fun j c g hj hgj => ih j c g hj hgj)
theorem PC.ofY {f : FuncId} {ps ys : List PV} {r : PV} (hc : PCM P f ys MY r MY) (he : ps.map (toY 63) = ys) (hok : ps.all okY = true) : PC P f ps r := by
 subst he
 refine ⟨hc.1, fun w pub vals hgp hpub hlen hrep => (PCM.young (pub := pub) hc hok hgp hpub hlen hrep).mono ?_⟩
 rintro e w' ⟨v, rfl, hbel, pub'', gs, p1, hRR, hnd⟩
 refine ⟨v, rfl, hbel, fun b o => pub b o ∨ pub'' b o, gs, fun b o h => .inl h, fun b o h => h.imp id fun h => (p1 b o h).1, fun b o h => ?_, hRR.widen (fun b o h => .inr h) (fun g o hg h => h.resolve_left fun h => by have := hpub g o h; have : w.heap.size ≤ g := hg; omega), hnd⟩
 rcases h with h | h
 ·exact ⟨Nat.lt_of_lt_of_le (hpub b o h) hbel.size, fun hn => by have := hpub b o h; omega⟩
 ·exact ⟨(p1 b o h).2.1, fun _ => (p1 b o h).2.2⟩
end
end Go.Px
namespace Go.Px
set_option linter.unusedSimpArgs false
set_option linter.unusedVariables false
open Go.RowKit

abbrev Foot := Option (List Nat × List Nat × List Nat × List Nat)
def Foot.ok : Foot → List Nat → List (Nat × PV) → Prop
 | none, _, _ => True
 | some (r, w, _, _), R, U => (∀ n ∈ R, n ∈ r) ∧ ∀ q ∈ U, q.1 ∈ w
def KL (p q : PV) : Prop := p = q ∨ ∃ x e sz l l', p = .obj x e sz l ∧ q = .obj x e sz l' ∧ l'.length = l.length
theorem KL.refl (p : PV) : KL p p := .inl rfl
theorem KL.symm {p q : PV} (h : KL p q) : KL q p := by
 rcases h with h | ⟨x, e, sz, l, l', h1, h2, h3⟩
 ·exact .inl h.symm
 ·exact .inr ⟨x, e, sz, l', l, h2, h1, h3.symm⟩
theorem KL.trans {p q r : PV} (h : KL p q) (k : KL q r) : KL p r := by
 rcases h with rfl | ⟨x, e, sz, l, l', h1, h2, h3⟩
 ·exact k
 ·rcases k with rfl | ⟨x2, e2, sz2, l2, l2', k1, k2, k3⟩
  ·exact .inr ⟨x, e, sz, l, l', h1, h2, h3⟩
  ·rw [h2] at k1
   injection k1 with a b c d
   subst a; subst b; subst c; subst d
   exact .inr ⟨x, e, sz, l, l2', h1, k2, k3.trans h3⟩
def Foot.okS (m : Nat → PV) : Foot → List Nat → List Nat → List (Nat × PV) → Prop
 | none, _, _, _ => True
 | some (r, w, sr, sw), R, T, U => (∀ n ∈ R, n ∈ r) ∧ (∀ n ∈ T, n ∈ sr) ∧ ∀ q ∈ U, q.1 ∈ w ∨ (q.1 ∈ sw ∧ U = [q] ∧ KL (m q.1) q.2)

def gyield (all : Array Oper) (s : St) (g : Nat) (b : Option Bool) : Prop :=
 ∃ t, gslot all g = some t ∧ (match b with | some b => s.slot t = .lit (.bool b) | none => s.slot t = .tuple [])

def St.put (s : St) (d : Option Nat) (p : PV) : St :=
 match d with
 | some d => { s with slot := upd s.slot d p }
 | none => s

inductive AStep (P : Program) (N : Nat) (all : Array Oper) (F : Foot) : Oper → St → St → Prop where
 | op (s : St) (d : Nat) (op : Op) (ty : TypeId) (pos : String) (after : Array Edge) (gd : Option (Nat × Bool)) (p : PV) (U : List (Nat × PV)) (R : List Nat) (hg : ∀ g want, gd = some (g, want) → gyield all s g (some want)) (ha : AOp P s.ev s.mem d op p U R) (hd : d < N) (hF : F.ok R U) :
   AStep P N all F ⟨some d, op, ty, pos, after, gd⟩ s ⟨upd s.slot d p, upds s.mem U⟩
 | op0 (s : St) (op : Op) (ty : TypeId) (pos : String) (after : Array Edge) (gd : Option (Nat × Bool)) (p : PV) (U : List (Nat × PV)) (R : List Nat) (hg : ∀ g want, gd = some (g, want) → gyield all s g (some want)) (ha : AOp P s.ev s.mem 0 op p U R) (hF : F.ok R U) :
   AStep P N all F ⟨none, op, ty, pos, after, gd⟩ s ⟨s.slot, upds s.mem U⟩
 | opS (s : St) (dst : Option Nat) (op : Op) (ty : TypeId) (pos : String) (after : Array Edge) (gd : Option (Nat × Bool)) (p : PV) (U : List (Nat × PV)) (R T : List Nat) (hg : ∀ g want, gd = some (g, want) → gyield all s g (some want))
   (ha : ∀ m2, (∀ n ∈ R, m2 n = s.mem n) → (∀ n ∈ T, KL (s.mem n) (m2 n)) → ∃ R2, AOp P s.ev m2 (dst.getD 0) op p U R2) (hd : ∀ d, dst = some d → d < N) (hF : F.okS s.mem R T U) :
   AStep P N all F ⟨dst, op, ty, pos, after, gd⟩ s ⟨(s.put dst p).slot, upds s.mem U⟩
 | call (s : St) (d : Nat) (fo : Operand) (args : Array Operand) (ats : Array TypeId) (ty : TypeId) (pos : String) (after : Array Edge) (gd : Option (Nat × Bool)) (f : FuncId) (caps ps ps' : List PV) (r p : PV) (R : List Nat) (U : List (Nat × PV)) (n' : Nat)
   (hg : ∀ g want, gd = some (g, want) → gyield all s g (some want)) (hf : s.ev fo = .fn f caps) (hps : args.toList.map s.ev = ps) (hp : PurL s.mem ps ps' R) (hc : PC P f (ps' ++ caps) r) (hr : RecvL (64 * d) [r] [p] U n') (hU : ∀ q ∈ U, s.mem q.1 = .undef ∧ q.1 % 64 ≠ 63) (hd : d < N) (hF : F.ok R U) :
   AStep P N all F ⟨some d, .call { callee := .value fo, args := args, argTypes := ats }, ty, pos, after, gd⟩ s ⟨upd s.slot d p, upds s.mem U⟩
 | callM (s : St) (d : Nat) (fo : Operand) (args : Array Operand) (ats : Array TypeId) (ty : TypeId) (pos : String) (after : Array Edge) (gd : Option (Nat × Bool)) (f : FuncId) (caps ps ps' : List PV) (r p : PV) (R : List Nat) (Hs : List (Nat × Nat)) (M0 M1 U : List (Nat × PV)) (n' : Nat) (sl' : Nat → PV)
   (hg : ∀ g want, gd = some (g, want) → gyield all s g (some want)) (hf : s.ev fo = .fn f caps) (hps : args.toList.map s.ev = ps) (hp : HandL Hs s.mem ps ps' R) (hc : PCM P f (ps' ++ caps) M0 r M1) (hh : HandF s.mem Hs M0 M1) (hN : (Hs.map (·.2)).Nodup) (hcov : ∀ n c, nameOf Hs n = some c → c ∈ R ∨ isRead (memOf M1 n) = false) (hsl : ∀ t, RelenP s.mem (upds s.mem (backU Hs M1)) (s.slot t) (sl' t)) (hF' : F = none ∨ sl' = s.slot) (hr : RecvL (64 * d) [r] [p] U n') (hU : ∀ q ∈ U, s.mem q.1 = .undef ∧ q.1 % 64 ≠ 63) (hd : d < N) (hF : F.ok R (backU Hs M1 ++ U)) :
   AStep P N all F ⟨some d, .call { callee := .value fo, args := args, argTypes := ats }, ty, pos, after, gd⟩ s ⟨upd sl' d p, upds s.mem (backU Hs M1 ++ U)⟩
 | callY (s : St) (d : Nat) (fo : Operand) (args : Array Operand) (ats : Array TypeId) (ty : TypeId) (pos : String) (after : Array Edge) (gd : Option (Nat × Bool)) (f : FuncId) (ps ps' : List PV) (r : PV) (R : List Nat)
   (hg : ∀ g want, gd = some (g, want) → gyield all s g (some want)) (hf : s.ev fo = .fn f []) (hps : args.toList.map s.ev = ps) (hp : PurL s.mem ps ps' R) (hok : ps'.all okY = true) (hc : PCM P f (ps'.map (toY 63)) MY r MY) (hr : okR r = true) (hn : s.mem (64 * d) = .undef) (hd : d < N) (hF : F.ok R [(64 * d, .yreg false true)]) :
   AStep P N all F ⟨some d, .call { callee := .value fo, args := args, argTypes := ats }, ty, pos, after, gd⟩ s ⟨upd s.slot d (wrapR (64 * d) r), upds s.mem [(64 * d, .yreg false true)]⟩
 | skip (s : St) (o : Oper) (g : Nat) (want : Bool) (b : Option Bool) (hgd : o.guard = some (g, want)) (hy : gyield all s g b) (hb : b ≠ some want) (hd : ∀ d, o.dst = some d → d < N) : AStep P N all F o s (s.put o.dst (.tuple []))

section
variable {P : Program} {N : Nat} {Q : St → Prop} {k : List Item} {s s' : St} {all : Array Oper} {w0 : Base P} {pub0 : Nat → Nat → Prop} {a : Act} {w : World}

theorem gyield_wanted {g : Nat} {want : Bool} {b : Option Bool} (hR : Rel N w0 pub0 s a w) (h : gyield all s g b) {o : Oper} (hgd : o.guard = some (g, want)) : Region.wanted o (yielded all a.tmps) = (b == some want) := by
 obtain ⟨pub, V, c1, c2, hrel⟩ := hR
 obtain ⟨t, ht, hb⟩ := h
 have hv := hrel.slots t
 have hy : yielded all a.tmps g = b := by
  cases b with
  | some b =>
   simp only at hb
   rw [hb] at hv
   exact yielded_of ht hv.lit_inv.1
  | none =>
   simp only at hb
   rw [hb] at hv
   obtain ⟨arr, h1, h2, _⟩ := hv.tuple_inv
   unfold gslot at ht
   unfold yielded
   simp only [ht]
   have h3 : a.tmps[t]?.getD Go.undef = .tuple arr := by simpa using h1
   cases h4 : a.tmps[t]? with
   | none => simp [h4]
   | some v => rw [h4] at h3; simp at h3; subst h3; simp [h4]
 simp [Region.wanted, hgd, hy]

theorem AStep.sound {F : Foot} {o : Oper} (h : AStep P N all F o s s') {K : Act → World → Prop} {Q' : Exit → Act → World → Prop} (hK : ∀ a w, Rel N w0 pub0 s' a w → K a w) (hR : Rel N w0 pub0 s a w) :
  (Region.wanted o (yielded all a.tmps) = true ∧ o.wp P a w K Q') ∨ (Region.wanted o (yielded all a.tmps) = false ∧ K (a.put o.dst Go.undef) w) := by
 cases h with
 | op _ d op ty pos after gd p U R hg ha hd hF =>
  refine .inl ⟨?_, ?_⟩
  ·cases gd with
   | none => rfl
   | some q => rw [gyield_wanted hR (hg q.1 q.2 rfl) (o := ⟨some d, op, ty, pos, after, some q⟩) rfl]; simp
  ·obtain ⟨v, w', hrun, pub, V, c1, c2, hrel, hv⟩ := ha.sound hR
   have hk := hK _ _ ⟨pub, V, c1, c2, hrel.put d hd hv⟩
   unfold Oper.wp
   rcases hrun (some d) ty pos after gd with h1 | ⟨h1, rfl⟩
   ·rw [h1]; exact hk
   ·rw [h1]; exact hk
 | op0 _ op ty pos after gd p U R hg ha hF =>
  refine .inl ⟨?_, ?_⟩
  ·cases gd with
   | none => rfl
   | some q => rw [gyield_wanted hR (hg q.1 q.2 rfl) (o := ⟨none, op, ty, pos, after, some q⟩) rfl]; simp
  ·obtain ⟨v, w', hrun, pub, V, c1, c2, hrel, hv⟩ := ha.sound hR
   have hk := hK _ _ ⟨pub, V, c1, c2, hrel⟩
   unfold Oper.wp
   rcases hrun none ty pos after gd with h1 | ⟨h1, rfl⟩
   ·rw [h1]; exact hk
   ·rw [h1]; exact hk
 | opS _ dst op ty pos after gd p U R T hg ha hd hF =>
  obtain ⟨R2, ha⟩ := ha s.mem (fun _ _ => rfl) (fun _ _ => .refl _)
  refine .inl ⟨?_, ?_⟩
  ·cases gd with
   | none => rfl
   | some q => rw [gyield_wanted hR (hg q.1 q.2 rfl) (o := ⟨dst, op, ty, pos, after, some q⟩) rfl]; simp
  ·obtain ⟨v, w', hrun, pub, V, c1, c2, hrel, hv⟩ := ha.sound hR
   cases dst with
   | some d =>
    have hk := hK _ _ ⟨pub, V, c1, c2, hrel.put d (hd d rfl) hv⟩
    unfold Oper.wp
    rcases hrun (some d) ty pos after gd with h1 | ⟨h1, rfl⟩
    ·rw [h1]; exact hk
    ·rw [h1]; exact hk
   | none =>
    have hk := hK _ _ ⟨pub, V, c1, c2, hrel⟩
    unfold Oper.wp
    rcases hrun none ty pos after gd with h1 | ⟨h1, rfl⟩
    ·rw [h1]; exact hk
    ·rw [h1]; exact hk
 | call _ d fo args ats ty pos after gd f caps ps ps' r p R U n' hg hf hps hp hc hr hU hd hF =>
  refine .inl ⟨?_, ?_⟩
  ·cases gd with
   | none => rfl
   | some q => rw [gyield_wanted hR (hg q.1 q.2 rfl) (o := ⟨some d, .call { callee := .value fo, args := args, argTypes := ats }, ty, pos, after, some q⟩) rfl]; simp
  ·exact call_wp hf hps hp hc hr hU hd hR hK
 | callM _ d fo args ats ty pos after gd f caps ps ps' r p R Hs M0 M1 U n' sl' hg hf hps hp hc hh hN hcov hsl hF' hr hU hd hF =>
  refine .inl ⟨?_, ?_⟩
  ·cases gd with
   | none => rfl
   | some q => rw [gyield_wanted hR (hg q.1 q.2 rfl) (o := ⟨some d, .call { callee := .value fo, args := args, argTypes := ats }, ty, pos, after, some q⟩) rfl]; simp
  ·exact call_wpM hf hps hp hc hh (memBack_eq M1 Hs s.mem hN) hsl hr hU hd hR (by rw [← upds_append]; exact hK)
 | callY _ d fo args ats ty pos after gd f ps ps' r R hg hf hps hp hok hc hr hn hd hF =>
  refine .inl ⟨?_, ?_⟩
  ·cases gd with
   | none => rfl
   | some q => rw [gyield_wanted hR (hg q.1 q.2 rfl) (o := ⟨some d, .call { callee := .value fo, args := args, argTypes := ats }, ty, pos, after, some q⟩) rfl]; simp
  ·exact call_wpY hf hps hp hok hc hr hn hd hR hK
 | skip _ _ g want b hgd hy hb hd =>
  refine .inr ⟨?_, ?_⟩
  ·rw [gyield_wanted hR hy hgd]; simpa using hb
  ·refine hK _ _ ?_
   obtain ⟨pub, V, c1, c2, hrel⟩ := hR
   cases hd' : o.dst with
   | none => exact ⟨pub, V, c1, c2, hrel⟩
   | some d => exact ⟨pub, V, c1, c2, hrel.put d (hd d hd') (.pure (.tuple [] #[] rfl (fun j c hj => by simp at hj)))⟩

def SLx (P : Program) (N : Nat) (all : Array Oper) (F : Nat → Foot) : Nat → List Oper → St → (St → Prop) → Prop
 | _, [], s, K => K s
 | i, o :: l, s, K => ∃ s', AStep P N all (F i) o s s' ∧ SLx P N all F (i + 1) l s' K

theorem SLx.sound {F : Nat → Foot} {Q' : Exit → Act → World → Prop} {KK : St → Prop} (hQ : ∀ s a w, KK s → Rel N w0 pub0 s a w → Q' .normal a w) : ∀ (l : List Oper) (i : Nat) (s : St) (a : Act) (w : World), SLx P N all F i l s KK → Rel N w0 pub0 s a w → wpList P all Q' l a w
 | [], i, s, a, w, h, hR => wpList_nil (hQ s a w h hR)
 | o :: l, i, s, a, w, ⟨s', hs, hl⟩, hR => by
  have := hs.sound (P := P) (K := wpList P all Q' l) (Q' := Q') (fun a w hR' => SLx.sound hQ l (i + 1) s' a w hl hR') hR
  unfold wpList
  rcases this with ⟨h1, h2⟩ | ⟨h1, h2⟩
  ·rw [if_pos h1]; exact .inl h2
  ·rw [if_neg (by rw [h1]; simp)]; exact h2

theorem Run.reg {id : Nat} {l : List Oper} (h : SLx P N l.toArray (fun _ => none) 0 l s (Run P N Q k)) : Run P N Q (.code (.region id l.toArray false) :: k) s := fun w0 pub0 a w hR =>
 wp_region_lit (SLx.sound (fun s a w hs hR => hs w0 pub0 a w hR) l 0 s a w h hR)

/-! ### Any order -/
theorem upds_comm {m : Nat → PV} {U U' : List (Nat × PV)} (h : ∀ q ∈ U, ∀ q' ∈ U', q.1 ≠ q'.1) : upds (upds m U) U' = upds (upds m U') U := by
 funext j
 by_cases h1 : ∃ q ∈ U, q.1 = j
 ·obtain ⟨q, hq, rfl⟩ := h1
  rw [upds_ne (fun q' hq' => Ne.symm (h q hq q' hq'))]
  have : ∀ (m m' : Nat → PV), ∀ (U : List (Nat × PV)), (∃ q' ∈ U, q'.1 = q.1) → upds m U q.1 = upds m' U q.1 := by
   intro m m' U
   induction U generalizing m m' with
   | nil => intro ⟨_, h, _⟩; cases h
   | cons r U ih =>
    intro ⟨q', hq', e⟩
    by_cases hU : ∃ q' ∈ U, q'.1 = q.1
    ·exact ih _ _ hU
    ·have hr : r.1 = q.1 := by
      rcases List.mem_cons.1 hq' with h | h
      ·rw [← h]; exact e
      ·exact absurd ⟨q', h, e⟩ hU
     rw [upds, upds, upds_ne (fun q' hq' e => hU ⟨q', hq', e⟩), upds_ne (fun q' hq' e => hU ⟨q', hq', e⟩), ← hr, upd_same, upd_same]
  exact this _ _ _ ⟨q, hq, rfl⟩
 ·rw [upds_ne (m := upds m U') (U := U) (fun q hq e => h1 ⟨q, hq, e⟩)]
  have : ∀ (U' : List (Nat × PV)) (m m' : Nat → PV), m j = m' j → upds m U' j = upds m' U' j := by
   intro U'
   induction U' with
   | nil => intro m m' h; exact h
   | cons r U ih =>
    intro m m' h
    refine ih _ _ ?_
    by_cases hj : j = r.1
    ·rw [hj, upd_same, upd_same]
    ·rw [upd_ne _ _ hj, upd_ne _ _ hj]; exact h
  exact this U' _ _ (upds_ne (fun q hq e => h1 ⟨q, hq, e⟩))

theorem upd_comm {m : Nat → PV} {i j : Nat} {p q : PV} (h : i ≠ j) : upd (upd m i p) j q = upd (upd m j q) i p := by
 funext k
 by_cases h1 : k = i <;> by_cases h2 : k = j <;> simp [upd, h1, h2]
 all_goals (first | (intro e; omega) | omega | skip)
end
end Go.Px
namespace Go.Px
set_option linter.unusedSimpArgs false
set_option linter.unusedVariables false
open Go.RowKit

theorem Lst.local {m m' : Nat → PV} {p : PV} {l : List PV} {R : List Nat} (h : Lst m p l R) (hm : ∀ n ∈ R, m' n = m n) : Lst m' p l R := by
 cases h with
 | pure => exact .pure l
 | nils => exact .nils
 | own n k x e sz _ h1 hk => exact .own n k x e sz l ((hm n (by simp)).trans h1) hk
theorem Cur.local {m m' : Nat → PV} {p : PV} (h : Cur m p) (hm : ∀ j k, p = .own j k → m' j = m j) : Cur m' p := by
 cases h with
 | plain _ h => exact .plain p h
 | own n k x e sz l h1 hk => exact .own n k x e sz l ((hm n k rfl).trans h1) hk
 | lptr n off => exact .lptr n off
 | agg cs => exact .agg cs

theorem AOp.local {P : Program} {σ σ' : Operand → PV} {m m' : Nat → PV} {d : Nat} {op : Op} {p : PV} {U : List (Nat × PV)} {R : List Nat} (ha : AOp P σ m d op p U R) (hσ : ∀ x ∈ op.operands, σ' x = σ x) (hm : ∀ n ∈ R, m' n = m n) : AOp P σ' m' d op p U R := by
 cases ha with
 | move x v hv => exact .move x _ ((hσ x (by simp [Op.operands])).trans hv)
 | assign x v hv => exact .assign x _ ((hσ x (by simp [Op.operands])).trans hv)
 | pick c x y b v hc hv => exact .pick c x y b _ ((hσ c (by simp [Op.operands])).trans hc) (by rw [hσ x (by simp [Op.operands]), hσ y (by simp [Op.operands])]; exact hv)
 | bin op t t' x y p q v hx hy hk hv hs => exact .bin op t t' x y p q _ ((hσ x (by simp [Op.operands, Call.operands])).trans hx) ((hσ y (by simp [Op.operands, Call.operands])).trans hy) hk hv hs
 | neqErr t t' x ms ht hx => exact .neqErr t t' x ms ht ((hσ x (by simp [Op.operands, Call.operands])).trans hx)
 | eqlBool t t' x y a b ht hx hy => exact .eqlBool t t' x y a b ht ((hσ x (by simp [Op.operands, Call.operands])).trans hx) ((hσ y (by simp [Op.operands, Call.operands])).trans hy)
 | neqBool t t' x y a b ht hx hy => exact .neqBool t t' x y a b ht ((hσ x (by simp [Op.operands, Call.operands])).trans hx) ((hσ y (by simp [Op.operands, Call.operands])).trans hy)
 | eqlAgg t t' x y ks cs ds r hf hx hy he => exact .eqlAgg t t' x y ks cs ds r hf ((hσ x (by simp [Op.operands, Call.operands])).trans hx) ((hσ y (by simp [Op.operands, Call.operands])).trans hy) he
 | neqAgg t t' x y ks cs ds r hf hx hy he => exact .neqAgg t t' x y ks cs ds r hf ((hσ x (by simp [Op.operands, Call.operands])).trans hx) ((hσ y (by simp [Op.operands, Call.operands])).trans hy) he
 | eqlNilS t t' x e sz by' p l R ht hx hl h0 => exact .eqlNilS t t' x e sz by' p l R ht ((hσ x (by simp [Op.operands, Call.operands])).trans hx) (hl.local fun n hn => hm n (by simp [hn])) h0
 | eqlNilL t t' x e sz by' ad n cap ht hx => exact .eqlNilL t t' x e sz by' ad n cap ht ((hσ x (by simp [Op.operands, Call.operands])).trans hx)
 | neqNilS t t' x e sz by' p l R ht hx hl h0 => exact .neqNilS t t' x e sz by' p l R ht ((hσ x (by simp [Op.operands, Call.operands])).trans hx) (hl.local fun n hn => hm n (by simp [hn])) h0
 | neqNil t t' x ms ht hx => exact .neqNil t t' x ms ht ((hσ x (by simp [Op.operands, Call.operands])).trans hx)
 | un op t x p v hx hv => exact .un op t x p _ ((hσ x (by simp [Op.operands, Call.operands])).trans hx) hv
 | conv t t' x k k' n ht hs hx => exact .conv t t' x k k' n ht hs ((hσ x (by simp [Op.operands, Call.operands])).trans hx)
 | load_l t x g sz n off y cs v ht hg hx hm' hv => exact .load_l t x g sz n off y cs _ ht hg ((hσ x (by simp [Op.operands, Call.operands])).trans hx) ((hm _ (by simp)).trans hm') hv
 | load_c t x g sz off cs v ht hg hx hv => exact .load_c t x g sz off cs _ ht hg ((hσ x (by simp [Op.operands, Call.operands])).trans hx) hv
 | load_e t x g sz n k i off y e sz' l el v ht hg hx hm' hk hi hv => exact .load_e t x g sz n k i off y e sz' l el _ ht hg ((hσ x (by simp [Op.operands, Call.operands])).trans hx) ((hm _ (by simp)).trans hm') hk hi hv
 | store_l t x y g sz n off cs p ht hx hm' hy hc hsz hfit R hR => exact .store_l t x y g sz n off cs p ht ((hσ x (by simp [Op.operands, Call.operands])).trans hx) ((hm _ (by simp)).trans hm') ((hσ y (by simp [Op.operands, Call.operands])).trans hy) (hc.local fun j k e => hm j (by simp [hR j k e])) hsz hfit R hR
 | store_e t x y g sz n k i off e sz' l el p p' R ht h0 hx hm' hk hi hy hp hsz hfit => exact .store_e t x y g sz n k i off e sz' l el p p' R ht h0 ((hσ x (by simp [Op.operands, Call.operands])).trans hx) ((hm _ (by simp)).trans hm') hk hi ((hσ y (by simp [Op.operands, Call.operands])).trans hy) (hp.local fun n hn => hm n (by simp [hn])) hsz hfit
 | nilChk x v hx hp => exact .nilChk x _ ((hσ x (by simp [Op.operands, Call.operands])).trans hx) hp
 | alloc t z hz hm' => exact .alloc t z hz ((hm _ (by simp)).trans hm')
 | box t x p R hx hc hm' hR => exact .box t x p R ((hσ x (by simp [Op.operands, Call.operands])).trans hx) (hc.local fun j k e => hm j (by simp [hR j k e])) ((hm _ (by simp)).trans hm') hR
 | buildArr t parts z cs n sz ps R hz ha hps hc hR hcs => exact .buildArr t parts z cs n sz ps R hz ha ((List.map_congr_left fun q hq => hσ _ (by simp only [Op.operands, List.mem_toArray, List.mem_map]; exact ⟨q, hq, rfl⟩)).trans hps) (fun p hp => (hc p hp).local fun j k e => hm j (hR p hp j k e)) hR hcs
 | build t parts z cs pl ps R hz hpl hps hc hR hcs => exact .build t parts z cs pl ps R hz hpl ((List.map_congr_left fun q hq => hσ _ (by simp only [Op.operands, List.mem_toArray, List.mem_map]; exact ⟨q, hq, rfl⟩)).trans hps) (fun p hp => (hc p hp).local fun j k e => hm j (hR p hp j k e)) hR hcs
 | buildSlice y t len parts e sz by' ps ps' R ht hsz0 hlen hz hzl hidx hps hp hsz hm' => exact .buildSlice y t len parts e sz by' ps ps' R ht hsz0 hlen hz hzl hidx ((List.map_congr_left fun q hq => hσ _ (by simp only [Op.operands, List.mem_toArray, List.mem_map]; exact ⟨q, hq, rfl⟩)).trans hps) (hp.local fun n hn => hm n (by simp [hn])) hsz ((hm _ (by simp)).trans hm')
 | makeSlice t x y e sz by' z el k k' n ht hsz0 hz hel hzl hp hx hy h0 hn hb hm' => exact .makeSlice t x y e sz by' z el k k' n ht hsz0 hz hel hzl hp ((hσ x (by simp [Op.operands, Call.operands])).trans hx) ((hσ y (by simp [Op.operands, Call.operands])).trans hy) h0 hn hb ((hm _ (by simp)).trans hm')
 | makeFunc f caps ps ps' R hps hp => exact .makeFunc f caps ps ps' R ((List.map_congr_left fun q hq => hσ _ (by simp [Op.operands]; simpa using hq)).trans hps) (hp.local fun n hn => hm n (by simp [hn]))
 | fieldAddr_l t x f n off o' ht hx => exact .fieldAddr_l t x f n off o' ht ((hσ x (by simp [Op.operands, Call.operands])).trans hx)
 | fieldAddr_c t x f off o' cs ht hx => exact .fieldAddr_c t x f off o' cs ht ((hσ x (by simp [Op.operands, Call.operands])).trans hx)
 | fieldAddr_e t x f n k i off o' y e sz l ht hx hm' hk => exact .fieldAddr_e t x f n k i off o' y e sz l ht ((hσ x (by simp [Op.operands, Call.operands])).trans hx) ((hm _ (by simp)).trans hm') hk
 | field t x f cs pl o' sz g ft v ht hs hg hx hv => exact .field t x f cs pl o' sz g ft _ ht hs hg ((hσ x (by simp [Op.operands, Call.operands])).trans hx) hv
 | indexAddr_s t x y e sz by' l k i el ht hx hy h0 hi hsz => exact .indexAddr_s t x y e sz by' l k i el ht ((hσ x (by simp [Op.operands, Call.operands])).trans hx) ((hσ y (by simp [Op.operands, Call.operands])).trans hy) h0 hi hsz
 | indexAddr_o t x y e sz by' n k' l k i el ht hx hm' hk hy h0 hi => exact .indexAddr_o t x y e sz by' n k' l k i el ht ((hσ x (by simp [Op.operands, Call.operands])).trans hx) ((hm _ (by simp)).trans hm') hk ((hσ y (by simp [Op.operands, Call.operands])).trans hy) h0 hi
 | indexAddr_x t x y e sz by' ee n k' b l k i ht hx hm' hk hy h0 hi => exact .indexAddr_x t x y e sz by' ee n k' b l k i ht ((hσ x (by simp [Op.operands, Call.operands])).trans hx) ((hm _ (by simp)).trans hm') hk ((hσ y (by simp [Op.operands, Call.operands])).trans hy) h0 hi
 | indexAddr_a t x y len sz n off k i ht hx hy h0 hi => exact .indexAddr_a t x y len sz n off k i ht ((hσ x (by simp [Op.operands, Call.operands])).trans hx) ((hσ y (by simp [Op.operands, Call.operands])).trans hy) h0 hi
 | indexStr t x y b k i u ht hx hy h0 hi => exact .indexStr t x y b k i u ht ((hσ x (by simp [Op.operands, Call.operands])).trans hx) ((hσ y (by simp [Op.operands, Call.operands])).trans hy) h0 hi
 | extract x i vs v hx hv => exact .extract x i vs _ ((hσ x (by simp [Op.operands, Call.operands])).trans hx) hv
 | lenStr t x b ht hx => exact .lenStr t x b ht ((hσ x (by simp [Op.operands, Call.operands])).trans hx)
 | lenLst t x p l R e sz by' ht hx hl => exact .lenLst t x p l R e sz by' ht ((hσ x (by simp [Op.operands, Call.operands])).trans hx) (hl.local fun n hn => hm n (by simp [hn]))
 | append t x y n k b e sz by' l lb z q R ht hz hzl hx hm' hk hy hq hlb hb hn h63 => exact .append t x y n k b e sz by' l lb z q R ht hz hzl ((hσ x (by simp [Op.operands, Call.operands])).trans hx) ((hm _ (by simp)).trans hm') hk ((hσ y (by simp [Op.operands, Call.operands])).trans hy) (hq.local fun n hn => hm n (by simp [hn])) hlb hb hn h63
 | appendNil b t x y e sz by' lb z q R ht hsz hz hzl hx hy hq hlb hb hn hm' => exact .appendNil b t x y e sz by' lb z q R ht hsz hz hzl ((hσ x (by simp [Op.operands, Call.operands])).trans hx) ((hσ y (by simp [Op.operands, Call.operands])).trans hy) (hq.local fun n hn => hm n (by simp [hn])) hlb hb hn ((hm _ (by simp)).trans hm')
 | max2 t t' x y k a b hx hy => exact .max2 t t' x y k a b ((hσ x (by simp [Op.operands, Call.operands])).trans hx) ((hσ y (by simp [Op.operands, Call.operands])).trans hy)
 | min2 t t' x y k a b hx hy => exact .min2 t t' x y k a b ((hσ x (by simp [Op.operands, Call.operands])).trans hx) ((hσ y (by simp [Op.operands, Call.operands])).trans hy)
 | sliceStr t x b lo hi i j ht hx hlo hhi h0 h1 h2 => exact .sliceStr t x b lo hi i j ht ((hσ x (by simp [Op.operands, Call.operands])).trans hx) (by cases lo with | none => exact hlo | some o => exact hlo.imp fun k hk => (hσ o (by simp [Op.operands])).trans hk) (by cases hi with | none => exact hhi | some o => exact hhi.imp fun k hk => (hσ o (by simp [Op.operands])).trans hk) h0 h1 h2
 | sliceS t x l lo hi e sz by' i j ht hsz hx hlo hhi h0 h1 h2 => exact .sliceS t x l lo hi e sz by' i j ht hsz ((hσ x (by simp [Op.operands, Call.operands])).trans hx) (by cases lo with | none => exact hlo | some o => exact hlo.imp fun k hk => (hσ o (by simp [Op.operands])).trans hk) (by cases hi with | none => exact hhi | some o => exact hhi.imp fun k hk => (hσ o (by simp [Op.operands])).trans hk) h0 h1 h2
 | sliceO t x n k l lo hi e sz by' i j ht hx hm' hk hlo hhi h0 h1 h2 => exact .sliceO t x n k l lo hi e sz by' i j ht ((hσ x (by simp [Op.operands, Call.operands])).trans hx) ((hm _ (by simp)).trans hm') hk (by cases lo with | none => exact hlo | some o => exact hlo.imp fun k hk => (hσ o (by simp [Op.operands])).trans hk) (by cases hi with | none => exact hhi | some o => exact hhi.imp fun k hk => (hσ o (by simp [Op.operands])).trans hk) h0 h1 h2
 | sliceX t x n k l lo hi e sz by' i j ht hx hm' hk hpos hlo hhi h0 h1 h2 => exact .sliceX t x n k l lo hi e sz by' i j ht ((hσ x (by simp [Op.operands, Call.operands])).trans hx) ((hm _ (by simp)).trans hm') hk hpos (by cases lo with | none => exact hlo | some o => exact hlo.imp fun k hk => (hσ o (by simp [Op.operands])).trans hk) (by cases hi with | none => exact hhi | some o => exact hhi.imp fun k hk => (hσ o (by simp [Op.operands])).trans hk) h0 h1 h2
 | lenL t x n k i j b e sz by' l ht hx hm' hk => exact .lenL t x n k i j b e sz by' l ht ((hσ x (by simp [Op.operands, Call.operands])).trans hx) ((hm _ (by simp)).trans hm') hk
 | indexAddr_l t x y e sz by' n k' i j b l kk z ht hx hm' hk hy h0 hz => exact .indexAddr_l t x y e sz by' n k' i j b l kk z ht ((hσ x (by simp [Op.operands, Call.operands])).trans hx) ((hm _ (by simp)).trans hm') hk ((hσ y (by simp [Op.operands, Call.operands])).trans hy) h0 hz
 | clearL t x n k i j e sz by' z el l ht hz hel hzl hp hx hm' hk => exact .clearL t x n k i j e sz by' z el l ht hz hel hzl hp ((hσ x (by simp [Op.operands, Call.operands])).trans hx) ((hm _ (by simp)).trans hm') hk
 | lenY sk c t x l e sz by' ht hx => exact .lenY sk c t x l e sz by' ht ((hσ x (by simp [Op.operands, Call.operands])).trans hx)
 | indexAddr_y sk c t x y e sz by' l k i el ht hx hy h0 hi hsz => exact .indexAddr_y sk c t x y e sz by' l k i el ht ((hσ x (by simp [Op.operands, Call.operands])).trans hx) ((hσ y (by simp [Op.operands, Call.operands])).trans hy) h0 hi hsz
 | fieldAddr_y sk c t x f off o' cs ht hx => exact .fieldAddr_y sk c t x f off o' cs ht ((hσ x (by simp [Op.operands, Call.operands])).trans hx)
 | load_y sk c t x g sz off cs v ht hg hx hv => exact .load_y sk c t x g sz off cs _ ht hg ((hσ x (by simp [Op.operands, Call.operands])).trans hx) hv
 | shrI t t' x y k yk b c hx hy h0 => exact .shrI t t' x y k yk b c ((hσ x (by simp [Op.operands, Call.operands])).trans hx) ((hσ y (by simp [Op.operands, Call.operands])).trans hy) h0
 | shlI t t' x y k yk b c hx hy h0 => exact .shlI t t' x y k yk b c ((hσ x (by simp [Op.operands, Call.operands])).trans hx) ((hσ y (by simp [Op.operands, Call.operands])).trans hy) h0
 | bitI op t t' x y k b c r hx hy hr => exact .bitI op t t' x y k b c r ((hσ x (by simp [Op.operands, Call.operands])).trans hx) ((hσ y (by simp [Op.operands, Call.operands])).trans hy) hr
 | convSB t t' e x b hs hd he hlt hx hsz hm' => exact .convSB t t' e x b hs hd he hlt ((hσ x (by simp [Op.operands, Call.operands])).trans hx) hsz ((hm _ (by simp)).trans hm')
 | convBS t t' e x p xs R hs he hd hx hl => exact .convBS t t' e x p xs R hs he hd ((hσ x (by simp [Op.operands, Call.operands])).trans hx) (hl.local fun n hn => hm n (by simp [hn]))
 | store_y c t x y off cs u u' ht hx hm' hc hy hu hs => exact .store_y c t x y off cs u u' ht ((hσ x (by simp [Op.operands, Call.operands])).trans hx) ((hm _ (by simp)).trans hm') hc ((hσ y (by simp [Op.operands, Call.operands])).trans hy) hu hs
end Go.Px
namespace Go.Px
set_option linter.unusedSimpArgs false
set_option linter.unusedVariables false
open Go.RowKit

section
variable {P : Program} {N : Nat} {Q : St → Prop} {k : List Item} {all : Array Oper} {w0 : Base P} {pub0 : Nat → Nat → Prop}

theorem looks_op {o : Oper} {s s2 : St} (h : ∀ t ∈ o.looksAt all, s2.slot t = s.slot t) : ∀ x ∈ o.op.operands, s2.ev x = s.ev x := by
 intro x hx
 cases x with
 | tmp t =>
  refine h t ?_
  unfold Oper.looksAt
  refine List.mem_append.2 (.inl ?_)
  exact List.mem_filterMap.2 ⟨.tmp t, by simpa using hx, rfl⟩
 | _ => rfl
theorem looks_guard {o : Oper} {s s2 : St} (h : ∀ t ∈ o.looksAt all, s2.slot t = s.slot t) {g : Nat} {want : Bool} (hg : o.guard = some (g, want)) {b : Option Bool} (hy : gyield all s g b) : gyield all s2 g b := by
 obtain ⟨t, ht, hb⟩ := hy
 refine ⟨t, ht, ?_⟩
 have : s2.slot t = s.slot t := h t (by
  unfold Oper.looksAt
  refine List.mem_append.2 (.inr ?_)
  rw [hg]
  unfold gslot at ht
  simp [ht])
 rw [this]; exact hb

theorem AStep.local {r wr sr sw : List Nat} {o : Oper} {s s' : St} (h : AStep P N all (some (r, wr, sr, sw)) o s s') : ∃ p U, (∀ q ∈ U, q.1 ∈ wr ∨ (q.1 ∈ sw ∧ U = [q] ∧ KL (s.mem q.1) q.2)) ∧ s' = ⟨(s.put o.dst p).slot, upds s.mem U⟩ ∧
  ∀ s2 : St, (∀ t ∈ o.looksAt all, s2.slot t = s.slot t) → (∀ n, n ∈ r ∨ n ∈ wr ∨ n ∈ sw → s2.mem n = s.mem n) → (∀ n ∈ sr, KL (s.mem n) (s2.mem n)) → AStep P N all (some (r, wr, sr, sw)) o s2 ⟨(s2.put o.dst p).slot, upds s2.mem U⟩ := by
 cases h with
 | op _ d op ty pos after gd p U R hg ha hd hF =>
  refine ⟨p, U, fun q hq => .inl (hF.2 q hq), rfl, fun s2 h1 h2 _ => ?_⟩
  exact .op s2 d op ty pos after gd p U R (fun g want e => looks_guard h1 (by exact e) (hg g want e)) (ha.local (looks_op h1) (fun n hn => h2 n (.inl (hF.1 n hn)))) hd hF
 | op0 _ op ty pos after gd p U R hg ha hF =>
  refine ⟨p, U, fun q hq => .inl (hF.2 q hq), rfl, fun s2 h1 h2 _ => ?_⟩
  exact .op0 s2 op ty pos after gd p U R (fun g want e => looks_guard h1 (by exact e) (hg g want e)) (ha.local (looks_op h1) (fun n hn => h2 n (.inl (hF.1 n hn)))) hF
 | opS _ dst op ty pos after gd p U R T hg ha hd hF =>
  refine ⟨p, U, hF.2.2, rfl, fun s2 h1 h2 h3 => ?_⟩
  refine .opS s2 dst op ty pos after gd p U R T (fun g want e => looks_guard h1 (by exact e) (hg g want e)) (fun m2 a1 a2 => ?_) hd ⟨hF.1, hF.2.1, fun q hq => ?_⟩
  ·obtain ⟨R2, h⟩ := ha m2 (fun n hn => (a1 n hn).trans (h2 n (.inl (hF.1 n hn)))) (fun n hn => (h3 n (hF.2.1 n hn)).trans (a2 n hn))
   exact ⟨R2, h.local (looks_op h1) (fun _ _ => rfl)⟩
  ·rcases hF.2.2 q hq with h | ⟨ha, hb, hc⟩
   ·exact .inl h
   ·exact .inr ⟨ha, hb, by rw [h2 q.1 (.inr (.inr ha))]; exact hc⟩
 | call _ d fo args ats ty pos after gd f caps ps ps' r' p R U n' hg hf hps hp hc hr hU hd hF =>
  refine ⟨p, U, fun q hq => .inl (hF.2 q hq), rfl, fun s2 h1 h2 _ => ?_⟩
  have hl := looks_op h1
  refine .call s2 d fo args ats ty pos after gd f caps ps ps' r' p R U n' (fun g want e => looks_guard h1 (by exact e) (hg g want e)) ((hl fo (by simp [Op.operands, Call.operands])).trans hf)
   ((List.map_congr_left fun x hx => hl x (by simp [Op.operands, Call.operands]; exact .inr (by simpa using hx))).trans hps) (hp.local fun n hn => h2 n (.inl (hF.1 n hn))) hc hr (fun q hq => ⟨(h2 _ (.inr (.inl (hF.2 q hq)))).trans (hU q hq).1, (hU q hq).2⟩) hd hF
 | callM _ d fo args ats ty pos after gd f caps ps ps' r' p R Hs M0 M1 U n' sl' hg hf hps hp hc hh hN hcov hsl hF' hr hU hd hF =>
  have hF' := hF'.resolve_left (by simp)
  subst hF'
  refine ⟨p, backU Hs M1 ++ U, fun q hq => .inl (hF.2 q hq), rfl, fun s2 h1 h2 _ => ?_⟩
  have hl := looks_op h1
  refine .callM s2 d fo args ats ty pos after gd f caps ps ps' r' p R Hs M0 M1 U n' s2.slot (fun g want e => looks_guard h1 (by exact e) (hg g want e)) ((hl fo (by simp [Op.operands, Call.operands])).trans hf)
   ((List.map_congr_left fun x hx => hl x (by simp [Op.operands, Call.operands]; exact .inr (by simpa using hx))).trans hps) (hp.local fun n hn => h2 n (.inl (hF.1 n hn))) hc
   (hh.local fun n c hn => h2 c (by
    rcases hcov n c hn with h | h
    ·exact .inl (hF.1 c h)
    ·exact .inr (.inl (hF.2 (c, memOf M1 n) (List.mem_append.2 (.inl (List.mem_filterMap.2 ⟨(n, c), nameOf_mem hn, by simp [h]⟩))))))) hN hcov (fun t => .one _ _ (.same _)) (.inr rfl) hr (fun q hq => ⟨(h2 _ (.inr (.inl (hF.2 q (List.mem_append.2 (.inr hq)))))).trans (hU q hq).1, (hU q hq).2⟩) hd hF
 | callY _ d fo args ats ty pos after gd f ps ps' r' R hg hf hps hp hok hc hr hn hd hF =>
  refine ⟨_, [(64 * d, .yreg false true)], fun q hq => .inl (hF.2 q hq), rfl, fun s2 h1 h2 _ => ?_⟩
  have hl := looks_op h1
  exact .callY s2 d fo args ats ty pos after gd f ps ps' r' R (fun g want e => looks_guard h1 (by exact e) (hg g want e)) ((hl fo (by simp [Op.operands, Call.operands])).trans hf)
   ((List.map_congr_left fun x hx => hl x (by simp [Op.operands, Call.operands]; exact .inr (by simpa using hx))).trans hps) (hp.local fun n hn => h2 n (.inl (hF.1 n hn))) hok hc hr ((h2 _ (.inr (.inl (hF.2 _ (List.mem_cons_self ..))))).trans hn) hd hF
 | skip _ _ g want b hgd hy hb hd =>
  refine ⟨.tuple [], [], (fun q hq => absurd hq List.not_mem_nil), ?_, fun s2 h1 h2 _ => ?_⟩
  ·unfold St.put; cases o.dst <;> rfl
  ·have := AStep.skip (P := P) (N := N) (all := all) (F := some (r, wr, sr, sw)) s2 o g want b hgd (looks_guard h1 hgd hy) hb hd
   have e : s2.put o.dst (.tuple []) = ⟨(s2.put o.dst (.tuple [])).slot, upds s2.mem []⟩ := by unfold St.put; cases o.dst <;> rfl
   rw [e] at this; exact this

def disjB : Foot → Foot → Bool
 | some (ri, wi, sri, swi), some (rj, wj, srj, swj) => wi.all (fun n => !rj.contains n && (!wj.contains n && (!srj.contains n && !swj.contains n))) && (swi.all (fun n => !rj.contains n && (!wj.contains n && !swj.contains n)) && (wj.all (fun n => !ri.contains n && !sri.contains n) && swj.all (fun n => !ri.contains n)))
 | _, _ => false
theorem kl_upds {m : Nat → PV} {U : List (Nat × PV)} {w sw : List Nat} (h : ∀ q ∈ U, q.1 ∈ w ∨ (q.1 ∈ sw ∧ U = [q] ∧ KL (m q.1) q.2)) {n : Nat} (hn : n ∉ w) : KL (m n) (upds m U n) := by
 by_cases hx : ∃ q ∈ U, q.1 = n
 ·obtain ⟨q, hq, rfl⟩ := hx
  rcases h q hq with h | ⟨_, h2, h3⟩
  ·exact absurd h hn
  ·subst h2
   show KL (m q.1) (upd m q.1 q.2 q.1)
   rw [upd_same]; exact h3
 ·rw [upds_ne (fun q hq e => hx ⟨q, hq, e⟩)]; exact .refl _

theorem put_slot {s : St} {d : Option Nat} {p : PV} {t : Nat} (h : d ≠ some t) : (s.put d p).slot t = s.slot t := by
 unfold St.put
 cases d with
 | none => rfl
 | some d => exact upd_ne _ _ (fun e => h (by rw [e]))

theorem AStep.swap {Fi Fj : Foot} {oi oj : Oper} {s s1 s2 : St} (hap : oi.apart all oj = true) (hdj : disjB Fi Fj = true) (h1 : AStep P N all Fi oi s s1) (h2 : AStep P N all Fj oj s1 s2) : ∃ s', AStep P N all Fj oj s s' ∧ AStep P N all Fi oi s' s2 := by
 match Fi, Fj, hdj with
 | some (ri, wi, sri, swi), some (rj, wj, srj, swj), hdj =>
  simp only [disjB, Bool.and_eq_true, List.all_eq_true, Bool.not_eq_true', List.contains_eq_mem, decide_eq_false_iff_not] at hdj
  obtain ⟨d1, d2, d3, d4⟩ := hdj
  obtain ⟨pi, Ui, u1, rfl, l1⟩ := h1.local
  obtain ⟨pj, Uj, u2, rfl, l2⟩ := h2.local
  obtain ⟨a1, a2, a3⟩ := Oper.apart_spec hap
  have ni : ∀ q ∈ Ui, q.1 ∈ wi ∨ q.1 ∈ swi := fun q hq => (u1 q hq).imp id (·.1)
  have nj : ∀ q ∈ Uj, q.1 ∈ wj ∨ q.1 ∈ swj := fun q hq => (u2 q hq).imp id (·.1)
  have offi : ∀ n, n ∈ rj ∨ n ∈ wj ∨ n ∈ swj → upds s.mem Ui n = s.mem n := fun n hn => upds_ne (fun q hq e => by
   rcases ni q hq with h | h
   ·have := d1 q.1 h
    rw [e] at this
    rcases hn with hn | hn | hn
    ·exact this.1 hn
    ·exact this.2.1 hn
    ·exact this.2.2.2 hn
   ·have := d2 q.1 h
    rw [e] at this
    rcases hn with hn | hn | hn
    ·exact this.1 hn
    ·exact this.2.1 hn
    ·exact this.2.2 hn)
  have offj : ∀ n, n ∈ ri ∨ n ∈ wi ∨ n ∈ swi → upds s.mem Uj n = s.mem n := fun n hn => upds_ne (fun q hq e => by
   rcases nj q hq with h | h
   ·rcases hn with hn | hn | hn
    ·exact (d3 q.1 h).1 (by rw [e]; exact hn)
    ·exact (d1 n hn).2.1 (by rw [← e]; exact h)
    ·exact (d2 n hn).2.1 (by rw [← e]; exact h)
   ·rcases hn with hn | hn | hn
    ·exact d4 q.1 h (by rw [e]; exact hn)
    ·exact (d1 n hn).2.2.2 (by rw [← e]; exact h)
    ·exact (d2 n hn).2.2 (by rw [← e]; exact h))
  have e1 := l2 s (fun t ht => (put_slot (fun e => a1 t e ht)).symm) (fun n hn => (offi n hn).symm) (fun n hn => (kl_upds u1 (fun h => (d1 n h).2.2.1 hn)).symm)
  have u2' : ∀ q ∈ Uj, q.1 ∈ wj ∨ (q.1 ∈ swj ∧ Uj = [q] ∧ KL (s.mem q.1) q.2) := fun q hq => by
   rcases u2 q hq with h | ⟨h, h', h''⟩
   ·exact .inl h
   ·have e : (⟨(s.put oi.dst pi).slot, upds s.mem Ui⟩ : St).mem q.1 = s.mem q.1 := offi q.1 (.inr (.inr h))
    rw [e] at h''
    exact .inr ⟨h, h', h''⟩
  refine ⟨_, e1, ?_⟩
  have e2 := l1 ⟨(s.put oj.dst pj).slot, upds s.mem Uj⟩ (fun t ht => put_slot (fun e => a3 t e ht)) offj (fun n hn => kl_upds u2' (fun h => (d3 n h).2 hn))
  have e3 : (⟨((⟨(s.put oj.dst pj).slot, upds s.mem Uj⟩ : St).put oi.dst pi).slot, upds (upds s.mem Uj) Ui⟩ : St) = ⟨((⟨(s.put oi.dst pi).slot, upds s.mem Ui⟩ : St).put oj.dst pj).slot, upds (upds s.mem Ui) Uj⟩ := by
   have f1 : upds (upds s.mem Uj) Ui = upds (upds s.mem Ui) Uj := (upds_comm (fun q hq q' hq' e => by
    rcases ni q hq with h | h
    ·rcases nj q' hq' with h' | h'
     ·exact (d1 q.1 h).2.1 (by rw [e]; exact h')
     ·exact (d1 q.1 h).2.2.2 (by rw [e]; exact h')
    ·rcases nj q' hq' with h' | h'
     ·exact (d2 q.1 h).2.1 (by rw [e]; exact h')
     ·exact (d2 q.1 h).2.2 (by rw [e]; exact h'))).symm
   have f2 : ((⟨(s.put oj.dst pj).slot, upds s.mem Uj⟩ : St).put oi.dst pi).slot = ((⟨(s.put oi.dst pi).slot, upds s.mem Ui⟩ : St).put oj.dst pj).slot := by
    cases hi : oi.dst with
    | none => cases hj : oj.dst <;> simp only [St.put]
    | some i =>
     cases hj : oj.dst with
     | none => simp only [St.put]
     | some j =>
      simp only [St.put]
      exact upd_comm (fun e => a2 i hi (by rw [hj, e]))
   rw [f1, f2]
  rw [e3] at e2
  exact e2

def AAny (P : Program) (N : Nat) (all : Array Oper) (F : Nat → Foot) (K : St → Prop) : Nat → Array Bool → St → Prop
 | 0, listed, s => Region.ready .any all listed = [] ∧ K s
 | fuel + 1, listed, s => (Region.ready .any all listed = [] → K s) ∧ ∀ i ∈ Region.ready .any all listed, ∃ o s', all[i]? = some o ∧ AStep P N all (F i) o s s' ∧ AAny P N all F K fuel (listed.setIfInBounds i true) s'

theorem AAny.sound {F : Nat → Foot} {K : St → Prop} {Q' : Exit → Act → World → Prop} (hQ : ∀ s a w, K s → Rel N w0 pub0 s a w → Q' .normal a w) : ∀ (fuel : Nat) (listed : Array Bool) (s : St) (a : Act) (w : World), AAny P N all F K fuel listed s → Rel N w0 pub0 s a w → wpAny P .any all Q' fuel listed a w
 | 0, _, s, a, w, h, hR => ⟨h.1, hQ s a w h.2 hR⟩
 | fuel + 1, listed, s, a, w, h, hR => ⟨fun h0 => hQ s a w (h.1 h0) hR, fun i hi => by
  obtain ⟨o, s', ho, hs, hn⟩ := h.2 i hi
  have := hs.sound (P := P) (K := wpAny P .any all Q' fuel (listed.setIfInBounds i true)) (Q' := Q') (fun a w hR' => AAny.sound hQ fuel _ s' a w hn hR') hR
  unfold wpOp
  simp only [ho]
  rcases this with ⟨h1, h2⟩ | ⟨h1, h2⟩
  ·rw [if_pos h1]; exact .inl h2
  ·rw [if_neg (by rw [h1]; simp)]; exact h2⟩

theorem AAny.first {F : Nat → Foot} {K : St → Prop} {i : Nat} {oi : Oper} (hi : all[i]? = some oi) : ∀ (fuel : Nat) (listed : Array Bool) (s s1 : St),
  (∀ j oj, all[j]? = some oj → j ≠ i → listed.getD j true = false → (∀ e ∈ oj.after, Region.binds .any e = true → e.on ≠ i) → oi.apart all oj = true ∧ disjB (F i) (F j) = true) →
  i ∈ Region.ready .any all listed → AStep P N all (F i) oi s s1 → AAny P N all F K fuel (listed.setIfInBounds i true) s1 → AAny P N all F K (fuel + 1) listed s := by
 intro fuel
 induction fuel with
 | zero =>
  intro listed s s1 _ hr hy H
  refine ⟨fun h => (by rw [h] at hr; cases hr), fun j hj => ?_⟩
  by_cases hji : j = i
  ·subst hji; exact ⟨oi, s1, hi, hy, H⟩
  ·have := ready_mono hj hji
   rw [H.1] at this
   cases this
 | succ fuel ih =>
  intro listed s s1 hfree hr hy H
  refine ⟨fun h => (by rw [h] at hr; cases hr), fun j hj => ?_⟩
  by_cases hji : j = i
  ·subst hji; exact ⟨oi, s1, hi, hy, H⟩
  ·obtain ⟨oj, s2, hoj, hs2, H2⟩ := H.2 j (ready_mono hj hji)
   obtain ⟨hjun, oj', hoj', hall⟩ := mem_ready.1 hj
   rw [hoj] at hoj'; cases hoj'
   have hnot : ∀ e ∈ oj.after, Region.binds .any e = true → e.on ≠ i := fun e he hb heq => by
    have h1 := hall e he hb
    have h0 := (mem_ready.1 hr).1
    rw [heq] at h1
    rcases Nat.lt_or_ge i listed.size with h' | h'
    ·simp [h'] at h0 h1; rw [h0] at h1; cases h1
    ·simp [Array.getElem?_eq_none h'] at h1
   obtain ⟨ha, hd⟩ := hfree j oj hoj hji hjun hnot
   obtain ⟨s', hj', hi'⟩ := AStep.swap ha hd hy hs2
   have hfree' : ∀ k ok, all[k]? = some ok → k ≠ i → (listed.setIfInBounds j true).getD k true = false → (∀ e ∈ ok.after, Region.binds .any e = true → e.on ≠ i) → oi.apart all ok = true ∧ disjB (F i) (F k) = true := fun k ok hk hki hun hno => by
    refine hfree k ok hk hki ?_ hno
    by_cases hjk : j = k
    ·subst hjk; exact hjun
    ·rw [getD_set_ne true hjk] at hun; exact hun
   refine ⟨oj, s', hoj, hj', ih (listed.setIfInBounds j true) s' s2 hfree' (ready_mono hr (Ne.symm hji)) hi' ?_⟩
   rw [Array.setIfInBounds_comm _ _ hji]
   exact H2

def footFrom (all : Array Oper) (F : Nat → Foot) : Nat → Nat → Array Bool → Bool
 | 0, _, _ => true
 | fuel + 1, k, listed =>
  ((List.range all.size).all fun j => j == k || listed.getD j true || ((all[j]?).map fun o => o.after.any fun e => Region.binds .any e && e.on == k).getD true || disjB (F k) (F j)) && footFrom all F fuel (k + 1) (listed.setIfInBounds k true)

theorem AAny.lex {F : Nat → Foot} {K : St → Prop} : ∀ (l : List Oper) (i : Nat) (listed : Array Bool) (s : St), (∀ j, l[j]? = all[i + j]?) → Region.lexFrom .any all l.length i listed = true → footFrom all F l.length i listed = true → SLx P N all F i l s K → AAny P N all F K l.length listed s
 | [], _, _, s, _, hB, _, h => ⟨by simpa [Region.lexFrom] using hB, h⟩
 | o :: l, i, listed, s, hl, hB, hF, h => by
  have h0 : all[i]? = some o := by simpa using (hl 0).symm
  simp only [List.length_cons, Region.lexFrom, Bool.and_eq_true] at hB
  simp only [List.length_cons, footFrom, Bool.and_eq_true, List.all_eq_true] at hF
  obtain ⟨⟨hr, hf⟩, hB'⟩ := hB
  obtain ⟨s', hs, hK⟩ := h
  refine AAny.first h0 l.length listed s s' (fun j oj hj hji hun hno => ⟨Region.free_spec h0 hf j oj hj hji hun hno, ?_⟩) (by simpa using hr) hs
   (AAny.lex l (i + 1) _ _ (fun j => by have := hl (j + 1); simpa [Nat.add_assoc, Nat.add_comm 1 j] using this) hB' hF.2 hK)
  have hlt : j < all.size := (Array.getElem?_eq_some_iff.1 hj).1
  have := hF.1 j (List.mem_range.2 hlt)
  simp only [Bool.or_eq_true, beq_iff_eq, hj, Option.map_some, Option.getD_some] at this
  rcases this with ((h1 | h1) | h1) | h1
  ·exact absurd h1 hji
  ·rw [hun] at h1; cases h1
  ·simp only [Array.any_eq_true, Bool.and_eq_true, beq_iff_eq] at h1
   obtain ⟨x, hx, hb, he⟩ := h1
   exact absurd he (hno _ (Array.getElem_mem hx) hb)
  ·exact h1

theorem Run.draw {id : Nat} {l : List Oper} {s : St} (F : Nat → Foot) (hm : P.follows .mixedOrders = true) (hB : Region.lexB .any l.toArray = true) (hF : footFrom l.toArray F l.length 0 (Array.replicate l.length false) = true)
  (h : SLx P N l.toArray F 0 l s (Run P N Q k)) : Run P N Q (.code (.region id l.toArray true) :: k) s := fun w0 pub0 a w hR => by
 simp only [Region.lexB, Bool.and_eq_true] at hB
 refine wp_region_any hm ?_
 obtain ⟨pub, V, c1, c2, hrel⟩ := hR
 have hR' : Rel N w0 pub0 s a { w with drawn := w.drawn + 1 } := ⟨pub, V, c1, c2, hrel.world ((Below.refl _ _).drew)⟩
 refine AAny.sound (F := F) (K := Run P N Q k) (fun s a w hs hR => hs w0 pub0 a w hR) _ _ s a _ ?_ hR'
 have := AAny.lex (all := l.toArray) l 0 (Array.replicate l.length false) s (by simp) (by simpa using hB.2) hF h
 simpa using this
end
end Go.Px
namespace Go.Px
set_option linter.unusedSimpArgs false
set_option linter.unusedVariables false
open Go.RowKit

def evO (S : List (Nat × PV)) : Operand → Option PV
 | .tmp t => look S t
 | .const (.int k n) => some (.lit (.int k n))
 | .const (.bool b) => some (.lit (.bool b))
 | .const (.string b) => some (.lit (.string b))
 | .const .nilIface => some (.lit .nilIface)
 | .const (.slice none 0 0) => some .nils
 | .func f => some (.fn f [])
 | _ => none
theorem evO_spec {S M : List (Nat × PV)} {x : Operand} {v : PV} (h : evO S x = some v) : (St.of S M).ev x = v := by
 unfold evO at h
 split at h <;> first | (cases h; rfl) | (simp only [St.ev, St.of, h]; rfl) | cases h
def Foot.okB : Foot → List Nat → List Nat → Bool
 | none, _, _ => true
 | some (r, w, _, _), R, W => R.all (fun n => r.contains n) && W.all (fun n => w.contains n)
theorem okB_spec {F : Foot} {R : List Nat} {U : List (Nat × PV)} (h : F.okB R (U.map (·.1)) = true) : F.ok R U := by
 match F, h with
 | none, _ => trivial
 | some (r, w, _, _), h =>
  simp only [Foot.okB, Bool.and_eq_true, List.all_eq_true, List.contains_eq_mem, decide_eq_true_eq] at h
  exact ⟨h.1, fun q hq => h.2 q.1 (List.mem_map.2 ⟨q, hq, rfl⟩)⟩

def evL (S : List (Nat × PV)) : List Operand → Option (List PV)
 | [] => some []
 | x :: xs => match evO S x with
  | some v => match evL S xs with
   | some vs => some (v :: vs)
   | none => none
  | none => none
theorem evL_spec {S M : List (Nat × PV)} : ∀ {xs : List Operand} {vs : List PV}, evL S xs = some vs → xs.map (St.of S M).ev = vs
 | [], _, h => by cases h; rfl
 | x :: xs, vs, h => by
  unfold evL at h
  split at h <;> try cases h
  rename_i v hv
  split at h <;> cases h
  rename_i vs' hvs
  rw [List.map_cons, evO_spec hv, evL_spec hvs]

def purO (M : List (Nat × PV)) : PV → Option (PV × List Nat × List (Nat × Nat))
 | .lit v => some (.lit v, [], [])
 | .err b => some (.err b, [], [])
 | .nils => some (.nils, [], [])
 | .slice l => some (.slice l, [], [])
 | .fn f c => some (.fn f c, [], [])
 | .cptr cs o => some (.cptr cs o, [], [])
 | .own n k => match look M n with
  | some (.obj false _ _ l) => some (.slice l, [n], [(k, l.length)])
  | _ => none
 | .lptr n o => match look M n with
  | some (.blk false cs) => some (.cptr cs o, [n], [])
  | _ => none
 | _ => none
def AllEq : List (Nat × Nat) → Prop
 | [] => True
 | (a, b) :: C => a = b ∧ AllEq C
theorem AllEq.app {C C' : List (Nat × Nat)} (h : AllEq (C ++ C')) : AllEq C ∧ AllEq C' := by
 induction C with
 | nil => exact ⟨trivial, h⟩
 | cons q C ih => exact ⟨⟨h.1, (ih h.2).1⟩, (ih h.2).2⟩
def purC (M : List (Nat × PV)) : List PV → Option (List PV × List Nat × List (Nat × Nat))
 | [] => some ([], [], [])
 | p :: ps => match purO M p with
  | some (q, R, C) => match purC M ps with
   | some (qs, R', C') => some (q :: qs, R ++ R', C ++ C')
   | none => none
  | none => none
def purL (M : List (Nat × PV)) : List PV → Option (List PV × List Nat × List (Nat × Nat))
 | [] => some ([], [], [])
 | .agg cs :: ps => match purC M cs with
  | some (q, R, C) => match purL M ps with
   | some (qs, R', C') => some (.agg q :: qs, R ++ R', C ++ C')
   | none => none
  | none => none
 | p :: ps => match purO M p with
  | some (q, R, C) => match purL M ps with
   | some (qs, R', C') => some (q :: qs, R ++ R', C ++ C')
   | none => none
  | none => none
theorem purO_spec {S M : List (Nat × PV)} {p q : PV} {R : List Nat} {C : List (Nat × Nat)} (h : purO M p = some (q, R, C)) (hC : AllEq C) {ps ps' : List PV} {R' : List Nat} (hp : PurL (St.of S M).mem ps ps' R') : PurL (St.of S M).mem (p :: ps) (q :: ps') (R ++ R') := by
 unfold purO at h
 split at h <;> try (cases h; exact .plain _ _ _ _ rfl hp)
 ·split at h <;> cases h
  rename_i hm
  exact .own _ _ _ _ _ _ _ _ (look_mem hm) hC.1 hp
 ·split at h <;> cases h
  rename_i hm
  exact .lptr _ _ _ _ _ _ (look_mem hm) hp
 ·cases h
theorem purC_spec {S M : List (Nat × PV)} : ∀ {ps qs : List PV} {R : List Nat} {C : List (Nat × Nat)}, purC M ps = some (qs, R, C) → AllEq C → PurL (St.of S M).mem ps qs R
 | [], _, _, _, h, _ => by cases h; exact .nil
 | p :: ps, qs, R, C, h, hC => by
  unfold purC at h
  split at h <;> try cases h
  rename_i q R1 C1 h1
  split at h <;> cases h
  rename_i qs' R2 C2 h2
  exact purO_spec h1 hC.app.1 (purC_spec h2 hC.app.2)
theorem purL_spec {S M : List (Nat × PV)} : ∀ {ps qs : List PV} {R : List Nat} {C : List (Nat × Nat)}, purL M ps = some (qs, R, C) → AllEq C → PurL (St.of S M).mem ps qs R
 | [], _, _, _, h, _ => by cases h; exact .nil
 | p :: ps, qs, R, C, h, hC => by
  unfold purL at h
  split at h
  ·rename_i heq; cases heq
  ·rename_i cs ps0 heq
   cases heq
   split at h <;> try cases h
   rename_i q R1 C1 h1
   split at h <;> cases h
   rename_i qs' R2 C2 h2
   exact .agg _ _ _ _ _ _ (purC_spec h1 hC.app.1) (purL_spec h2 hC.app.2)
  ·rename_i p0 ps0 _ heq
   cases heq
   split at h <;> try cases h
   rename_i q R1 C1 h1
   split at h <;> cases h
   rename_i qs' R2 C2 h2
   exact purO_spec h1 hC.app.1 (purL_spec h2 hC.app.2)

def takeK : Nat → List PV → (List PV → Option PV) → Option PV
 | 0, _, k => k []
 | n + 1, c :: cs, k => takeK n cs fun r => k (c :: r)
 | _ + 1, [], _ => none
def dropK : Nat → List PV → (List PV → Option PV) → Option PV
 | 0, cs, k => k cs
 | n + 1, _ :: cs, k => dropK n cs k
 | _ + 1, [], _ => none
def loadK (g : Bool) (n off : Nat) (cs : List PV) : Option PV :=
 bif g then dropK off cs fun cs' => takeK n cs' fun r => some (.agg r) else dropK off cs fun cs' => match cs' with | c :: _ => some c | [] => none
theorem takeK_spec : ∀ (n : Nat) (cs : List PV) (k : List PV → Option PV) (v : PV), takeK n cs k = some v → n ≤ cs.length ∧ k (cs.take n) = some v
 | 0, cs, k, v, h => ⟨Nat.zero_le _, by simpa [takeK] using h⟩
 | n + 1, [], k, v, h => by cases h
 | n + 1, c :: cs, k, v, h => by
  obtain ⟨h1, h2⟩ := takeK_spec n cs _ v h
  exact ⟨by simp; omega, by simpa using h2⟩
theorem dropK_spec : ∀ (n : Nat) (cs : List PV) (k : List PV → Option PV) (v : PV), dropK n cs k = some v → n ≤ cs.length ∧ k (cs.drop n) = some v
 | 0, cs, k, v, h => ⟨Nat.zero_le _, by simpa [dropK] using h⟩
 | n + 1, [], k, v, h => by cases h
 | n + 1, c :: cs, k, v, h => by
  obtain ⟨h1, h2⟩ := dropK_spec n cs _ v h
  exact ⟨by simp; omega, by simpa using h2⟩
theorem loadK_spec {g : Bool} {n off : Nat} {cs : List PV} {v : PV} (h : loadK g n off cs = some v) : loadPV g n off cs = some v := by
 unfold loadK at h
 unfold loadPV
 cases g with
 | true =>
  simp only [cond_true] at h
  obtain ⟨h1, h2⟩ := dropK_spec _ _ _ _ h
  obtain ⟨h3, h4⟩ := takeK_spec _ _ _ _ h2
  simp only [List.length_drop] at h3
  rw [if_pos rfl, if_pos (by omega)]; exact h4
 | false =>
  simp only [cond_false] at h
  obtain ⟨h1, h2⟩ := dropK_spec _ _ _ _ h
  simp only [Bool.false_eq_true, if_false]
  cases hd : cs.drop off with
  | nil => rw [hd] at h2; cases h2
  | cons c r =>
   rw [hd] at h2
   have : (cs.drop off)[0]? = some c := by rw [hd]; rfl
   rw [List.getElem?_drop] at this
   rw [Nat.add_zero] at this; rw [this]; exact h2

def spliceK : Nat → List PV → List PV → (List PV → Option (List PV)) → Option (List PV)
 | 0, cs, [], k => k cs
 | 0, _ :: cs, p :: ps, k => spliceK 0 cs ps fun r => k (p :: r)
 | n + 1, c :: cs, ps, k => spliceK n cs ps fun r => k (c :: r)
 | _, [], _, _ => none
theorem spliceK_spec : ∀ (n : Nat) (cs ps : List PV) (k : List PV → Option (List PV)) (v : List PV), spliceK n cs ps k = some v → n + ps.length ≤ cs.length ∧ k (cs.take n ++ ps ++ cs.drop (n + ps.length)) = some v
 | 0, cs, [], k, v, h => by
  have : spliceK 0 cs [] k = k cs := by cases cs <;> rfl
  rw [this] at h; simpa using h
 | 0, [], p :: ps, k, v, h => by cases h
 | 0, c :: cs, p :: ps, k, v, h => by
  obtain ⟨h1, h2⟩ := spliceK_spec 0 cs ps _ v h
  exact ⟨by simp at h1 ⊢; omega, by simpa using h2⟩
 | n + 1, [], ps, k, v, h => by cases ps <;> cases h
 | n + 1, c :: cs, ps, k, v, h => by
  have e : spliceK (n + 1) (c :: cs) ps k = spliceK n cs ps fun r => k (c :: r) := by cases ps <;> rfl
  rw [e] at h
  obtain ⟨h1, h2⟩ := spliceK_spec n cs ps _ v h
  exact ⟨by simp at h1 ⊢; omega, by rw [show n + 1 + ps.length = n + ps.length + 1 by omega]; simpa using h2⟩

def curO (M : List (Nat × PV)) : PV → Option (List Nat × List (Nat × Nat))
 | .lit _ => some ([], [])
 | .err _ => some ([], [])
 | .nils => some ([], [])
 | .slice _ => some ([], [])
 | .fn _ _ => some ([], [])
 | .cptr _ _ => some ([], [])
 | .agg _ => some ([], [])
 | .lptr _ _ => some ([], [])
 | .own n k => match look M n with
  | some (.obj _ _ _ l) => some ([n], [(k, l.length)])
  | _ => none
 | _ => none
theorem curO_spec {S M : List (Nat × PV)} {p : PV} {R : List Nat} {C : List (Nat × Nat)} (h : curO M p = some (R, C)) (hC : AllEq C) : Cur (St.of S M).mem p ∧ ∀ j k, p = .own j k → j ∈ R := by
 unfold curO at h
 split at h <;> try (cases h; exact ⟨.plain _ rfl, fun j k e => by cases e⟩)
 ·cases h; exact ⟨.agg _, fun j k e => by cases e⟩
 ·cases h; exact ⟨.lptr _ _, fun j k e => by cases e⟩
 ·split at h <;> cases h
  rename_i hm
  exact ⟨.own _ _ _ _ _ _ (look_mem hm) hC.1, fun j k e => by cases e; simp⟩
 ·cases h
end Go.Px
namespace Go.Px
set_option linter.unusedSimpArgs false
set_option linter.unusedVariables false
open Go.RowKit

section
variable {P : Program} {N : Nat} {all : Array Oper} {F : Nat → Foot} {i : Nat} {rest : List Oper} {S M : List (Nat × PV)} {K : St → Prop} {d : Nat} {ty : TypeId} {pos : String} {after : Array Edge}

theorem X.ofOp {op : Op} {v : PV} {U : List (Nat × PV)} {R : List Nat} (ha : AOp P (St.of S M).ev (St.of S M).mem d op v U R) (hd : Nat.ble (d + 1) N = true) (hF : (F i).okB R (U.map (·.1)) = true) (h : SLx P N all F (i + 1) rest (St.of ((d, v) :: S) (U.reverse ++ M)) K) :
  SLx P N all F i (⟨some d, op, ty, pos, after, none⟩ :: rest) (St.of S M) K := by
 refine ⟨_, .op _ d op ty pos after none v U R (fun g want e => by cases e) ha (Nat.le_of_ble_eq_true hd) (okB_spec hF), ?_⟩
 rw [slot_of, upds_of S U M]
 exact h
theorem X.ofOp0 {op : Op} {v : PV} {U : List (Nat × PV)} {R : List Nat} (ha : AOp P (St.of S M).ev (St.of S M).mem 0 op v U R) (hF : (F i).okB R (U.map (·.1)) = true) (h : SLx P N all F (i + 1) rest (St.of S (U.reverse ++ M)) K) :
  SLx P N all F i (⟨none, op, ty, pos, after, none⟩ :: rest) (St.of S M) K := by
 refine ⟨_, .op0 _ op ty pos after none v U R (fun g want e => by cases e) ha (okB_spec hF), ?_⟩
 rw [upds_of S U M]
 exact h
theorem spliceK_eq {off sz : Nat} {cs ps cs' : List PV} (h : spliceK off cs ps some = some cs') (hl : ps.length = sz) : off + sz ≤ cs.length ∧ cs' = cs.take off ++ ps ++ cs.drop (off + sz) := by
 subst hl
 obtain ⟨h1, h2⟩ := spliceK_spec _ _ _ _ _ h
 exact ⟨h1, (Option.some.inj h2).symm⟩
theorem okB_nil (F : Foot) : F.okB [] [] = true := by cases F <;> rfl

theorem X.move {x : Operand} {v : PV} (hv : evO S x = some v := by rfl) (hd : Nat.ble (d + 1) N = true := by rfl) (h : SLx P N all F (i + 1) rest (St.of ((d, v) :: S) M) K) :
  SLx P N all F i (⟨some d, .move x, ty, pos, after, none⟩ :: rest) (St.of S M) K :=
 X.ofOp (v := v) (U := []) (R := []) (.move x v (evO_spec hv)) hd (okB_nil _) h
theorem X.assign {x : Operand} {v : PV} (hv : evO S x = some v := by rfl) (hd : Nat.ble (d + 1) N = true := by rfl) (h : SLx P N all F (i + 1) rest (St.of ((d, v) :: S) M) K) :
  SLx P N all F i (⟨some d, .assign x, ty, pos, after, none⟩ :: rest) (St.of S M) K :=
 X.ofOp (v := v) (U := []) (R := []) (.assign x v (evO_spec hv)) hd (okB_nil _) h
theorem X.pickT {c x y : Operand} {b : Bool} {v : PV} (hc : evO S c = some (.lit (.bool b)) := by rfl) (hb : b = true := by first | rfl | assumption) (hv : evO S x = some v := by rfl) (hd : Nat.ble (d + 1) N = true := by rfl) (h : SLx P N all F (i + 1) rest (St.of ((d, v) :: S) M) K) :
  SLx P N all F i (⟨some d, .pick c x y, ty, pos, after, none⟩ :: rest) (St.of S M) K :=
 X.ofOp (v := v) (U := []) (R := []) (.pick c x y b v (evO_spec hc) (by rw [hb]; exact evO_spec hv)) hd (okB_nil _) h
theorem X.pickF {c x y : Operand} {b : Bool} {v : PV} (hc : evO S c = some (.lit (.bool b)) := by rfl) (hb : b = false := by first | rfl | assumption) (hv : evO S y = some v := by rfl) (hd : Nat.ble (d + 1) N = true := by rfl) (h : SLx P N all F (i + 1) rest (St.of ((d, v) :: S) M) K) :
  SLx P N all F i (⟨some d, .pick c x y, ty, pos, after, none⟩ :: rest) (St.of S M) K :=
 X.ofOp (v := v) (U := []) (R := []) (.pick c x y b v (evO_spec hc) (by rw [hb]; exact evO_spec hv)) hd (okB_nil _) h
theorem X.bin {op : BinOp} {t t' : TypeId} {x y : Operand} {p q v : PV} (hx : evO S x = some p := by rfl) (hy : evO S y = some q := by rfl) (hk : sameKind p q = true := by rfl) (hv : binPV op p q = some v := by rfl) (hs : op ≠ .add := by (intro h; cases h)) (hd : Nat.ble (d + 1) N = true := by rfl) (h : SLx P N all F (i + 1) rest (St.of ((d, v) :: S) M) K) :
  SLx P N all F i (⟨some d, .binOp op t x y t', ty, pos, after, none⟩ :: rest) (St.of S M) K :=
 X.ofOp (v := v) (U := []) (R := []) (.bin op t t' x y p q v (evO_spec hx) (evO_spec hy) hk hv (fun _ _ _ _ e => absurd e hs)) hd (okB_nil _) h
theorem X.add {t t' : TypeId} {x y : Operand} {a b : Int} (hx : evO S x = some (.lit (.int .i64 a)) := by rfl) (hy : evO S y = some (.lit (.int .i64 b)) := by rfl) (hr : -9223372036854775808 ≤ a + b ∧ a + b ≤ 9223372036854775807 := by omega) (hd : Nat.ble (d + 1) N = true := by rfl) (h : SLx P N all F (i + 1) rest (St.of ((d, .lit (.int .i64 (a + b))) :: S) M) K) :
  SLx P N all F i (⟨some d, .binOp .add t x y t', ty, pos, after, none⟩ :: rest) (St.of S M) K :=
 X.ofOp (v := .lit (.int .i64 (a + b))) (U := []) (R := []) (.bin .add t t' x y _ _ _ (evO_spec hx) (evO_spec hy) rfl (by simp only [binPV]; rw [show IntKind.i64.wrap (a + b) = a + b from by rw [IntKind.wrap_i64]; omega]) (fun _ _ e => by cases e)) hd (okB_nil _) h
theorem X.addW {t t' : TypeId} {x y : Operand} {a b : Int} (hx : evO S x = some (.lit (.int .i64 a)) := by rfl) (hy : evO S y = some (.lit (.int .i64 b)) := by rfl) (hd : Nat.ble (d + 1) N = true := by rfl) (h : SLx P N all F (i + 1) rest (St.of ((d, .lit (.int .i64 (IntKind.i64.wrap (a + b)))) :: S) M) K) :
  SLx P N all F i (⟨some d, .binOp .add t x y t', ty, pos, after, none⟩ :: rest) (St.of S M) K :=
 X.ofOp (v := .lit (.int .i64 (IntKind.i64.wrap (a + b)))) (U := []) (R := []) (.bin .add t t' x y _ _ _ (evO_spec hx) (evO_spec hy) rfl rfl (fun _ _ e => by cases e)) hd (okB_nil _) h
theorem X.sub {t t' : TypeId} {x y : Operand} {a b : Int} (hx : evO S x = some (.lit (.int .i64 a)) := by rfl) (hy : evO S y = some (.lit (.int .i64 b)) := by rfl) (hr : -9223372036854775808 ≤ a - b ∧ a - b ≤ 9223372036854775807 := by omega) (hd : Nat.ble (d + 1) N = true := by rfl) (h : SLx P N all F (i + 1) rest (St.of ((d, .lit (.int .i64 (a - b))) :: S) M) K) :
  SLx P N all F i (⟨some d, .binOp .sub t x y t', ty, pos, after, none⟩ :: rest) (St.of S M) K :=
 X.ofOp (v := .lit (.int .i64 (a - b))) (U := []) (R := []) (.bin .sub t t' x y _ _ _ (evO_spec hx) (evO_spec hy) rfl (by simp only [binPV]; rw [show IntKind.i64.wrap (a - b) = a - b from by rw [IntKind.wrap_i64]; omega]) (fun _ _ e => by cases e)) hd (okB_nil _) h
theorem X.subW {t t' : TypeId} {x y : Operand} {a b : Int} (hx : evO S x = some (.lit (.int .i64 a)) := by rfl) (hy : evO S y = some (.lit (.int .i64 b)) := by rfl) (hd : Nat.ble (d + 1) N = true := by rfl) (h : SLx P N all F (i + 1) rest (St.of ((d, .lit (.int .i64 (IntKind.i64.wrap (a - b)))) :: S) M) K) :
  SLx P N all F i (⟨some d, .binOp .sub t x y t', ty, pos, after, none⟩ :: rest) (St.of S M) K :=
 X.ofOp (v := .lit (.int .i64 (IntKind.i64.wrap (a - b)))) (U := []) (R := []) (.bin .sub t t' x y _ _ _ (evO_spec hx) (evO_spec hy) rfl rfl (fun _ _ e => by cases e)) hd (okB_nil _) h
theorem X.mul {t t' : TypeId} {x y : Operand} {a b : Int} (hx : evO S x = some (.lit (.int .i64 a)) := by rfl) (hy : evO S y = some (.lit (.int .i64 b)) := by rfl) (hr : -9223372036854775808 ≤ a * b ∧ a * b ≤ 9223372036854775807 := by omega) (hd : Nat.ble (d + 1) N = true := by rfl) (h : SLx P N all F (i + 1) rest (St.of ((d, .lit (.int .i64 (a * b))) :: S) M) K) :
  SLx P N all F i (⟨some d, .binOp .mul t x y t', ty, pos, after, none⟩ :: rest) (St.of S M) K :=
 X.ofOp (v := .lit (.int .i64 (a * b))) (U := []) (R := []) (.bin .mul t t' x y _ _ _ (evO_spec hx) (evO_spec hy) rfl (by simp only [binPV]; rw [show IntKind.i64.wrap (a * b) = a * b from by rw [IntKind.wrap_i64]; omega]) (fun _ _ e => by cases e)) hd (okB_nil _) h
theorem X.mulW {t t' : TypeId} {x y : Operand} {a b : Int} (hx : evO S x = some (.lit (.int .i64 a)) := by rfl) (hy : evO S y = some (.lit (.int .i64 b)) := by rfl) (hd : Nat.ble (d + 1) N = true := by rfl) (h : SLx P N all F (i + 1) rest (St.of ((d, .lit (.int .i64 (IntKind.i64.wrap (a * b)))) :: S) M) K) :
  SLx P N all F i (⟨some d, .binOp .mul t x y t', ty, pos, after, none⟩ :: rest) (St.of S M) K :=
 X.ofOp (v := .lit (.int .i64 (IntKind.i64.wrap (a * b)))) (U := []) (R := []) (.bin .mul t t' x y _ _ _ (evO_spec hx) (evO_spec hy) rfl rfl (fun _ _ e => by cases e)) hd (okB_nil _) h
theorem X.neqErr {t t' : TypeId} {x : Operand} {ms : Array (String × TypeId)} (ht : P.underlying t = some (.interface ms)) {b : Bool} (hx : evO S x = some (.err b) := by rfl) (hd : Nat.ble (d + 1) N = true := by rfl) (h : SLx P N all F (i + 1) rest (St.of ((d, .lit (.bool b)) :: S) M) K) :
  SLx P N all F i (⟨some d, .binOp .neq t x (.const .nilIface) t', ty, pos, after, none⟩ :: rest) (St.of S M) K :=
 X.ofOp (v := .lit (.bool b)) (U := []) (R := []) (.neqErr t t' x ms ht (evO_spec hx)) hd (okB_nil _) h
theorem X.neqNil {t t' : TypeId} {x : Operand} {ms : Array (String × TypeId)} (ht : P.underlying t = some (.interface ms)) (hx : evO S x = some (.lit .nilIface) := by rfl) (hd : Nat.ble (d + 1) N = true := by rfl) (h : SLx P N all F (i + 1) rest (St.of ((d, .lit (.bool false)) :: S) M) K) :
  SLx P N all F i (⟨some d, .binOp .neq t x (.const .nilIface) t', ty, pos, after, none⟩ :: rest) (St.of S M) K :=
 X.ofOp (v := .lit (.bool false)) (U := []) (R := []) (.neqNil t t' x ms ht (evO_spec hx)) hd (okB_nil _) h
theorem X.un {op : UnOp} {t : TypeId} {x : Operand} {p v : PV} (hx : evO S x = some p := by rfl) (hv : unPV op p = some v := by rfl) (hd : Nat.ble (d + 1) N = true := by rfl) (h : SLx P N all F (i + 1) rest (St.of ((d, v) :: S) M) K) :
  SLx P N all F i (⟨some d, .unOp op t x, ty, pos, after, none⟩ :: rest) (St.of S M) K :=
 X.ofOp (v := v) (U := []) (R := []) (.un op t x p v (evO_spec hx) hv) hd (okB_nil _) h
theorem X.conv {t t' : TypeId} {x : Operand} {k k' : IntKind} {n : Int} (ht : P.underlying t' = some (.int k')) (hs : (P.underlying t).isSome = true) (hx : evO S x = some (.lit (.int k n)) := by rfl) (hd : Nat.ble (d + 1) N = true := by rfl) (h : SLx P N all F (i + 1) rest (St.of ((d, .lit (.int k' (k'.wrap n))) :: S) M) K) :
  SLx P N all F i (⟨some d, .convert t t' x, ty, pos, after, none⟩ :: rest) (St.of S M) K :=
 X.ofOp (v := .lit (.int k' (k'.wrap n))) (U := []) (R := []) (.conv t t' x k k' n ht hs (evO_spec hx)) hd (okB_nil _) h
theorem X.load_l {t : TypeId} {x : Operand} {n off : Nat} {y : Bool} {cs : List PV} {v : PV} {g : Bool} {sz : Nat} (ht : shp P t = some (g, sz)) (hg : (g || Nat.beq sz 1) = true := by rfl) (hx : evO S x = some (.lptr n off) := by rfl) (hm : look M n = some (.blk y cs) := by rfl) (hv : loadK g sz off cs = some v := by rfl) (hd : Nat.ble (d + 1) N = true := by rfl) (hF : (F i).okB [n] [] = true := by rfl) (h : SLx P N all F (i + 1) rest (St.of ((d, v) :: S) M) K) :
  SLx P N all F i (⟨some d, .load t x, ty, pos, after, none⟩ :: rest) (St.of S M) K :=
 X.ofOp (v := v) (U := []) (R := [n]) (.load_l t x g sz n off y cs v ht (by cases g <;> simp_all) (evO_spec hx) (look_mem hm) (loadK_spec hv)) hd hF h
theorem X.load_c {t : TypeId} {x : Operand} {off : Nat} {cs : List PV} {v : PV} {g : Bool} {sz : Nat} (ht : shp P t = some (g, sz)) (hg : (g || Nat.beq sz 1) = true := by rfl) (hx : evO S x = some (.cptr cs off) := by rfl) (hv : loadK g sz off cs = some v := by rfl) (hd : Nat.ble (d + 1) N = true := by rfl) (h : SLx P N all F (i + 1) rest (St.of ((d, v) :: S) M) K) :
  SLx P N all F i (⟨some d, .load t x, ty, pos, after, none⟩ :: rest) (St.of S M) K :=
 X.ofOp (v := v) (U := []) (R := []) (.load_c t x g sz off cs v ht (by cases g <;> simp_all) (evO_spec hx) (loadK_spec hv)) hd (okB_nil _) h
theorem X.load_e {t : TypeId} {x : Operand} {n k j off : Nat} {y : Bool} {e sz' : Nat} {l : List PV} {el v : PV} {g : Bool} {sz : Nat} (ht : shp P t = some (g, sz)) (hg : (g || Nat.beq sz 1) = true := by rfl) (hx : evO S x = some (.eptr n k j off) := by rfl) (hm : look M n = some (.obj y e sz' l) := by rfl) (hk : k = l.length) (hi : l[j]? = some el) (hv : loadK g sz off el.cells = some v := by rfl) (hd : Nat.ble (d + 1) N = true := by rfl) (hF : (F i).okB [n] [] = true := by rfl) (h : SLx P N all F (i + 1) rest (St.of ((d, v) :: S) M) K) :
  SLx P N all F i (⟨some d, .load t x, ty, pos, after, none⟩ :: rest) (St.of S M) K :=
 X.ofOp (v := v) (U := []) (R := [n]) (.load_e t x g sz n k j off y e sz' l el v ht (by cases g <;> simp_all) (evO_spec hx) (look_mem hm) hk hi (loadK_spec hv)) hd hF h
theorem X.store_l {t : TypeId} {x y : Operand} {n off : Nat} {cs cs' : List PV} {p : PV} {R : List Nat} {C : List (Nat × Nat)} {g : Bool} {sz : Nat} (ht : shp P t = some (g, sz)) (hx : evO S x = some (.lptr n off) := by rfl) (hm : look M n = some (.blk true cs) := by rfl) (hy : evO S y = some p := by rfl) (hp : curO M p = some (R, C) := by rfl) (hC : AllEq C := by repeat (first | exact trivial | refine ⟨rfl, ?_⟩)) (hl : p.cells.length = sz := by rfl) (hc : spliceK off cs p.cells some = some cs' := by rfl) (hF : (F i).okB (n :: R) [n] = true := by rfl) (h : SLx P N all F (i + 1) rest (St.of S ((n, .blk true cs') :: M)) K) :
  SLx P N all F i (⟨none, .store t x y, ty, pos, after, none⟩ :: rest) (St.of S M) K :=
 X.ofOp0 (v := .undef) (U := [(n, .blk true cs')]) (R := (n :: R)) (by obtain ⟨h1, e⟩ := spliceK_eq hc hl; subst e; exact .store_l t x y g sz n off cs p ht (evO_spec hx) (look_mem hm) (evO_spec hy) (curO_spec hp hC).1 hl h1 R (curO_spec (S := S) hp hC).2) hF h
theorem X.store_e {t : TypeId} {x y : Operand} {n k j off e sz' : Nat} {l : List PV} {el p p' : PV} {R : List Nat} {C : List (Nat × Nat)} {g : Bool} {sz : Nat} (ht : shp P t = some (g, sz)) (hx : evO S x = some (.eptr n k j off) := by rfl) (hm : look M n = some (.obj true e sz' l) := by rfl) (hk : k = l.length) (hi : l[j]? = some el) (hy : evO S y = some p := by rfl) (hp : purL M [p] = some ([p'], R, C) := by rfl) (hC : AllEq C := by repeat (first | exact trivial | refine ⟨rfl, ?_⟩)) (h0 : Nat.ble 1 sz = true := by rfl) (hl : p'.cells.length = sz := by rfl) (hfit : Nat.ble (off + sz) sz' = true := by rfl) (hF : (F i).okB (n :: R) [n] = true := by rfl) (h : SLx P N all F (i + 1) rest (St.of S ((n, .obj true e sz' (l.set j (setEl el off p'))) :: M)) K) :
  SLx P N all F i (⟨none, .store t x y, ty, pos, after, none⟩ :: rest) (St.of S M) K :=
 X.ofOp0 (v := .undef) (U := [(n, .obj true e sz' (l.set j (setEl el off p')))]) (R := (n :: R)) (.store_e t x y g sz n k j off e sz' l el p p' R ht (Nat.le_of_ble_eq_true h0) (evO_spec hx) (look_mem hm) hk hi (evO_spec hy) (purL_spec hp hC) hl (Nat.le_of_ble_eq_true hfit)) hF h
theorem X.nilChk {x : Operand} {v : PV} (hx : evO S x = some v := by rfl) (hp : isPtr v = true := by rfl) (hd : Nat.ble (d + 1) N = true := by rfl) (h : SLx P N all F (i + 1) rest (St.of ((d, v) :: S) M) K) :
  SLx P N all F i (⟨some d, .nilCheck x, ty, pos, after, none⟩ :: rest) (St.of S M) K :=
 X.ofOp (v := v) (U := []) (R := []) (.nilChk x v (evO_spec hx) hp) hd (okB_nil _) h
theorem X.alloc {t : TypeId} {z : List PV} (hz : zeroPV P t = some z) (hm : look M (64 * d) = none := by rfl) (hd : Nat.ble (d + 1) N = true := by rfl) (hF : (F i).okB [64 * d] [64 * d] = true := by rfl) (h : SLx P N all F (i + 1) rest (St.of ((d, .lptr (64 * d) 0) :: S) ((64 * d, .blk true z) :: M)) K) :
  SLx P N all F i (⟨some d, .alloc t, ty, pos, after, none⟩ :: rest) (St.of S M) K :=
 X.ofOp (v := .lptr (64 * d) 0) (U := [(64 * d, .blk true z)]) (R := [64 * d]) (.alloc t z hz (look_none hm)) hd hF h
theorem X.box {t : TypeId} {x : Operand} {p : PV} {R : List Nat} {C : List (Nat × Nat)} (hx : evO S x = some p := by rfl) (hp : curO M p = some (R, C) := by rfl) (hC : AllEq C := by repeat (first | exact trivial | refine ⟨rfl, ?_⟩)) (hm : look M (64 * d) = none := by rfl) {cs : List PV} (hcs : some p.cells = some cs := by rfl) (hd : Nat.ble (d + 1) N = true := by rfl) (hF : (F i).okB (64 * d :: R) [64 * d] = true := by rfl) (h : SLx P N all F (i + 1) rest (St.of ((d, .lptr (64 * d) 0) :: S) ((64 * d, .blk true cs) :: M)) K) :
  SLx P N all F i (⟨some d, .box t x, ty, pos, after, none⟩ :: rest) (St.of S M) K :=
 X.ofOp (v := .lptr (64 * d) 0) (U := [(64 * d, .blk true cs)]) (R := (64 * d :: R)) (by cases hcs; exact .box t x p R (evO_spec hx) (curO_spec hp hC).1 (look_none hm) (curO_spec (S := S) hp hC).2) hd hF h
theorem X.fieldAddr_l {t : TypeId} {x : Operand} {f n off o' : Nat} (ht : fldOff P t f = some o') (hx : evO S x = some (.lptr n off) := by rfl) (hd : Nat.ble (d + 1) N = true := by rfl) (h : SLx P N all F (i + 1) rest (St.of ((d, .lptr n (off + o')) :: S) M) K) :
  SLx P N all F i (⟨some d, .fieldAddr t x f, ty, pos, after, none⟩ :: rest) (St.of S M) K :=
 X.ofOp (v := .lptr n (off + o')) (U := []) (R := []) (.fieldAddr_l t x f n off o' ht (evO_spec hx)) hd (okB_nil _) h
theorem X.fieldAddr_c {t : TypeId} {x : Operand} {f off o' : Nat} {cs : List PV} (ht : fldOff P t f = some o') (hx : evO S x = some (.cptr cs off) := by rfl) (hd : Nat.ble (d + 1) N = true := by rfl) (h : SLx P N all F (i + 1) rest (St.of ((d, .cptr cs (off + o')) :: S) M) K) :
  SLx P N all F i (⟨some d, .fieldAddr t x f, ty, pos, after, none⟩ :: rest) (St.of S M) K :=
 X.ofOp (v := .cptr cs (off + o')) (U := []) (R := []) (.fieldAddr_c t x f off o' cs ht (evO_spec hx)) hd (okB_nil _) h
theorem X.fieldAddr_e {t : TypeId} {x : Operand} {f n k j off o' : Nat} {y : Bool} {e sz : Nat} {l : List PV} (ht : fldOff P t f = some o') (hx : evO S x = some (.eptr n k j off) := by rfl) (hm : look M n = some (.obj y e sz l) := by rfl) (hk : k = l.length) (hd : Nat.ble (d + 1) N = true := by rfl) (hF : (F i).okB [n] [] = true := by rfl) (h : SLx P N all F (i + 1) rest (St.of ((d, .eptr n k j (off + o')) :: S) M) K) :
  SLx P N all F i (⟨some d, .fieldAddr t x f, ty, pos, after, none⟩ :: rest) (St.of S M) K :=
 X.ofOp (v := .eptr n k j (off + o')) (U := []) (R := [n]) (.fieldAddr_e t x f n k j off o' y e sz l ht (evO_spec hx) (look_mem hm) hk) hd hF h
theorem X.index_s {t : TypeId} {x y : Operand} {e sz by' : Nat} {l : List PV} {k : IntKind} {j : Int} {el : PV} {cs : List PV} (ht : eltOf P t = some (e, sz, by')) (hx : evO S x = some (.slice l) := by rfl) (hy : evO S y = some (.lit (.int k j)) := by rfl) (h0 : 0 ≤ j) (hi : l[j.toNat]? = some el) (hcs : el.cells = cs) (hsz : cs.length = sz) (hd : Nat.ble (d + 1) N = true := by rfl) (h : SLx P N all F (i + 1) rest (St.of ((d, .cptr cs 0) :: S) M) K) :
  SLx P N all F i (⟨some d, .indexAddr t x y, ty, pos, after, none⟩ :: rest) (St.of S M) K :=
 X.ofOp (v := .cptr cs 0) (U := []) (R := []) (by subst hcs; exact .indexAddr_s t x y e sz by' l k j el ht (evO_spec hx) (evO_spec hy) h0 hi hsz) hd (okB_nil _) h
theorem X.index_o {t : TypeId} {x y : Operand} {e sz by' n k' : Nat} {l : List PV} {k : IntKind} {j : Int} {el : PV} {cs : List PV} (ht : eltOf P t = some (e, sz, by')) (hx : evO S x = some (.own n k') := by rfl) (hm : look M n = some (.obj false e sz l) := by rfl) (hk : k' = l.length) (hy : evO S y = some (.lit (.int k j)) := by rfl) (h0 : 0 ≤ j) (hi : l[j.toNat]? = some el) (hcs : el.cells = cs) (hd : Nat.ble (d + 1) N = true := by rfl) (hF : (F i).okB [n] [] = true := by rfl) (h : SLx P N all F (i + 1) rest (St.of ((d, .cptr cs 0) :: S) M) K) :
  SLx P N all F i (⟨some d, .indexAddr t x y, ty, pos, after, none⟩ :: rest) (St.of S M) K :=
 X.ofOp (v := .cptr cs 0) (U := []) (R := [n]) (by subst hcs; exact .indexAddr_o t x y e sz by' n k' l k j el ht (evO_spec hx) (look_mem hm) hk (evO_spec hy) h0 hi) hd hF h
theorem X.indexStr {t : TypeId} {x y : Operand} {b : ByteArray} {k : IntKind} {j : Int} {u : UInt8} (ht : P.underlying t = some .string) (hx : evO S x = some (.lit (.string b)) := by rfl) (hy : evO S y = some (.lit (.int k j)) := by rfl) (h0 : 0 ≤ j) (hi : b[j.toNat]? = some u) (hd : Nat.ble (d + 1) N = true := by rfl) (h : SLx P N all F (i + 1) rest (St.of ((d, .lit (.int .u8 u.toNat)) :: S) M) K) :
  SLx P N all F i (⟨some d, .index t x y, ty, pos, after, none⟩ :: rest) (St.of S M) K :=
 X.ofOp (v := .lit (.int .u8 u.toNat)) (U := []) (R := []) (.indexStr t x y b k j u ht (evO_spec hx) (evO_spec hy) h0 hi) hd (okB_nil _) h
theorem X.extract {x : Operand} {j : Nat} {vs : List PV} {v : PV} (hx : evO S x = some (.tuple vs) := by rfl) (hv : vs[j]? = some v := by rfl) (hd : Nat.ble (d + 1) N = true := by rfl) (h : SLx P N all F (i + 1) rest (St.of ((d, v) :: S) M) K) :
  SLx P N all F i (⟨some d, .extract x j, ty, pos, after, none⟩ :: rest) (St.of S M) K :=
 X.ofOp (v := v) (U := []) (R := []) (.extract x j vs v (evO_spec hx) hv) hd (okB_nil _) h
theorem X.lenStr {t : TypeId} {x : Operand} {b : ByteArray} (ht : P.underlying t = some .string) (hx : evO S x = some (.lit (.string b)) := by rfl) (hd : Nat.ble (d + 1) N = true := by rfl) (h : SLx P N all F (i + 1) rest (St.of ((d, .lit (.int .i64 b.size)) :: S) M) K) :
  SLx P N all F i (⟨some d, .call { callee := .builtin .len, args := #[x], argTypes := #[t] }, ty, pos, after, none⟩ :: rest) (St.of S M) K :=
 X.ofOp (v := .lit (.int .i64 b.size)) (U := []) (R := []) (.lenStr t x b ht (evO_spec hx)) hd (okB_nil _) h
theorem X.len_s {t : TypeId} {x : Operand} {e sz by' : Nat} {l : List PV} (ht : eltOf P t = some (e, sz, by')) (hx : evO S x = some (.slice l) := by rfl) {n : Nat} (hn : l.length = n) (hd : Nat.ble (d + 1) N = true := by rfl) (h : SLx P N all F (i + 1) rest (St.of ((d, .lit (.int .i64 n)) :: S) M) K) :
  SLx P N all F i (⟨some d, .call { callee := .builtin .len, args := #[x], argTypes := #[t] }, ty, pos, after, none⟩ :: rest) (St.of S M) K :=
 X.ofOp (v := .lit (.int .i64 n)) (U := []) (R := []) (by subst hn; exact .lenLst t x _ l [] e sz by' ht (evO_spec hx) (.pure l)) hd (okB_nil _) h
theorem X.len_o {t : TypeId} {x : Operand} {e sz by' n k : Nat} {y : Bool} {e' sz' : Nat} {l : List PV} (ht : eltOf P t = some (e, sz, by')) (hx : evO S x = some (.own n k) := by rfl) (hm : look M n = some (.obj y e' sz' l) := by rfl) (hk : k = l.length) {m : Nat} (hn : l.length = m) (hd : Nat.ble (d + 1) N = true := by rfl) (hF : (F i).okB [n] [] = true := by rfl) (h : SLx P N all F (i + 1) rest (St.of ((d, .lit (.int .i64 m)) :: S) M) K) :
  SLx P N all F i (⟨some d, .call { callee := .builtin .len, args := #[x], argTypes := #[t] }, ty, pos, after, none⟩ :: rest) (St.of S M) K :=
 X.ofOp (v := .lit (.int .i64 m)) (U := []) (R := [n]) (by subst hn; exact .lenLst t x _ l [n] e sz by' ht (evO_spec hx) (.own n k y e' sz' l (look_mem hm) hk)) hd hF h
theorem X.max2 {t t' : TypeId} {x y : Operand} {k : IntKind} {a b : Int} (hx : evO S x = some (.lit (.int k a)) := by rfl) (hy : evO S y = some (.lit (.int k b)) := by rfl) (hd : Nat.ble (d + 1) N = true := by rfl) (h : SLx P N all F (i + 1) rest (St.of ((d, .lit (.int k (max a b))) :: S) M) K) :
  SLx P N all F i (⟨some d, .call { callee := .builtin .max, args := #[x, y], argTypes := #[t, t'] }, ty, pos, after, none⟩ :: rest) (St.of S M) K :=
 X.ofOp (v := .lit (.int k (max a b))) (U := []) (R := []) (.max2 t t' x y k a b (evO_spec hx) (evO_spec hy)) hd (okB_nil _) h
theorem X.min2 {t t' : TypeId} {x y : Operand} {k : IntKind} {a b : Int} (hx : evO S x = some (.lit (.int k a)) := by rfl) (hy : evO S y = some (.lit (.int k b)) := by rfl) (hd : Nat.ble (d + 1) N = true := by rfl) (h : SLx P N all F (i + 1) rest (St.of ((d, .lit (.int k (min a b))) :: S) M) K) :
  SLx P N all F i (⟨some d, .call { callee := .builtin .min, args := #[x, y], argTypes := #[t, t'] }, ty, pos, after, none⟩ :: rest) (St.of S M) K :=
 X.ofOp (v := .lit (.int k (min a b))) (U := []) (R := []) (.min2 t t' x y k a b (evO_spec hx) (evO_spec hy)) hd (okB_nil _) h
theorem X.buildSlice {t len : Nat} {parts : Array (Nat × Operand)} {e sz by' : Nat} {z ps ps' : List PV} {R : List Nat} {C : List (Nat × Nat)} (y : Bool) (ht : eltOf P t = some (e, sz, by')) (hz : zeroPV P e = some z) (h0 : Nat.ble 1 sz = true := by rfl) (hlen : Nat.ble (len * sz) 65536 = true := by rfl) (hzl : z.length = sz := by rfl) (hidx : parts.toList.map (·.1) = List.range len := by rfl) (hps : evL S (parts.toList.map (·.2)) = some ps := by rfl) (hp : purL M ps = some (ps', R, C) := by rfl) (hC : AllEq C := by repeat (first | exact trivial | refine ⟨rfl, ?_⟩)) (hsz : ∀ p ∈ ps', p.cells.length = sz := by simp [PV.cells]) (hm : look M (64 * d) = none := by rfl) (hd : Nat.ble (d + 1) N = true := by rfl) (hF : (F i).okB (64 * d :: R) [64 * d] = true := by rfl) (h : SLx P N all F (i + 1) rest (St.of ((d, .own (64 * d) ps'.length) :: S) ((64 * d, .obj y e sz ps') :: M)) K) :
  SLx P N all F i (⟨some d, .buildSlice t len parts, ty, pos, after, none⟩ :: rest) (St.of S M) K :=
 X.ofOp (v := .own (64 * d) ps'.length) (U := [(64 * d, .obj y e sz ps')]) (R := (64 * d :: R)) (.buildSlice y t len parts e sz by' ps ps' R ht (Nat.le_of_ble_eq_true h0) (Nat.le_of_ble_eq_true hlen) (by rw [hz]; rfl) (fun z' e => by rw [hz] at e; cases e; exact hzl) hidx (by have := evL_spec (M := M) hps; rw [List.map_map] at this; exact this) (purL_spec hp hC) hsz (look_none hm)) hd hF h
theorem X.append {t : TypeId} {x y : Operand} {n k : Nat} {b : Bool} {e sz by' : Nat} {l lb : List PV} {z : List PV} {q : PV} {R : List Nat} (ht : eltOf P t = some (e, sz, by')) (hz : zeroPV P e = some z) (hx : evO S x = some (.own n k) := by rfl) (hm : look M n = some (.obj b e sz l) := by rfl) (hk : k = l.length) (hy : evO S y = some q := by rfl) (hq : Lst (St.of S M).mem q lb R) (hlb : ∀ e ∈ lb, e.cells.length = sz) (hn : l.length + lb.length ≤ 1099511627776) {l2 : List PV} (hl : l ++ lb = l2) (hzl : z.length = sz := by rfl) (hb : (Nat.ble by' 128 && !Nat.beq (n % 64) 63) = true := by rfl) (hd : Nat.ble (d + 1) N = true := by rfl) (hF : (F i).okB (n :: R) [n] = true := by rfl) (h : SLx P N all F (i + 1) rest (St.of ((d, .own n l2.length) :: S) ((n, .obj b e sz l2) :: M)) K) :
  SLx P N all F i (⟨some d, .call { callee := .builtin .append, args := #[x, y], argTypes := #[t, t] }, ty, pos, after, none⟩ :: rest) (St.of S M) K :=
 X.ofOp (v := .own n l2.length) (U := [(n, .obj b e sz l2)]) (R := (n :: R)) (by subst hl; rw [List.length_append]; exact .append t x y n k b e sz by' l lb z q R ht hz hzl (evO_spec hx) (look_mem hm) hk (evO_spec hy) hq hlb (Nat.le_of_ble_eq_true (Bool.and_eq_true_iff.1 hb).1) hn (fun e => by have := (Bool.and_eq_true_iff.1 hb).2; rw [e] at this; simp at this)) hd hF h
theorem X.appendNil {t : TypeId} {x y : Operand} {e sz by' : Nat} {lb : List PV} {z : List PV} {q : PV} {R : List Nat} (b : Bool) (ht : eltOf P t = some (e, sz, by')) (hz : zeroPV P e = some z) (hx : evO S x = some .nils := by rfl) (hy : evO S y = some q := by rfl) (hq : Lst (St.of S M).mem q lb R) (hlb : ∀ e ∈ lb, e.cells.length = sz) (hn : lb.length ≤ 1099511627776) (h0 : Nat.ble 1 sz = true := by rfl) (hzl : z.length = sz := by rfl) (hb : Nat.ble by' 128 = true := by rfl) (hm : look M (64 * d) = none := by rfl) (hd : Nat.ble (d + 1) N = true := by rfl) (hF : (F i).okB (64 * d :: R) [64 * d] = true := by rfl) (h : SLx P N all F (i + 1) rest (St.of ((d, .own (64 * d) lb.length) :: S) ((64 * d, .obj b e sz lb) :: M)) K) :
  SLx P N all F i (⟨some d, .call { callee := .builtin .append, args := #[x, y], argTypes := #[t, t] }, ty, pos, after, none⟩ :: rest) (St.of S M) K :=
 X.ofOp (v := .own (64 * d) lb.length) (U := [(64 * d, .obj b e sz lb)]) (R := (64 * d :: R)) (.appendNil b t x y e sz by' lb z q R ht (Nat.le_of_ble_eq_true h0) hz hzl (evO_spec hx) (evO_spec hy) hq hlb (Nat.le_of_ble_eq_true hb) hn (look_none hm)) hd hF h
theorem X.makeSlice {t : TypeId} {x y : Operand} {e sz by' : Nat} {z : List PV} {k k' : IntKind} {j : Int} {n : Nat} (el : PV) (ht : eltOf P t = some (e, sz, by')) (hz : zeroPV P e = some z) (hel : el.cells = z ∨ el.cells = z.map zc) (hx : evO S x = some (.lit (.int k j)) := by rfl) (hy : evO S y = some (.lit (.int k' j)) := by rfl) (hj : j = n) (hn : n ≤ 1099511627776) (hp : ∀ c ∈ z, c.plain = true := by simp [PV.plain]) (h0 : Nat.ble 1 sz = true := by rfl) (hzl : z.length = sz := by rfl) (hb : Nat.ble by' 128 = true := by rfl) (hm : look M (64 * d) = none := by rfl) (hd : Nat.ble (d + 1) N = true := by rfl) (hF : (F i).okB [64 * d] [64 * d] = true := by rfl) (h : SLx P N all F (i + 1) rest (St.of ((d, .own (64 * d) n) :: S) ((64 * d, .obj true e sz (List.replicate n el)) :: M)) K) :
  SLx P N all F i (⟨some d, .makeSlice t x y, ty, pos, after, none⟩ :: rest) (St.of S M) K :=
 X.ofOp (v := .own (64 * d) n) (U := [(64 * d, .obj true e sz (List.replicate n el))]) (R := [64 * d]) (by subst hj; have := AOp.makeSlice (P := P) (σ := (St.of S M).ev) (m := (St.of S M).mem) (d := d) t x y e sz by' z el k k' (n : Int) ht (Nat.le_of_ble_eq_true h0) hz hel hzl hp (evO_spec hx) (evO_spec hy) (by omega) (by omega) (Nat.le_of_ble_eq_true hb) (look_none hm); simpa using this) hd hF h
theorem X.makeFunc {f : FuncId} {caps : Array Operand} {ps ps' : List PV} {R : List Nat} {C : List (Nat × Nat)} (hps : evL S caps.toList = some ps := by rfl) (hp : purL M ps = some (ps', R, C) := by rfl) (hC : AllEq C := by repeat (first | exact trivial | refine ⟨rfl, ?_⟩)) (hd : Nat.ble (d + 1) N = true := by rfl) (hF : (F i).okB R [] = true := by rfl) (h : SLx P N all F (i + 1) rest (St.of ((d, .fn f ps') :: S) M) K) :
  SLx P N all F i (⟨some d, .makeFunc (.func f) #[] caps, ty, pos, after, none⟩ :: rest) (St.of S M) K :=
 X.ofOp (v := .fn f ps') (U := []) (R := R) (.makeFunc f caps ps ps' R (evL_spec hps) (purL_spec hp hC)) hd hF h

theorem X.call {fo : Operand} {args : Array Operand} {ats : Array TypeId} {f : FuncId} {caps ps ps' ps2 : List PV} {r p : PV} {R : List Nat} {C : List (Nat × Nat)} {U : List (Nat × PV)} {n' : Nat} (hf : evO S fo = some (.fn f caps)) (hps : evL S args.toList = some ps) (hp : purL M ps = some (ps', R, C)) (hC : AllEq C)
  (ha : ps' ++ caps = ps2) (hc : PC P f ps2 r) (hr : RecvL (64 * d) [r] [p] U n') (hU : ∀ q ∈ U, look M q.1 = none ∧ q.1 % 64 ≠ 63) (hd : Nat.ble (d + 1) N = true) (hF : (F i).okB R (U.map (·.1)) = true) (h : SLx P N all F (i + 1) rest (St.of ((d, p) :: S) (U.reverse ++ M)) K) :
  SLx P N all F i (⟨some d, .call { callee := .value fo, args := args, argTypes := ats }, ty, pos, after, none⟩ :: rest) (St.of S M) K := by
 subst ha
 refine ⟨_, .call _ d fo args ats ty pos after none f caps ps ps' r p R U n' (fun g want e => by cases e) (evO_spec hf) (evL_spec hps) (purL_spec hp hC) hc hr (fun q hq => ⟨look_none (hU q hq).1, (hU q hq).2⟩) (Nat.le_of_ble_eq_true hd) (okB_spec hF), ?_⟩
 rw [slot_of, upds_of S U M]
 exact h
theorem X.callP {fo : Operand} {args : Array Operand} {ats : Array TypeId} {f : FuncId} {caps ps ps' ps2 : List PV} {r : PV} {R : List Nat} {C : List (Nat × Nat)} (hc : PC P f ps2 r) (hf : evO S fo = some (.fn f caps) := by rfl) (hps : evL S args.toList = some ps := by rfl) (hp : purL M ps = some (ps', R, C) := by rfl)
  (hC : AllEq C := by repeat (first | exact trivial | refine ⟨rfl, ?_⟩)) (ha : ps' ++ caps = ps2 := by rfl) (hr : r.plain = true := by rfl) (hd : Nat.ble (d + 1) N = true := by rfl) (hF : (F i).okB R [] = true := by rfl) (h : SLx P N all F (i + 1) rest (St.of ((d, r) :: S) M) K) :
  SLx P N all F i (⟨some d, .call { callee := .value fo, args := args, argTypes := ats }, ty, pos, after, none⟩ :: rest) (St.of S M) K :=
 X.call hf hps hp hC ha hc (.plain _ r [] [] [] _ hr (.nil _)) (fun q hq => by cases hq) hd hF h
theorem X.callF {fo : Operand} {args : Array Operand} {ats : Array TypeId} {f : FuncId} {caps ps ps' ps2 : List PV} {x : Bool} {e sz : Nat} {l : List PV} {R : List Nat} {C : List (Nat × Nat)} (hc : PC P f ps2 (.fresh x e sz l)) (hf : evO S fo = some (.fn f caps) := by rfl) (hps : evL S args.toList = some ps := by rfl) (hp : purL M ps = some (ps', R, C) := by rfl)
  (hC : AllEq C := by repeat (first | exact trivial | refine ⟨rfl, ?_⟩)) (ha : ps' ++ caps = ps2 := by rfl) (hm : look M (64 * d) = none := by rfl) (hd : Nat.ble (d + 1) N = true := by rfl) (hF : (F i).okB R [64 * d] = true := by rfl) (h : SLx P N all F (i + 1) rest (St.of ((d, .own (64 * d) l.length) :: S) ((64 * d, .obj x e sz l) :: M)) K) :
  SLx P N all F i (⟨some d, .call { callee := .value fo, args := args, argTypes := ats }, ty, pos, after, none⟩ :: rest) (St.of S M) K :=
 X.call hf hps hp hC ha hc (.fresh _ x e sz l [] [] [] _ (.nil _)) (fun q hq => by simp at hq; subst hq; exact ⟨hm, by show 64 * d % 64 ≠ 63; omega⟩) hd hF h

theorem AStep.with_guard {F : Foot} {s s' : St} {dst : Option Nat} {op : Op} {g : Nat} {want : Bool} (h : AStep P N all F ⟨dst, op, ty, pos, after, none⟩ s s') (hy : gyield all s g (some want)) : AStep P N all F ⟨dst, op, ty, pos, after, some (g, want)⟩ s s' := by
 cases h with
 | op _ d op ty pos after gd p U R hg ha hd hF => exact .op s d op ty pos after _ p U R (fun g' w' e => by cases e; exact hy) ha hd hF
 | op0 _ op ty pos after gd p U R hg ha hF => exact .op0 s op ty pos after _ p U R (fun g' w' e => by cases e; exact hy) ha hF
 | opS _ dst op ty pos after gd p U R T hg ha hd hF => exact .opS s dst op ty pos after _ p U R T (fun g' w' e => by cases e; exact hy) ha hd hF
 | call _ d fo args ats ty pos after gd f caps ps ps' r p R U n' hg hf hps hp hc hr hU hd hF => exact .call s d fo args ats ty pos after _ f caps ps ps' r p R U n' (fun g' w' e => by cases e; exact hy) hf hps hp hc hr hU hd hF
 | callM _ d fo args ats ty pos after gd f caps ps ps' r p R Hs M0 M1 U n' sl' hg hf hps hp hc hh hN hcov hsl hF' hr hU hd hF => exact .callM s d fo args ats ty pos after _ f caps ps ps' r p R Hs M0 M1 U n' sl' (fun g' w' e => by cases e; exact hy) hf hps hp hc hh hN hcov hsl hF' hr hU hd hF
 | callY _ d fo args ats ty pos after gd f ps ps' r R hg hf hps hp hok hc hr hn hd hF => exact .callY s d fo args ats ty pos after _ f ps ps' r R (fun g' w' e => by cases e; exact hy) hf hps hp hok hc hr hn hd hF
 | skip _ _ g want b hgd hy hb hd => cases hgd

theorem X.gyes {dst : Option Nat} {op : Op} {g t : Nat} {want b : Bool} (hg : gslot all g = some t := by rfl) (hs : look S t = some (.lit (.bool b)) := by rfl) (hb : b = want := by first | rfl | assumption) (h : SLx P N all F i (⟨dst, op, ty, pos, after, none⟩ :: rest) (St.of S M) K) :
  SLx P N all F i (⟨dst, op, ty, pos, after, some (g, want)⟩ :: rest) (St.of S M) K := by
 obtain ⟨s', h1, h2⟩ := h
 exact ⟨s', h1.with_guard ⟨t, hg, by subst hb; exact look_slot hs⟩, h2⟩
theorem X.gno {op : Op} {g t : Nat} {want b : Bool} (hg : gslot all g = some t := by rfl) (hs : look S t = some (.lit (.bool b)) := by rfl) (hb : b = !want := by first | rfl | assumption) (hd : Nat.ble (d + 1) N = true := by rfl) (h : SLx P N all F (i + 1) rest (St.of ((d, .tuple []) :: S) M) K) :
  SLx P N all F i (⟨some d, op, ty, pos, after, some (g, want)⟩ :: rest) (St.of S M) K := by
 refine ⟨_, .skip _ _ g want (some b) rfl ⟨t, hg, look_slot hs⟩ (by subst hb; cases want <;> simp) (fun d' e => by cases e; exact Nat.le_of_ble_eq_true hd), ?_⟩
 have e : (St.of S M).put (some d) (.tuple []) = St.of ((d, .tuple []) :: S) M := by simp only [St.put]; rw [slot_of]; rfl
 rw [e]; exact h
theorem X.gU {op : Op} {g t : Nat} {want : Bool} (hg : gslot all g = some t := by rfl) (hs : look S t = some (.tuple []) := by rfl) (hd : Nat.ble (d + 1) N = true := by rfl) (h : SLx P N all F (i + 1) rest (St.of ((d, .tuple []) :: S) M) K) :
  SLx P N all F i (⟨some d, op, ty, pos, after, some (g, want)⟩ :: rest) (St.of S M) K := by
 refine ⟨_, .skip _ _ g want none rfl ⟨t, hg, look_slot hs⟩ (fun e => by cases e) (fun d' e => by cases e; exact Nat.le_of_ble_eq_true hd), ?_⟩
 have e : (St.of S M).put (some d) (.tuple []) = St.of ((d, .tuple []) :: S) M := by simp only [St.put]; rw [slot_of]; rfl
 rw [e]; exact h
theorem X.nil {s : St} (h : K s) : SLx P N all F i [] s K := h

def Sub (S' M' S M : List (Nat × PV)) : Prop := (∀ t v, look S' t = some v → look S t = some v) ∧ (∀ n p, look M' n = some p → look M n = some p)
def PV.refs : PV → List Nat
 | .own n _ => [n]
 | .lptr n _ => [n]
 | .eptr n _ _ _ => [n]
 | .osl n _ _ _ => [n]
 | _ => []
def PV.refs2 : PV → List Nat
 | .agg cs => cs.flatMap PV.refs
 | .tuple cs => cs.flatMap fun c => match c with | .agg cs => cs.flatMap PV.refs | c => c.refs
 | .blk _ cs => cs.flatMap fun c => match c with | .agg cs => cs.flatMap PV.refs | c => c.refs
 | p => p.refs
end
end Go.Px
namespace Go.Px
set_option linter.unusedSimpArgs false
set_option linter.unusedVariables false
open Go.RowKit

def refsB : Nat → List Nat → PV → Bool
 | _, G, .own n _ => G.contains n
 | _, G, .lptr n _ => G.contains n
 | _, G, .eptr n _ _ _ => G.contains n
 | _, G, .osl n _ _ _ => G.contains n
 | _, G, .yng n _ => G.contains n
 | _, G, .ysk n _ => G.contains n
 | 0, _, .agg _ => false
 | 0, _, .tuple _ => false
 | d + 1, G, .agg cs => cs.all (refsB d G)
 | d + 1, G, .tuple cs => cs.all (refsB d G)
 | _, _, _ => true
def refsM (G : List Nat) : PV → Bool
 | .blk _ cs => cs.all (refsB 2 G)
 | _ => true

theorem RV.forget {pub : Nat → Nat → Prop} {w : World} {V : Nat → Value} {m m' : Nat → PV} {G : List Nat} (hm : ∀ n ∈ G, m' n = m n) {p : PV} {v : Value} (h : RV pub w V m p v) : ∀ d, refsB d G p = true → RV pub w V m' p v := by
 induction h with
 | undef v => intro d _; exact .undef v
 | pure h => intro d _; exact .pure h
 | ref h =>
  intro d hd
  refine .ref ?_
  cases h with
  | own n k _ x e sz l h1 h2 h3 =>
   have : n ∈ G := by cases d <;> simpa [refsB] using hd
   exact .own n k _ x e sz l ((hm n this).trans h1) h2 h3
  | lptr n off x cs b h1 h2 =>
   have : n ∈ G := by cases d <;> simpa [refsB] using hd
   exact .lptr n off x cs b ((hm n this).trans h1) h2
  | eptr n k i off _ x e sz l h1 h2 h3 =>
   have : n ∈ G := by cases d <;> simpa [refsB] using hd
   exact .eptr n k i off _ x e sz l ((hm n this).trans h1) h2 h3
  | osl n k i j _ x e sz l h1 h2 h4 h3 =>
   have : n ∈ G := by cases d <;> simpa [refsB] using hd
   exact .osl n k i j _ x e sz l ((hm n this).trans h1) h2 h4 h3
 | yng c p v own h1 h2 =>
  intro d hd
  have : c ∈ G := by cases d <;> simpa [refsB] using hd
  exact .yng c p v own ((hm c this).trans h1) h2
 | ysk c p v own h1 h2 =>
  intro d hd
  have : c ∈ G := by cases d <;> simpa [refsB] using hd
  exact .ysk c p v own ((hm c this).trans h1) h2
 | agg cs arr hs hd hc ih =>
  intro d hdd
  cases d with
  | zero => simp [refsB] at hdd
  | succ d =>
   simp only [refsB, List.all_eq_true] at hdd
   exact .agg cs arr hs hd fun j c hj => ih j c hj d (hdd c (List.mem_of_getElem? hj))
 | tuple cs arr hs hc ih =>
  intro d hdd
  cases d with
  | zero => simp [refsB] at hdd
  | succ d =>
   simp only [refsB, List.all_eq_true] at hdd
   exact .tuple cs arr hs fun j c hj => ih j c hj d (hdd c (List.mem_of_getElem? hj))

def memB : Nat → List Nat → Bool
 | _, [] => false
 | n, m :: L => bif Nat.beq m n then true else memB n L
def AllLookD (S : List (Nat × PV)) : List Nat → List (Nat × PV) → Prop
 | _, [] => True
 | seen, (t, v) :: S' => bif memB t seen then AllLookD S seen S' else look S t = some v ∧ AllLookD S (t :: seen) S'
abbrev AllLook (S S' : List (Nat × PV)) : Prop := AllLookD S [] S'
theorem AllLookD.at {S : List (Nat × PV)} : ∀ {S' : List (Nat × PV)} {seen : List Nat}, AllLookD S seen S' → ∀ {t v}, memB t seen = false → look S' t = some v → look S t = some v
 | [], _, _, _, _, _, h => by cases h
 | (u, p) :: S', seen, hA, t, v, hs, h => by
  unfold look at h
  unfold AllLookD at hA
  cases hb : Nat.beq u t with
  | true =>
   rw [hb] at h; simp at h; subst h
   have := Nat.eq_of_beq_eq_true hb; subst this
   rw [hs] at hA
   exact hA.1
  | false =>
   rw [hb] at h
   cases hu : memB u seen with
   | true => rw [hu] at hA; exact AllLookD.at hA hs h
   | false =>
    rw [hu] at hA
    exact AllLookD.at hA.2 (by unfold memB; rw [hb]; exact hs) h
theorem AllLook.at {S S' : List (Nat × PV)} (h : AllLook S S') {t : Nat} {v : PV} (hl : look S' t = some v) : look S t = some v := AllLookD.at h rfl hl
theorem look_mem_key : ∀ {S : List (Nat × PV)} {t : Nat} {v : PV}, look S t = some v → (t, v) ∈ S
 | [], _, _, h => by cases h
 | (u, p) :: S, t, v, h => by
  unfold look at h
  cases hb : Nat.beq u t with
  | true =>
   rw [hb] at h; simp at h; subst h
   have := Nat.eq_of_beq_eq_true hb; subst this
   exact List.mem_cons_self ..
  | false => rw [hb] at h; exact List.mem_cons_of_mem _ (look_mem_key h)
theorem look_of_key : ∀ {S : List (Nat × PV)} {t : Nat}, t ∈ S.map (·.1) → ∃ v, look S t = some v
 | [], _, h => by cases h
 | (u, p) :: S, t, h => by
  unfold look
  cases hb : Nat.beq u t with
  | true => exact ⟨p, rfl⟩
  | false =>
   rw [List.map_cons, List.mem_cons] at h
   rcases h with h | h
   ·subst h; simp at hb
   ·exact look_of_key h

theorem Weak.sub {N : Nat} {S M S' M' : List (Nat × PV)} (hS : AllLook S S') (hM : AllLook M M') (hr : (S'.all fun q => refsB 3 (M'.map (·.1)) q.2) = true) (hrm : (M'.all fun q => refsM (M'.map (·.1)) q.2) = true) : Weak N (St.of S M) (St.of S' M') := by
 intro _ w0 pub0 a w ⟨pub, V, c1, c2, h⟩
 have hG : ∀ n ∈ M'.map (·.1), (St.of S' M').mem n = (St.of S M).mem n := fun n hn => by
  obtain ⟨v, hv⟩ := look_of_key hn
  rw [look_mem hv, look_mem (hM.at hv)]
 refine ⟨pub, V, c1, c2, ⟨h.defers, h.size, h.below, h.fixed, h.pubLt, fun t => ?_, fun n => ?_, fun n m g h1 h2 => ?_, h.soft, fun n own h1 h2 => ?_⟩⟩
 ·cases ht : look S' t with
  | none => simp only [St.of, ht]; exact .undef _
  | some v =>
   have h1 := h.slots t
   rw [look_slot (hS.at ht)] at h1
   rw [look_slot ht]
   exact h1.forget hG 3 (List.all_eq_true.1 hr _ (look_mem_key ht))
 ·cases hn : look M' n with
  | none => rw [look_none hn]; exact .undef
  | some p =>
   have h1 := h.mem n
   rw [look_mem (hM.at hn)] at h1
   rw [look_mem hn]
   have hrn := List.all_eq_true.1 hrm _ (look_mem_key hn)
   cases h1 with
   | undef => exact .undef
   | yreg s' own lo hi hv hh hp hB => exact .yreg s' own lo hi hv hh hp hB
   | blk x cs g arr T hv hB hg hs hp hq hc hr' =>
    simp only [refsM, List.all_eq_true] at hrn
    exact .blk x cs g arr T hv hB hg hs hp hq (fun j c hj => ⟨(hc j c hj).1, (hc j c hj).2.forget hG 2 (hrn c (List.mem_of_getElem? hj))⟩) hr'
   | obj x e sz l xs hsz hmx hl how hp hq hc => exact .obj x e sz l xs hsz hmx hl how hp hq hc
 ·have e : ∀ k, (St.of S' M').mem k ≠ .undef → (St.of S M).mem k ≠ .undef := fun k hk => by
   cases hk' : look M' k with
   | none => exact absurd (look_none hk') hk
   | some p => rw [look_mem (hM.at hk')]; rw [look_mem hk'] at hk; exact hk
  exact h.apart n m g (e n h1) (e m h2)
 ·have : (St.of S M).mem n = .yreg true own := by
   cases hk' : look M' n with
   | none => rw [look_none hk'] at h2; cases h2
   | some p => rw [look_mem (hM.at hk')]; rw [look_mem hk'] at h2; exact h2
  exact h.skel n own h1 this

section
variable {P : Program} {N : Nat} {Q : St → Prop} {k : List Item} {S M : List (Nat × PV)}

def slotsOf : Nat → List PV → List (Nat × PV)
 | _, [] => []
 | i, p :: ps => (i, p) :: slotsOf (i + 1) ps
theorem look_slotsOf : ∀ (ps : List PV) (i t : Nat), look (slotsOf i ps) t = if t < i then none else ps[t - i]?
 | [], i, t => by simp [slotsOf, look]
 | p :: ps, i, t => by
  unfold slotsOf look
  cases hb : Nat.beq i t with
  | true =>
   have := Nat.eq_of_beq_eq_true hb; subst this
   simp
  | false =>
   have hne : i ≠ t := fun e => by subst e; simp at hb
   rw [cond_false, look_slotsOf ps (i + 1) t]
   by_cases h : t < i
   ·rw [if_pos h, if_pos (by omega)]
   ·rw [if_neg h, if_neg (by omega), show t - i = (t - (i + 1)) + 1 by omega]; simp
theorem PC.start {f : FuncId} {fn : Func} {c : Code} {args : List PV} {r : PV} (hf : P.funcs[f]? = some fn) (hN : fn.ntmps = N) (hb : fn.body = some c) (hok : okFn P f = true) (hn : Nat.ble args.length N = true) (h : Run P N (Fin P fn r) [.code c] (St.of (slotsOf 0 args) [])) : PC P f args r := by
 subst hN
 refine PC.intro hf hb hok (Nat.le_of_ble_eq_true hn) ?_
 have e : (⟨initSlot args, fun _ => .undef⟩ : St) = St.of (slotsOf 0 args) [] := by
  unfold St.of
  congr 1
  funext t
  rw [initSlot_get, look_slotsOf]; simp
 rw [e]; exact h

theorem R.cond {c : Operand} {x y : Code} {b : Bool} (hc : evO S c = some (.lit (.bool b))) (h1 : b = true → Run P N Q (.code x :: k) (St.of S M)) (h2 : b = false → Run P N Q (.code y :: k) (St.of S M)) : Run P N Q (.code (.cond c x y) :: k) (St.of S M) := Run.cond (evO_spec hc) h1 h2
theorem R.condT {c : Operand} {x y : Code} {b : Bool} (hb : b = true) (hc : evO S c = some (.lit (.bool b)) := by rfl) (h1 : Run P N Q (.code x :: k) (St.of S M)) : Run P N Q (.code (.cond c x y) :: k) (St.of S M) := Run.cond (evO_spec hc) (fun _ => h1) (fun h => by rw [hb] at h; cases h)
theorem R.condF {c : Operand} {x y : Code} {b : Bool} (hb : b = false) (hc : evO S c = some (.lit (.bool b)) := by rfl) (h1 : Run P N Q (.code y :: k) (St.of S M)) : Run P N Q (.code (.cond c x y) :: k) (St.of S M) := Run.cond (evO_spec hc) (fun h => by rw [hb] at h; cases h) (fun _ => h1)
theorem R.forget {S' M' : List (Nat × PV)} (hS : AllLook S S') (hM : AllLook M M') (hr : (S'.all fun q => refsB 3 (M'.map (·.1)) q.2) = true) (hrm : (M'.all fun q => refsM (M'.map (·.1)) q.2) = true) (h : Run P N Q k (St.of S' M')) : Run P N Q k (St.of S M) := Run.weak (Weak.sub hS hM hr hrm) h

def Ends (N : Nat) (S M : List (Nat × PV)) (t : Nat) (e : Bool) (s : St) : Prop := Weak N s (St.of ((t, .lit (.bool e)) :: S) M)
theorem R.regB {id : Nat} {l : List Oper} (t : Nat) {e : Bool} (h : SLx P N l.toArray (fun _ => none) 0 l (St.of S M) (Ends N S M t e)) (h2 : Run P N Q k (St.of ((t, .lit (.bool e)) :: S) M)) : Run P N Q (.code (.region id l.toArray false) :: k) (St.of S M) := fun w0 pub0 a w hR =>
 wp_region_lit (SLx.sound (fun s a w hs hR => h2 w0 pub0 a w (hs _ _ _ _ _ hR)) l 0 _ a w h hR)
theorem SLx.mono {all : Array Oper} {F : Nat → Foot} {K K' : St → Prop} (hK : ∀ s, K s → K' s) : ∀ (l : List Oper) (i : Nat) (s : St), SLx P N all F i l s K → SLx P N all F i l s K'
 | [], _, s, h => hK s h
 | _ :: l, i, _, ⟨s', h1, h2⟩ => ⟨s', h1, SLx.mono hK l (i + 1) s' h2⟩
theorem R.pubBlk {n : Nat} {cs qs : List PV} {R : List Nat} {C : List (Nat × Nat)} (hm : look M n = some (.blk true cs)) (hp : purC M cs = some (qs, R, C)) (hC : AllEq C) (h : Run P N Q k (St.of S ((n, .blk false qs) :: M))) : Run P N Q k (St.of S M) := by
 refine Run.weak (s' := St.of S ((n, .blk false qs) :: M)) ?_ h
 intro _ w0 pub0 a w ⟨pub, V, c1, c2, hrel⟩
 have hpur := purC_spec (S := S) hp hC
 have hmn := hrel.mem n
 rw [look_mem hm] at hmn
 generalize hVn : V n = v at hmn
 cases hmn with
 | blk _ _ g arr T hv hB hg hs hpp hq hc hr =>
  have hlen := hpur.length
  have hrep : ∀ (j : Nat) c, qs[j]? = some c → Rep pub w c (arr.getD j Go.undef) := fun j c hj => by
   have hjl : j < cs.length := by rw [← hlen]; exact (List.getElem?_eq_some_iff.1 hj).1
   exact hpur.rep hrel j _ c _ (List.getElem?_eq_getElem hjl) hj (hc j _ (List.getElem?_eq_getElem hjl)).2
  subst hv
  have hlt : g < w.heap.size := (Array.getElem?_eq_some_iff.1 hg).1
  have ht := hrel.touch (pub' := fun b o => pub b o ∨ (b = g ∧ o < arr.size)) (w' := w) n (by rw [look_mem hm]; intro e; cases e) (V n) (fun _ => rfl) (.blk false qs) (fun e => by cases e) (by intro s' o e; rw [look_mem hm] at e; cases e) (fun s' o e => by cases e) (Nat.le_refl _) rfl rfl rfl (fun _ _ _ => rfl) (fun b o h => .inl h)
   (fun b o ho => ho.imp id fun h => by rw [hVn, h.1]; rfl) (fun b hb => by rw [hVn] at hb; simp [blockOf] at hb; omega) (fun _ _ _ => rfl) (fun _ _ _ => rfl) (.inl rfl) (fun q u hq => by rw [updV_self]; exact refs_blk (look_mem hm) hq)
   (fun t => .blk false qs g arr T hVn hB hg (hs.trans hlen.symm) (fun o _ => rfl) (fun _ o ho => .inr ⟨rfl, ho⟩) (fun j c hj => ⟨(hc j _ (List.getElem?_eq_getElem (by rw [← hlen]; exact (List.getElem?_eq_some_iff.1 hj).1))).1, .pure (t.rep (hrep j c hj))⟩) (fun _ j c hj => t.rep (hrep j c hj)))
  rw [updV_self] at ht
  have e : ({ (St.of S M) with mem := upd (St.of S M).mem n (.blk false qs) } : St) = St.of S ((n, .blk false qs) :: M) := by
   have := mem_of S M n (.blk false qs)
   simp only [upds] at this
   rw [this]; rfl
  rw [e] at ht
  exact ⟨_, V, fun b o ho => .inl (c1 b o ho), fun b o ho => ho.elim (c2 b o) (fun h => .inr (by rw [h.1]; exact hB)), ht⟩
end
end Go.Px
namespace Go.Px
set_option linter.unusedSimpArgs false
set_option linter.unusedVariables false
open Go.RowKit

def footOf : List (Nat × (List Nat × List Nat × List Nat × List Nat)) → Nat → Foot
 | [], _ => some ([], [], [], [])
 | (m, v) :: L, n => bif Nat.beq m n then some v else footOf L n

section
variable {P : Program} {N : Nat} {Q : St → Prop} {k : List Item} {S M : List (Nat × PV)} {all : Array Oper} {F : Nat → Foot} {i : Nat} {rest : List Oper} {d : Nat} {ty : TypeId} {pos : String} {after : Array Edge}

theorem X.end {S0 M0 : List (Nat × PV)} {u : Nat} {e : Bool} (hS : AllLook S ((u, .lit (.bool e)) :: S0)) (hM : AllLook M M0) (hr : (((u, PV.lit (.bool e)) :: S0).all fun q => refsB 3 (M0.map (·.1)) q.2) = true) (hrm : (M0.all fun q => refsM (M0.map (·.1)) q.2) = true) :
  SLx P N all F i [] (St.of S M) (Ends N S0 M0 u e) := X.nil (K := Ends N S0 M0 u e) (Weak.sub hS hM hr hrm)

theorem R.loop {β : Type} {c : Code} (S0 M0 : List (Nat × PV)) (X Y : β → List (Nat × PV) → List (Nat × PV)) (J : Nat → β → Prop) (n0 : Nat) (b0 : β) (hS : AllLook S (X b0 S0)) (hM : AllLook M (Y b0 M0)) (hr : ((X b0 S0).all fun q => refsB 3 ((Y b0 M0).map (·.1)) q.2) = true) (hrm : ((Y b0 M0).all fun q => refsM ((Y b0 M0).map (·.1)) q.2) = true)
  (h0 : J n0 b0) (hrun : ∀ n b, J n b → Run P N Q (.code c :: .again (fun s => ∃ m b', m < n ∧ J m b' ∧ s = St.of (X b' S0) (Y b' M0)) :: k) (St.of (X b S0) (Y b M0))) : Run P N Q (.code (.loop c) :: k) (St.of S M) := by
 refine Run.loop (fun n s => ∃ b, J n b ∧ s = St.of (X b S0) (Y b M0)) n0 (Weak.sub hS hM hr hrm) ⟨b0, h0, rfl⟩ ?_
 rintro n s ⟨b, hJ, rfl⟩
 have := hrun n b hJ
 have e : (fun s => ∃ m b', m < n ∧ J m b' ∧ s = St.of (X b' S0) (Y b' M0)) = (fun s' => ∃ m, m < n ∧ ∃ b, J m b ∧ s' = St.of (X b S0) (Y b M0)) := by
  funext s
  apply propext
  constructor
  ·rintro ⟨m, b', h1, h2, h3⟩; exact ⟨m, h1, b', h2, h3⟩
  ·rintro ⟨m, h1, b', h2, h3⟩; exact ⟨m, b', h1, h2, h3⟩
 rw [← e]; exact this
theorem R.again {β : Type} {S0 M0 : List (Nat × PV)} {X Y : β → List (Nat × PV) → List (Nat × PV)} {J : Nat → β → Prop} {n : Nat} (m : Nat) (b' : β) (hlt : m < n) (hJ : J m b') (hS : AllLook S (X b' S0)) (hM : AllLook M (Y b' M0)) (hr : ((X b' S0).all fun q => refsB 3 ((Y b' M0).map (·.1)) q.2) = true)
  (hrm : ((Y b' M0).all fun q => refsM ((Y b' M0).map (·.1)) q.2) = true) : Run P N Q (.again (fun s => ∃ m b', m < n ∧ J m b' ∧ s = St.of (X b' S0) (Y b' M0)) :: k) (St.of S M) :=
 Run.again (Weak.sub hS hM hr hrm) ⟨m, b', hlt, hJ, rfl⟩

theorem R.fin1 {fn : Func} {t : Nat} {v r : PV} (hres : fn.results = #[.tmp t]) (hv : look S t = some v) (hp : v.plain = true) (hr : v = r) : Run P N (Fin P fn r) (.code .ret :: k) (St.of S M) :=
 Run.ret ⟨[v], [v], [], by rw [hres]; exact .tmp t v [] [] (look_slot hv) .nil, .plain v [] [] [] hp .nil, hr⟩
theorem R.fin1o {fn : Func} {t n j e sz : Nat} {x : Bool} {l : List PV} {r : PV} (hres : fn.results = #[.tmp t]) (hv : look S t = some (.own n j)) (hm : look M n = some (.obj x e sz l)) (hj : j = l.length) (hr : .fresh x e sz l = r) : Run P N (Fin P fn r) (.code .ret :: k) (St.of S M) :=
 Run.ret ⟨[.own n j], [.fresh x e sz l], [n], by rw [hres]; exact .tmp t _ [] [] (look_slot hv) .nil, .own n j x e sz l [] [] [] (look_mem hm) hj (by simp) .nil, hr⟩
theorem R.fin1n {fn : Func} {t e sz : Nat} {x : Bool} {r : PV} (hres : fn.results = #[.tmp t]) (hv : look S t = some .nils) (hsz : 0 < sz) (hr : .fresh x e sz [] = r) : Run P N (Fin P fn r) (.code .ret :: k) (St.of S M) :=
 Run.ret ⟨[.nils], [.fresh x e sz []], [], by rw [hres]; exact .tmp t _ [] [] (look_slot hv) .nil, .nils x e sz [] [] [] hsz .nil, hr⟩
end
end Go.Px
namespace Go.Px
set_option linter.unusedSimpArgs false
set_option linter.unusedVariables false
open Go.RowKit

def buildK (pl : Nat → Option (Nat × Nat)) : List PV → List (Nat × PV) → Option (List PV)
 | cs, [] => some cs
 | cs, (i, p) :: rest => match pl i with
  | some (off, sz) => bif Nat.beq p.cells.length sz then (match spliceK off cs p.cells some with | some cs' => buildK pl cs' rest | none => none) else none
  | none => none
theorem buildK_spec {pl : Nat → Option (Nat × Nat)} : ∀ (ips : List (Nat × PV)) (z cs : List PV), buildK pl z ips = some cs → fillPV pl z ips = some cs
 | [], z, cs, h => by simpa [buildK, fillPV] using h
 | (i, p) :: rest, z, cs, h => by
  simp only [buildK] at h
  simp only [fillPV]
  split at h
  ·rename_i off sz hp
   cases hb : Nat.beq p.cells.length sz with
   | false => rw [hb] at h; cases h
   | true =>
    rw [hb] at h
    simp only [cond_true] at h
    split at h
    ·rename_i cs' hs
     obtain ⟨h1, e⟩ := spliceK_eq hs (Nat.eq_of_beq_eq_true hb)
     subst e
     rw [hp]
     simp only
     rw [if_pos ⟨Nat.eq_of_beq_eq_true hb, h1⟩]
     exact buildK_spec rest _ _ h
    ·cases h
  ·cases h
def curL (M : List (Nat × PV)) : List PV → Option (List Nat × List (Nat × Nat))
 | [] => some ([], [])
 | p :: ps => match curO M p with
  | some (R, C) => match curL M ps with
   | some (R', C') => some (R ++ R', C ++ C')
   | none => none
  | none => none
theorem curL_spec {S M : List (Nat × PV)} : ∀ {ps : List PV} {R : List Nat} {C : List (Nat × Nat)}, curL M ps = some (R, C) → AllEq C → (∀ p ∈ ps, Cur (St.of S M).mem p) ∧ ∀ p ∈ ps, ∀ j k, p = .own j k → j ∈ R
 | [], R, C, _, _ => ⟨by simp, by simp⟩
 | p :: ps, R, C, h, hC => by
  simp only [curL] at h
  split at h <;> try cases h
  rename_i R1 C1 h1
  split at h <;> try cases h
  rename_i R2 C2 h2
  obtain ⟨c1, c2⟩ := hC.app
  have a1 := curO_spec (S := S) h1 c1
  have a2 := curL_spec (S := S) h2 c2
  refine ⟨fun q hq => ?_, fun q hq j k e => ?_⟩
  ·rcases List.mem_cons.1 hq with rfl | hq
   ·exact a1.1
   ·exact a2.1 q hq
  ·rcases List.mem_cons.1 hq with rfl | hq
   ·exact List.mem_append_left _ (a1.2 j k e)
   ·exact List.mem_append_right _ (a2.2 q hq j k e)

section
variable {P : Program} {N : Nat} {all : Array Oper} {F : Nat → Foot} {i : Nat} {rest : List Oper} {S M : List (Nat × PV)} {K : St → Prop} {d : Nat} {ty : TypeId} {pos : String} {after : Array Edge}

theorem X.build {t : TypeId} {parts : Array (Nat × Operand)} {z cs ps : List PV} {pl : List (Nat × Nat)} {R : List Nat} {C : List (Nat × Nat)} (hz : zeroPV P t = some z) (hpl : fldPlaces P t = some pl) (hps : evL S (parts.toList.map (·.2)) = some ps) (hp : curL M ps = some (R, C)) (hC : AllEq C)
  (hcs : buildK (fun i => pl[i]?) z ((parts.toList.map (·.1)).zip ps) = some cs) (hd : Nat.ble (d + 1) N = true) (hF : (F i).okB R [] = true) (h : SLx P N all F (i + 1) rest (St.of ((d, .agg cs) :: S) M) K) :
  SLx P N all F i (⟨some d, .build t parts, ty, pos, after, none⟩ :: rest) (St.of S M) K :=
 X.ofOp (v := .agg cs) (U := []) (R := R) (.build t parts z cs pl ps R hz hpl (by have := evL_spec (M := M) hps; rw [List.map_map] at this; exact this) (curL_spec (S := S) hp hC).1 (curL_spec (S := S) hp hC).2 (buildK_spec _ _ _ hcs)) hd hF h
theorem X.buildArr {t : TypeId} {parts : Array (Nat × Operand)} {z cs ps : List PV} {n sz : Nat} {R : List Nat} {C : List (Nat × Nat)} (hz : zeroPV P t = some z) (ha : arrOf P t = some (n, sz)) (hps : evL S (parts.toList.map (·.2)) = some ps) (hp : curL M ps = some (R, C)) (hC : AllEq C)
  (hcs : buildK (fun i => some (i * sz, sz)) z ((parts.toList.map (·.1)).zip ps) = some cs) (hd : Nat.ble (d + 1) N = true) (hF : (F i).okB R [] = true) (h : SLx P N all F (i + 1) rest (St.of ((d, .agg cs) :: S) M) K) :
  SLx P N all F i (⟨some d, .build t parts, ty, pos, after, none⟩ :: rest) (St.of S M) K :=
 X.ofOp (v := .agg cs) (U := []) (R := R) (.buildArr t parts z cs n sz ps R hz ha (by have := evL_spec (M := M) hps; rw [List.map_map] at this; exact this) (curL_spec (S := S) hp hC).1 (curL_spec (S := S) hp hC).2 (buildK_spec _ _ _ hcs)) hd hF h

theorem X.eqlAgg {t t' : TypeId} {x y : Operand} {ks : List Nat} {cs ds : List PV} {r : Bool} (hf : flatOf P t = some ks) (hx : evO S x = some (.agg cs)) (hy : evO S y = some (.agg ds)) (he : eqLits ks cs ds = some r) (hd : Nat.ble (d + 1) N = true) (h : SLx P N all F (i + 1) rest (St.of ((d, .lit (.bool r)) :: S) M) K) :
  SLx P N all F i (⟨some d, .binOp .eql t x y t', ty, pos, after, none⟩ :: rest) (St.of S M) K :=
 X.ofOp (U := []) (R := []) (.eqlAgg t t' x y ks cs ds r hf (evO_spec hx) (evO_spec hy) he) hd (okB_nil _) h
theorem X.neqAgg {t t' : TypeId} {x y : Operand} {ks : List Nat} {cs ds : List PV} {r : Bool} (hf : flatOf P t = some ks) (hx : evO S x = some (.agg cs)) (hy : evO S y = some (.agg ds)) (he : eqLits ks cs ds = some r) (hd : Nat.ble (d + 1) N = true) (h : SLx P N all F (i + 1) rest (St.of ((d, .lit (.bool (!r))) :: S) M) K) :
  SLx P N all F i (⟨some d, .binOp .neq t x y t', ty, pos, after, none⟩ :: rest) (St.of S M) K :=
 X.ofOp (U := []) (R := []) (.neqAgg t t' x y ks cs ds r hf (evO_spec hx) (evO_spec hy) he) hd (okB_nil _) h
theorem X.eqlNilS {t t' : TypeId} {x : Operand} {e sz by' : Nat} {p : PV} {l : List PV} {R : List Nat} (ht : eltOf P t = some (e, sz, by')) (hx : evO S x = some p) (hl : Lst (St.of S M).mem p l R) (h0 : l ≠ [] ∨ p = .nils) (hd : Nat.ble (d + 1) N = true) (hF : (F i).okB R [] = true) (h : SLx P N all F (i + 1) rest (St.of ((d, .lit (.bool l.isEmpty)) :: S) M) K) :
  SLx P N all F i (⟨some d, .binOp .eql t x (.const (.slice none 0 0)) t', ty, pos, after, none⟩ :: rest) (St.of S M) K :=
 X.ofOp (U := []) (R := R) (.eqlNilS t t' x e sz by' p l R ht (evO_spec hx) hl h0) hd hF h
theorem X.eqlNilL {t t' : TypeId} {x : Operand} {e sz by' : Nat} {ad : Option Addr} {n cap : Nat} (ht : eltOf P t = some (e, sz, by')) (hx : evO S x = some (.lit (.slice ad n cap))) (hd : Nat.ble (d + 1) N = true) (hF : (F i).okB [] [] = true) (h : SLx P N all F (i + 1) rest (St.of ((d, .lit (.bool ad.isNone)) :: S) M) K) :
  SLx P N all F i (⟨some d, .binOp .eql t x (.const (.slice none 0 0)) t', ty, pos, after, none⟩ :: rest) (St.of S M) K :=
 X.ofOp (U := []) (R := []) (.eqlNilL t t' x e sz by' ad n cap ht (evO_spec hx)) hd hF h
theorem X.neqNilS {t t' : TypeId} {x : Operand} {e sz by' : Nat} {p : PV} {l : List PV} {R : List Nat} (ht : eltOf P t = some (e, sz, by')) (hx : evO S x = some p) (hl : Lst (St.of S M).mem p l R) (h0 : l ≠ [] ∨ p = .nils) (hd : Nat.ble (d + 1) N = true) (hF : (F i).okB R [] = true) (h : SLx P N all F (i + 1) rest (St.of ((d, .lit (.bool (!l.isEmpty))) :: S) M) K) :
  SLx P N all F i (⟨some d, .binOp .neq t x (.const (.slice none 0 0)) t', ty, pos, after, none⟩ :: rest) (St.of S M) K :=
 X.ofOp (U := []) (R := R) (.neqNilS t t' x e sz by' p l R ht (evO_spec hx) hl h0) hd hF h

def Bound (S : List (Nat × PV)) (o : Option Operand) (dflt i : Int) : Prop := match o with | some o => ∃ k, evO S o = some (.lit (.int k i)) | none => i = dflt
theorem X.sliceStr {t : TypeId} {x : Operand} {b : ByteArray} {lo hi : Option Operand} {a c : Int} (ht : P.underlying t = some .string) (hx : evO S x = some (.lit (.string b))) (hlo : Bound S lo 0 a) (hhi : Bound S hi b.size c) (h0 : 0 ≤ a ∧ a ≤ c ∧ c ≤ b.size) (hd : Nat.ble (d + 1) N = true) (h : SLx P N all F (i + 1) rest (St.of ((d, .lit (.string (b.extract a.toNat c.toNat))) :: S) M) K) :
  SLx P N all F i (⟨some d, .slice t x lo hi none, ty, pos, after, none⟩ :: rest) (St.of S M) K :=
 X.ofOp (U := []) (R := []) (.sliceStr t x b lo hi a c ht (evO_spec hx) (by cases lo with | none => exact hlo | some o => obtain ⟨k, hk⟩ := hlo; exact ⟨k, evO_spec hk⟩) (by cases hi with | none => exact hhi | some o => obtain ⟨k, hk⟩ := hhi; exact ⟨k, evO_spec hk⟩) h0.1 h0.2.1 h0.2.2) hd (okB_nil _) h
theorem X.sliceS {t : TypeId} {x : Operand} {l : List PV} {lo hi : Option Operand} {e sz by' : Nat} {a c : Int} (ht : eltOf P t = some (e, sz, by')) (hx : evO S x = some (.slice l)) (hsz : ∀ e ∈ l, e.cells.length = sz) (hlo : Bound S lo 0 a) (hhi : Bound S hi l.length c) (h0 : 0 ≤ a ∧ a ≤ c ∧ c ≤ l.length) (hd : Nat.ble (d + 1) N = true)
  (h : SLx P N all F (i + 1) rest (St.of ((d, .slice ((l.take c.toNat).drop a.toNat)) :: S) M) K) :
  SLx P N all F i (⟨some d, .slice t x lo hi none, ty, pos, after, none⟩ :: rest) (St.of S M) K :=
 X.ofOp (U := []) (R := []) (.sliceS t x l lo hi e sz by' a c ht hsz (evO_spec hx) (by cases lo with | none => exact hlo | some o => obtain ⟨k, hk⟩ := hlo; exact ⟨k, evO_spec hk⟩) (by cases hi with | none => exact hhi | some o => obtain ⟨k, hk⟩ := hhi; exact ⟨k, evO_spec hk⟩) h0.1 h0.2.1 h0.2.2) hd (okB_nil _) h
theorem X.sliceO {t : TypeId} {x : Operand} {n k : Nat} {l : List PV} {lo hi : Option Operand} {e sz by' : Nat} {a c : Int} (ht : eltOf P t = some (e, sz, by')) (hx : evO S x = some (.own n k)) (hm : look M n = some (.obj false e sz l)) (hk : k = l.length) (hlo : Bound S lo 0 a) (hhi : Bound S hi l.length c) (h0 : 0 ≤ a ∧ a ≤ c ∧ c ≤ l.length) (hd : Nat.ble (d + 1) N = true) (hF : (F i).okB [n] [] = true)
  (h : SLx P N all F (i + 1) rest (St.of ((d, .slice ((l.take c.toNat).drop a.toNat)) :: S) M) K) :
  SLx P N all F i (⟨some d, .slice t x lo hi none, ty, pos, after, none⟩ :: rest) (St.of S M) K :=
 X.ofOp (U := []) (R := [n]) (.sliceO t x n k l lo hi e sz by' a c ht (evO_spec hx) (look_mem hm) hk (by cases lo with | none => exact hlo | some o => obtain ⟨k, hk⟩ := hlo; exact ⟨k, evO_spec hk⟩) (by cases hi with | none => exact hhi | some o => obtain ⟨k, hk⟩ := hhi; exact ⟨k, evO_spec hk⟩) h0.1 h0.2.1 h0.2.2) hd hF h
end

section
variable {P : Program} {N : Nat} {Q : St → Prop} {k : List Item} {S M : List (Nat × PV)}
theorem R.fin {fn : Func} {r : PV} {ps ps' : List PV} {G : List Nat} (h1 : ResAt P (St.of S M) fn.results.toList ps) (h2 : ResL (St.of S M).mem ps ps' G) (hr : resOf ps' = r) : Run P N (Fin P fn r) (.code .ret :: k) (St.of S M) := Run.ret ⟨ps, ps', G, h1, h2, hr⟩
end
end Go.Px
namespace Go.Px
set_option linter.unusedSimpArgs false
set_option linter.unusedVariables false
open Go.RowKit
abbrev int (n : Int) : PV := .lit (.int .i64 n)
abbrev bool (b : Bool) : PV := .lit (.bool b)
abbrev str (b : ByteArray) : PV := .lit (.string b)
abbrev W (n : Int) : Int := IntKind.i64.wrap n
end Go.Px
namespace Go.Px
set_option linter.unusedSimpArgs false
set_option linter.unusedVariables false
open Go.RowKit
end Go.Px
namespace Go.Px
set_option linter.unusedSimpArgs false
set_option linter.unusedVariables false
open Go.RowKit

inductive Ty where
 | int | bool | str
 | slice (e : Ty)
 | agg (fs : List Ty)

mutual
def Ty.size : Ty → Nat
 | .agg fs => Ty.sizes fs
 | _ => 1
def Ty.sizes : List Ty → Nat
 | [] => 0
 | f :: fs => f.size + Ty.sizes fs
end

mutual
def Ty.ok (P : Program) : Ty → TypeId → Bool
 | .int, t => (match P.underlying t with | some (.int k) => k == .i64 | _ => false)
 | .bool, t => (match P.underlying t with | some .bool => true | _ => false)
 | .str, t => (match P.underlying t with | some .string => true | _ => false)
 | .slice e, t => (match P.underlying t with | some (.slice u) => Nat.beq (P.cellsOf u) e.size && Nat.ble 1 e.size && e.ok P u | _ => false)
 | .agg fs, t => (match P.underlying t with | some (.struct l) => Nat.beq (P.cellsOf t) (Ty.sizes fs) && Ty.oks P 0 fs l.toList | _ => false)
def Ty.oks (P : Program) : Nat → List Ty → List Field → Bool
 | _, [], [] => true
 | o, T :: Ts, f :: fs => Nat.beq f.offset o && Nat.beq (P.cellsOf f.type) T.size && T.ok P f.type && Ty.oks P (o + T.size) Ts fs
 | _, _, _ => false
end

mutual
def Val : Ty → PV → Prop
 | .int, p => ∃ n : Int, p = int n ∧ -9223372036854775808 ≤ n ∧ n ≤ 9223372036854775807
 | .bool, p => ∃ b, p = bool b
 | .str, p => ∃ s : ByteArray, p = str s ∧ s.size ≤ 9223372036854775807
 | .slice e, p => ∃ l, p = .slice l ∧ l.length ≤ 9223372036854775807 ∧ ∀ x ∈ l, Val e x
 | .agg fs, p => ∃ xs, p = .agg (flat xs) ∧ Vals fs xs
def Vals : List Ty → List PV → Prop
 | [], [] => True
 | T :: Ts, x :: xs => Val T x ∧ Vals Ts xs
 | _, _ => False
end

theorem list_choice {Q : Nat → PV → Prop} : ∀ n, (∀ i, i < n → ∃ p, Q i p) → ∃ l : List PV, l.length = n ∧ ∀ (i : Nat) p, l[i]? = some p → Q i p
 | 0, _ => ⟨[], rfl, by simp⟩
 | n + 1, h => by
  obtain ⟨l, h1, h2⟩ := list_choice n fun i hi => h i (by omega)
  obtain ⟨p, hp⟩ := h n (by omega)
  refine ⟨l ++ [p], by simp [h1], fun i q hq => ?_⟩
  by_cases hi : i < l.length
  ·rw [List.getElem?_append_left hi] at hq; exact h2 i q hq
  ·rw [List.getElem?_append_right (by omega)] at hq
   have : i - l.length = 0 := by
    have := (List.getElem?_eq_some_iff.1 hq).1
    simp at this; omega
   rw [this] at hq
   simp at hq; subst hq
   rw [show i = n by omega]; exact hp

section
variable {H : Type} {enc : TypeId × Value → H} {P : Program} {w : World} {spare : Nat → Bool} {held : Bool} {pub : Nat → Nat → Prop}

def Got (pub : Nat → Nat → Prop) (w : World) (T : Ty) (cs : List Value) : Prop :=
 ∃ p, Val T p ∧ p.cells.length = T.size ∧ cs.length = T.size ∧ ∀ (j : Nat) c, p.cells[j]? = some c → ∃ v, cs[j]? = some v ∧ v.oneCell' = true ∧ Rep pub w c v

mutual
theorem got (hpub : ∀ b o, b < w.heap.size → pub b o) : ∀ (T : Ty) (fuel : Nat) (t : TypeId) (cs : List Value) (x : DataW H × List MemPlace), T.ok P t = true → DataW.trod enc P w 0 spare held fuel t cs = some x → Got pub w T cs
 | .int, fuel, t, cs, x, hT, h => by
  simp only [Ty.ok] at hT
  split at hT <;> try cases hT
  rename_i k hu
  have hk : k = .i64 := by simpa using hT
  subst hk
  obtain ⟨n, rfl, _, hw⟩ := DataW.trod_int hu h
  have hb : -9223372036854775808 ≤ n ∧ n ≤ 9223372036854775807 := by
   simp only [Lit.wf, Bool.and_eq_true, decide_eq_true_eq] at hw; exact ⟨hw.1, hw.2⟩
  exact ⟨int n, ⟨n, rfl, hb⟩, rfl, rfl, fun j c hj => by
   match j with
   | 0 => simp [PV.cells] at hj; subst hj; exact ⟨_, rfl, rfl, .lit _ rfl⟩
   | j + 1 => simp [PV.cells] at hj⟩
 | .bool, fuel, t, cs, x, hT, h => by
  simp only [Ty.ok] at hT
  split at hT <;> try cases hT
  rename_i hu
  obtain ⟨b, rfl, _⟩ := DataW.trod_bool hu h
  exact ⟨bool b, ⟨b, rfl⟩, rfl, rfl, fun j c hj => by
   match j with
   | 0 => simp [PV.cells] at hj; subst hj; exact ⟨_, rfl, rfl, .lit _ rfl⟩
   | j + 1 => simp [PV.cells] at hj⟩
 | .str, fuel, t, cs, x, hT, h => by
  simp only [Ty.ok] at hT
  split at hT <;> try cases hT
  rename_i hu
  obtain ⟨s, rfl, _, hs⟩ := DataW.trod_string hu h
  exact ⟨str s, ⟨s, rfl, hs⟩, rfl, rfl, fun j c hj => by
   match j with
   | 0 => simp [PV.cells] at hj; subst hj; exact ⟨_, rfl, rfl, .lit _ rfl⟩
   | j + 1 => simp [PV.cells] at hj⟩
 | .slice e, fuel, t, cs, x, hT, h => by
  simp only [Ty.ok] at hT
  split at hT <;> try cases hT
  rename_i u hu
  simp only [Bool.and_eq_true, Nat.beq_eq, Nat.ble_eq] at hT
  obtain ⟨⟨hc, h1⟩, he⟩ := hT
  have fin : ∀ l v, cs = [v] → v.oneCell' = true → l.length ≤ 9223372036854775807 → (∀ x ∈ l, Val e x) → Rep pub w (.slice l) v → Got pub w (.slice e) cs := by
   intro l v h1 h2 h3 h4 h5
   subst h1
   exact ⟨.slice l, ⟨l, rfl, h3, h4⟩, rfl, rfl, fun j c hj => by
    match j with
    | 0 => simp [PV.cells] at hj; subst hj; exact ⟨_, rfl, h2, h5⟩
    | j + 1 => simp [PV.cells] at hj⟩
  rcases DataW.trod_slice hu h with ⟨rfl, _⟩ | ⟨a, len, cap, elems, rest, n, rfl, rfl, _, hb, hl, hm, hlen, hel, _, _⟩
  ·exact fin [] _ rfl rfl (by simp) (by simp) (.slice0 _ _)
  by_cases h0 : len = 0
  ·subst h0
   exact fin [] _ rfl rfl (by simp) (by simp) (.slice0 _ _)
  have key : ∀ i, i < len → ∃ p, Val e p ∧ p.cells.length = e.size ∧ ∀ (j : Nat) c, p.cells[j]? = some c → ∃ v, w.cell? (a.add (i * e.size + j)) = some v ∧ v.oneCell' = true ∧ Rep pub w c v := by
   intro i hi
   have h2 := hel i hi
   rw [List.getElem?_eq_getElem (by omega), Option.bind_eq_some_iff] at h2
   obtain ⟨cs', h3, h4⟩ := h2
   obtain ⟨p, q1, q2, q3, q4⟩ := got hpub e n u cs' _ he h4
   refine ⟨p, q1, q2, fun j c hj => ?_⟩
   obtain ⟨v, r1, r2, r3⟩ := q4 j c hj
   refine ⟨v, ?_, r2, r3⟩
   have hj' : j < P.cellsOf u := by rw [hc, ← q2]; exact (List.getElem?_eq_some_iff.1 hj).1
   have := (World.cells?_some h3).2.2 j hj'
   rw [r1, hc] at this
   rw [← this]
   rw [Addr.add_add]
  obtain ⟨l, hll, hl2⟩ := list_choice len key
  have hspot : a.spot = none := by
   obtain ⟨p, _, q2, q3⟩ := key 0 (by omega)
   obtain ⟨c, hc'⟩ : ∃ c, p.cells[0]? = some c := by
    rw [List.getElem?_eq_getElem (by omega)]; exact ⟨_, rfl⟩
   obtain ⟨v, r1, _⟩ := q3 0 c hc'
   unfold World.cell? at r1
   cases hs : a.spot with
   | none => rfl
   | some s => simp [Addr.add, hs] at r1; split at r1 <;> cases r1
  obtain ⟨b, o, sp⟩ := a
  simp only at hspot
  subst hspot
  have hsz : ∀ x ∈ l, x.cells.length = e.size := fun x hx => by
   obtain ⟨i, hi, rfl⟩ := List.mem_iff_getElem.1 hx
   exact (hl2 i _ (List.getElem?_eq_getElem hi)).2.1
  refine fin l _ rfl rfl (by have : maxLen = 9223372036854775807 := rfl; omega) (fun x hx => ?_) ?_
  ·obtain ⟨i, hi, rfl⟩ := List.mem_iff_getElem.1 hx
   exact (hl2 i _ (List.getElem?_eq_getElem hi)).1
  ·have hcell : ∀ (k : Nat) c, (flat l)[k]? = some c → ∃ v, w.cell? ⟨b, o + k, none⟩ = some v ∧ v.oneCell' = true ∧ Rep pub w c v := by
    intro k c hk
    obtain ⟨i, el, j, g1, g2, rfl, g4⟩ := flat_at hsz hk
    obtain ⟨v, r1, r2, r3⟩ := (hl2 i el g1).2.2 j c g2
    exact ⟨v, by rw [Addr.add_lit] at r1; exact r1, r2, r3⟩
   rw [← hll]
   refine .slice b o cap e.size l (fun k => (w.cell? ⟨b, o + k, none⟩).getD undef) hsz (by omega) (by have : maxLen = 9223372036854775807 := rfl; omega) (fun k c hk => ?_) (fun k c hk => ?_)
   ·obtain ⟨v, r1, r2, r3⟩ := hcell k c hk
    refine ⟨hpub _ _ ?_, by rw [r1]; rfl, by rw [r1]; exact r2⟩
    unfold World.cell? at r1
    rcases Nat.lt_or_ge b w.heap.size with hlt | hge
    ·exact hlt
    ·rw [Array.getElem?_eq_none hge] at r1; cases r1
   ·obtain ⟨v, r1, r2, r3⟩ := hcell k c hk
    rw [r1]; exact r3
 | .agg fs, fuel, t, cs, x, hT, h => by
  simp only [Ty.ok] at hT
  split at hT <;> try cases hT
  rename_i l hu
  simp only [Bool.and_eq_true, Nat.beq_eq] at hT
  obtain ⟨hc, hf⟩ := hT
  obtain ⟨xs, n, _, _, hl, _, hx⟩ := DataW.trod_struct hu h
  rw [hc] at hl
  obtain ⟨ps, q1, q2, q3⟩ := gots hpub fs n 0 l.toList cs hf (fun i f hi => by
   have := hx i f (by simpa using hi)
   rename_i hlen
   exact ⟨xs[i]?.get (by
    rw [Option.isSome_iff_exists]
    have : i < l.size := by have := (List.getElem?_eq_some_iff.1 hi).1; simpa using this
    exact ⟨_, List.getElem?_eq_getElem (by omega)⟩), by rw [this]; simp⟩) (by omega)
  exact ⟨.agg (flat ps), ⟨ps, rfl, q1⟩, by simpa [PV.cells, Ty.size] using q2, by simpa [Ty.size] using hl, fun j c hj => by simpa using q3 j c hj⟩
theorem gots (hpub : ∀ b o, b < w.heap.size → pub b o) : ∀ (Ts : List Ty) (n o : Nat) (fs : List Field) (cs : List Value), Ty.oks P o Ts fs = true →
  (∀ (i : Nat) f, fs[i]? = some f → ∃ x, DataW.trod enc P w 0 spare held n f.type ((cs.drop f.offset).take (P.cellsOf f.type)) = some x) → o + Ty.sizes Ts ≤ cs.length →
  ∃ ps, Vals Ts ps ∧ (flat ps).length = Ty.sizes Ts ∧ ∀ (j : Nat) c, (flat ps)[j]? = some c → ∃ v, cs[o + j]? = some v ∧ v.oneCell' = true ∧ Rep pub w c v
 | [], n, o, [], cs, hf, hx, hl => ⟨[], trivial, rfl, by simp⟩
 | [], n, o, _ :: _, cs, hf, hx, hl => by simp [Ty.oks] at hf
 | _ :: _, n, o, [], cs, hf, hx, hl => by simp [Ty.oks] at hf
 | T :: Ts, n, o, f :: fs, cs, hf, hx, hl => by
  simp only [Ty.oks, Bool.and_eq_true, Nat.beq_eq] at hf
  obtain ⟨⟨⟨h1, h2⟩, h3⟩, h4⟩ := hf
  simp only [Ty.sizes] at hl
  obtain ⟨x, hx0⟩ := hx 0 f rfl
  obtain ⟨p, a1, a2, a3, a4⟩ := got hpub T n f.type _ x h3 hx0
  obtain ⟨ps, b1, b2, b3⟩ := gots hpub Ts n (o + T.size) fs cs h4 (fun i g hi => hx (i + 1) g (by simpa using hi)) (by omega)
  refine ⟨p :: ps, ⟨a1, b1⟩, by simp [Ty.sizes, a2, b2], fun j c hj => ?_⟩
  rw [flat_cons] at hj
  by_cases hlt : j < p.cells.length
  ·rw [List.getElem?_append_left hlt] at hj
   obtain ⟨v, r1, r2, r3⟩ := a4 j c hj
   refine ⟨v, ?_, r2, r3⟩
   rw [List.getElem?_take, if_pos (by rw [h2, ← a2]; exact hlt), List.getElem?_drop, h1] at r1
   exact r1
  ·rw [List.getElem?_append_right (by omega)] at hj
   obtain ⟨v, r1, r2, r3⟩ := b3 _ c hj
   refine ⟨v, ?_, r2, r3⟩
   rw [← r1]; congr 1; omega
end
end
end Go.Px
namespace Go.Px
set_option linter.unusedSimpArgs false
set_option linter.unusedVariables false
open Go.RowKit Go.WideShapes Go.ChangeShapes

section
variable {H : Type} {enc : TypeId × Value → H} {P : Program} {w : World} {pub : Nat → Nat → Prop}

theorem got_rep {T : Ty} {t : TypeId} {v : Value} {r : Reach} {base : Nat} (hT : T.ok P t = true) (hv : Value.okWide P w r base t v) (h : Got pub w T v.cells.toList) : ∃ p, Val T p ∧ Rep pub w p v := by
 obtain ⟨p, h1, h2, h3, h4⟩ := h
 have one : p.cells = [p] → v.cells.toList = [v] → ∃ p, Val T p ∧ Rep pub w p v := fun e1 e2 => by
  obtain ⟨u, q1, q2, q3⟩ := h4 0 p (by rw [e1]; rfl)
  rw [e2] at q1
  simp at q1; subst q1
  exact ⟨p, h1, q3⟩
 cases T with
 | int =>
  obtain ⟨n, rfl, _⟩ := h1
  simp only [Ty.ok] at hT
  split at hT <;> try cases hT
  rename_i k hu
  obtain ⟨m, rfl⟩ := okWide_int hu hv
  exact one rfl rfl
 | bool =>
  obtain ⟨n, rfl⟩ := h1
  simp only [Ty.ok] at hT
  split at hT <;> try cases hT
  rename_i hu
  obtain ⟨m, rfl⟩ := okWide_bool hu hv
  exact one rfl rfl
 | str =>
  obtain ⟨n, rfl, _⟩ := h1
  simp only [Ty.ok] at hT
  split at hT <;> try cases hT
  rename_i hu
  obtain ⟨m, rfl⟩ := okWide_string hu hv
  exact one rfl rfl
 | slice e =>
  obtain ⟨l, rfl, _⟩ := h1
  simp only [Ty.ok] at hT
  split at hT <;> try cases hT
  rename_i u hu
  obtain ⟨a, len, cap, rfl⟩ := okWide_slice hu hv
  exact one rfl rfl
 | agg fs =>
  obtain ⟨xs, rfl, hxs⟩ := h1
  simp only [Ty.ok] at hT
  split at hT <;> try cases hT
  rename_i l hu
  simp only [Value.okWide, hu] at hv
  obtain ⟨cs, rfl, hs, _⟩ := hv
  have hlen : (flat xs).length = cs.size := by
   have : (PV.agg (flat xs)).cells.length = (Value.agg cs).cells.toList.length := h2.trans h3.symm
   simpa [PV.cells, Value.cells] using this
  refine ⟨.agg (flat xs), ⟨xs, rfl, hxs⟩, .agg _ _ hlen.symm (fun j c hj => ?_) (fun j c hj => ?_)⟩
  all_goals
   obtain ⟨u, q1, q2, q3⟩ := h4 j c hj
   have q1' : cs[j]? = some u := by simpa [Value.cells] using q1
   have e : cs.getD j Go.undef = u := by rw [Array.getD_eq_getD_getElem?, q1']; rfl
   rw [e]
  ·exact q2
  ·exact q3

def okTs (P : Program) : List Ty → List TypeId → Bool
 | [], [] => true
 | T :: Ts, t :: ts => T.ok P t && P.readableRec t && Nat.blt t P.types.size && okTs P Ts ts
 | _, _ => false

theorem gotAll (hpub : ∀ b o, b < w.heap.size → pub b o) {r : Reach} {base : Nat} : ∀ (Ts : List Ty) (ts : List TypeId) (vs : List Value) (ds : List (DataW H)) (p : List MemPlace), okTs P Ts ts = true → DataW.TrodAll enc P w 0 (fun _ => true) true ts vs ds p →
  (∀ (j : Nat) t v, ts[j]? = some t → vs[j]? = some v → Value.okWide P w r base t v) → ∃ ps, Vals Ts ps ∧ vs.length = ps.length ∧ ∀ (i : Nat) p v, ps[i]? = some p → vs[i]? = some v → Rep pub w p v
 | [], [], [], _, p, hT, h, hv => ⟨[], trivial, rfl, by simp⟩
 | [], [], _ :: _, ds, p, hT, h, hv => by cases ds <;> simp [DataW.TrodAll] at h
 | [], _ :: _, _, _, _, hT, h, hv => by simp [okTs] at hT
 | _ :: _, [], _, _, _, hT, h, hv => by simp [okTs] at hT
 | _ :: _, _ :: _, [], ds, _, hT, h, hv => by cases ds <;> simp [DataW.TrodAll] at h
 | _ :: _, _ :: _, _ :: _, [], _, hT, h, hv => by simp [DataW.TrodAll] at h
 | T :: Ts, t :: ts, v :: vs, d :: ds, p, hT, h, hv => by
  simp only [okTs, Bool.and_eq_true] at hT
  obtain ⟨⟨⟨h1, h2⟩, h3⟩, h4⟩ := hT
  obtain ⟨p1, q1, ⟨fuel, a1⟩, a2, a3⟩ := h
  obtain ⟨pv, b1, b2⟩ := got_rep h1 (hv 0 t v rfl rfl) (got hpub T fuel t _ _ h1 a1)
  obtain ⟨ps, c1, c2, c3⟩ := gotAll hpub Ts ts vs ds q1 h4 a2 fun j t v hj hk => hv (j + 1) t v (by simpa using hj) (by simpa using hk)
  refine ⟨pv :: ps, ⟨b1, c1⟩, by simp [c2], fun i p v hi hk => ?_⟩
  match i with
  | 0 => simp at hi hk; subst hi; subst hk; exact b2
  | i + 1 => exact c3 i p v (by simpa using hi) (by simpa using hk)

theorem stillAll (hl : laidOutB P = true) {W W' : World} (hb : Below W.heap.size W W') : ∀ (Ts : List Ty) (ts : List TypeId) (vs : List Value) (ds : List (DataW H)) (p : List MemPlace), okTs P Ts ts = true → DataW.TrodAll enc P W 0 (fun _ => true) true ts vs ds p →
  DataW.TrodAll enc P W' 0 (fun b => decide (b < W.heap.size)) true ts vs ds p
 | [], [], [], ds, p, hT, h => by cases ds <;> simp_all [DataW.TrodAll]
 | [], [], _ :: _, ds, p, hT, h => by cases ds <;> simp [DataW.TrodAll] at h
 | [], _ :: _, _, _, _, hT, h => by simp [okTs] at hT
 | _ :: _, [], _, _, _, hT, h => by simp [okTs] at hT
 | _ :: _, _ :: _, [], ds, _, hT, h => by cases ds <;> simp [DataW.TrodAll] at h
 | _ :: _, _ :: _, _ :: _, [], _, hT, h => by simp [DataW.TrodAll] at h
 | T :: Ts, t :: ts, v :: vs, d :: ds, p, hT, h => by
  simp only [okTs, Bool.and_eq_true] at hT
  obtain ⟨⟨⟨h1, h2⟩, h3⟩, h4⟩ := hT
  obtain ⟨p1, q1, a1, a2, a3⟩ := h
  have hlt : ∀ x ∈ p1, x.block < W.heap.size := by obtain ⟨m, hm⟩ := a1; exact DataW.trod_lt m _ _ _ hm
  exact ⟨p1, q1, Below.trod hl h2 (by simpa using h3) a1 hb hlt, stillAll hl hb Ts ts vs ds q1 h4 a2, a3⟩

theorem PC.row (hl : laidOutB P = true) {f : FuncId} (Ts : List Ty) (hc : ∀ ps, Vals Ts ps → PC P f ps (bool true)) {ts : List TypeId} (hT : okTs P Ts ts = true) {r : Reach} {base : Nat} {W : World} {args : Array Value} {ds : List (DataW H)} {p : List MemPlace} (hgp : GP P W)
  (hA : DataW.TrodAll enc P W 0 (fun _ => true) true ts args.toList ds p) (hv : ∀ (j : Nat) t v, ts[j]? = some t → args[j]? = some v → Value.okWide P W r base t v) :
  Calls P f args W fun e W' => e = .returned (.bool true) ∧ Below W.heap.size W W' ∧ DataW.TrodAll enc P W' 0 (fun b => decide (b < W.heap.size)) true ts args.toList ds p := by
 obtain ⟨ps, h1, h2, h3⟩ := gotAll (pub := fun b _ => b < W.heap.size) (fun _ _ h => h) Ts ts args.toList ds p hT hA fun j t v hj hk => hv j t v hj (by simpa using hk)
 have := (hc ps h1).2 W (fun b _ => b < W.heap.size) args.toList hgp (fun _ _ h => h) h2 h3
 rw [show args.toList.toArray = args from by simp] at this
 refine this.mono ?_
 rintro e w' ⟨v, rfl, hb, pub', gs, _, _, _, hr, _⟩
 cases hr with
 | pure _ _ h => cases h; exact ⟨rfl, hb, stillAll hl hb Ts ts args.toList ds p hT hA⟩
end
end Go.Px
namespace Go.Px
set_option linter.unusedSimpArgs false
set_option linter.unusedVariables false
open Go.RowKit
def fillL {α : Type} (f : α → PV) (z : PV) (L : List α) (i : Nat) : List PV := (L.take i).map f ++ List.replicate (L.length - i) z
end Go.Px
namespace Go.Px
set_option linter.unusedSimpArgs false
set_option linter.unusedVariables false
open Go.RowKit
section
variable {P : Program} {N : Nat} {Q : St → Prop} {k : List Item} {S M : List (Nat × PV)}
theorem R.pubObj {n e sz : Nat} {l : List PV} (hm : look M n = some (.obj true e sz l)) (h : Run P N Q k (St.of S ((n, .obj false e sz l) :: M))) : Run P N Q k (St.of S M) := by
 refine Run.weak (s' := St.of S ((n, .obj false e sz l) :: M)) ?_ h
 intro _ w0 pub0 a w ⟨pub, V, c1, c2, hrel⟩
 have hmn := hrel.mem n
 rw [look_mem hm] at hmn
 have hge : ∀ b, blockOf (V n) = some b → b < w.heap.size ∧ w0.O b := fun b hb => And.symm ((hrel.mem n).block_ge (by rw [look_mem hm]; intro e; cases e) hb)
 cases hmn with
 | obj _ _ _ _ xs hsz hmx hl how hpp hq hc =>
  have ht := hrel.touch (pub' := fun b o => pub b o ∨ ((V n).ownBlock = some b ∧ o < l.length * sz)) (w' := w) n (by rw [look_mem hm]; intro e; cases e) (V n) (fun _ => rfl) (.obj false e sz l) (fun e => by cases e) (by intro s' o e; rw [look_mem hm] at e; cases e) (fun s' o e => by cases e) (Nat.le_refl _) rfl rfl rfl (fun _ _ _ => rfl) (fun b o h => .inl h)
   (fun b o ho => ho.imp id fun h => ownBlock_blockOf h.1) (fun b hb => (hge b hb).1) (fun _ _ _ => rfl) (fun _ _ _ => rfl) (.inl rfl) (fun q u hq => by exact refs_obj (look_mem hm) (Nat.le_refl _) (fun _ => rfl) hq)
   (fun t => .obj false e sz l xs hsz hmx hl how (fun g o hg ho => ⟨rfl, by
     rcases ho with ho | ho
     ·exact (hpp g o hg ho).2
     ·exact ho.2⟩) (fun _ g o hg ho => .inr ⟨hg, ho⟩) (fun i c hi => ⟨(hc i c hi).1, t.rep (hc i c hi).2⟩))
  rw [updV_self] at ht
  have e : ({ (St.of S M) with mem := upd (St.of S M).mem n (.obj false e sz l) } : St) = St.of S ((n, .obj false e sz l) :: M) := by
   have := mem_of S M n (.obj false e sz l)
   simp only [upds] at this
   rw [this]; rfl
  rw [e] at ht
  exact ⟨_, V, fun b o ho => .inl (c1 b o ho), fun b o ho => ho.elim (c2 b o) (fun h => .inr (hge b (ownBlock_blockOf h.1)).2), ht⟩
end
end Go.Px
namespace Go.Px
set_option linter.unusedSimpArgs false
set_option linter.unusedVariables false
open Go.RowKit

def recvF : Nat → List PV → Option (List PV × List (Nat × PV) × Nat)
 | n, [] => some ([], [], n)
 | n, .fresh x e sz l :: ps => match recvF (n + 1) ps with
  | some (ps', U, n') => some (.own n l.length :: ps', (n, .obj x e sz l) :: U, n')
  | none => none
 | n, p :: ps => bif p.plain then (match recvF n ps with
  | some (ps', U, n') => some (p :: ps', U, n')
  | none => none) else none
theorem recvF_spec : ∀ (ps : List PV) (n : Nat) (ps' : List PV) (U : List (Nat × PV)) (n' : Nat), recvF n ps = some (ps', U, n') → RecvL n ps ps' U n'
 | [], n, ps', U, n', h => by
  simp only [recvF, Option.some.injEq, Prod.mk.injEq] at h
  obtain ⟨rfl, rfl, rfl⟩ := h
  exact .nil n
 | p :: ps, n, ps', U, n', h => by
  unfold recvF at h
  split at h
  ·rename_i heq; cases heq
  ·rename_i x e sz l qs heq
   cases heq
   split at h <;> cases h
   rename_i h1
   exact .fresh _ _ _ _ _ _ _ _ _ (recvF_spec ps _ _ _ _ h1)
  ·rename_i q qs hne heq
   cases heq
   cases hp : p.plain with
   | false => rw [hp] at h; cases h
   | true =>
    rw [hp] at h
    simp only [cond_true] at h
    split at h <;> cases h
    rename_i h1
    exact .plain _ _ _ _ _ _ hp (recvF_spec ps _ _ _ _ h1)
def noneIn (M : List (Nat × PV)) : List (Nat × PV) → Bool
 | [] => true
 | (n, _) :: U => (look M n).isNone && (!Nat.beq (n % 64) 63 && noneIn M U)
theorem noneIn_spec {M : List (Nat × PV)} : ∀ {U : List (Nat × PV)}, noneIn M U = true → ∀ q ∈ U, look M q.1 = none ∧ q.1 % 64 ≠ 63
 | [], _, q, hq => by cases hq
 | (n, p) :: U, h, q, hq => by
  simp only [noneIn, Bool.and_eq_true, Option.isNone_iff_eq_none] at h
  rcases List.mem_cons.1 hq with rfl | hq
  ·exact ⟨h.1, fun e => by have := h.2.1; rw [e] at this; simp at this⟩
  ·exact noneIn_spec h.2.2 q hq

section
variable {P : Program} {N : Nat} {all : Array Oper} {F : Nat → Foot} {i : Nat} {rest : List Oper} {S M : List (Nat × PV)} {K : St → Prop} {d : Nat} {ty : TypeId} {pos : String} {after : Array Edge}
theorem X.callA {fo : Operand} {args : Array Operand} {ats : Array TypeId} {f : FuncId} {caps ps ps' ps2 cs cs' : List PV} {R : List Nat} {C : List (Nat × Nat)} {U M' : List (Nat × PV)} {n' : Nat} (hc : PC P f ps2 (.agg cs)) (hf : evO S fo = some (.fn f caps)) (hps : evL S args.toList = some ps) (hp : purL M ps = some (ps', R, C))
  (hC : AllEq C) (ha : ps' ++ caps = ps2) (hr : recvF (64 * d) cs = some (cs', U, n')) (hM : U.reverse ++ M = M') (hU : noneIn M U = true) (hd : Nat.ble (d + 1) N = true) (hF : (F i).okB R (U.map (·.1)) = true) (h : SLx P N all F (i + 1) rest (St.of ((d, .agg cs') :: S) M') K) :
  SLx P N all F i (⟨some d, .call { callee := .value fo, args := args, argTypes := ats }, ty, pos, after, none⟩ :: rest) (St.of S M) K := by
 subst hM
 have := RecvL.agg (64 * d) cs cs' [] [] U [] n' n' (recvF_spec _ _ _ _ _ hr) (.nil n')
 rw [List.append_nil] at this
 exact X.call hf hps hp hC ha hc this (noneIn_spec hU) hd hF h
theorem X.callT {fo : Operand} {args : Array Operand} {ats : Array TypeId} {f : FuncId} {caps ps ps' ps2 cs cs' : List PV} {R : List Nat} {C : List (Nat × Nat)} {U M' : List (Nat × PV)} {n' : Nat} (hc : PC P f ps2 (.tuple cs)) (hf : evO S fo = some (.fn f caps)) (hps : evL S args.toList = some ps) (hp : purL M ps = some (ps', R, C))
  (hC : AllEq C) (ha : ps' ++ caps = ps2) (hr : recvF (64 * d) cs = some (cs', U, n')) (hM : U.reverse ++ M = M') (hU : noneIn M U = true) (hd : Nat.ble (d + 1) N = true) (hF : (F i).okB R (U.map (·.1)) = true) (h : SLx P N all F (i + 1) rest (St.of ((d, .tuple cs') :: S) M') K) :
  SLx P N all F i (⟨some d, .call { callee := .value fo, args := args, argTypes := ats }, ty, pos, after, none⟩ :: rest) (St.of S M) K := by
 subst hM
 have := RecvL.tuple (64 * d) cs cs' [] [] U [] n' n' (recvF_spec _ _ _ _ _ hr) (.nil n')
 rw [List.append_nil] at this
 exact X.call hf hps hp hC ha hc this (noneIn_spec hU) hd hF h
end
end Go.Px
namespace Go.Px
set_option linter.unusedSimpArgs false
set_option linter.unusedVariables false
open Go.RowKit

def handF (M : List (Nat × PV)) : List PV → Option (List PV × List Nat × List (Nat × Nat))
 | [] => some ([], [], [])
 | .own n k :: ps => match look M n with
  | some (.obj x e sz l) => match handF M ps with
   | some (ps', G, C) => bif memB n G then none else some (.fresh x e sz l :: ps', n :: G, (k, l.length) :: C)
   | none => none
  | _ => none
 | p :: ps => bif p.plain then (match handF M ps with
  | some (ps', G, C) => some (p :: ps', G, C)
  | none => none) else none
theorem memB_not {n : Nat} : ∀ {G : List Nat}, memB n G = false → n ∉ G
 | [], _, h => by cases h
 | m :: G, h, hn => by
  simp only [memB] at h
  rcases List.mem_cons.1 hn with rfl | hn
  ·simp at h
  ·cases hm : Nat.beq n m <;> simp_all [memB_not]
theorem handF_spec {S M : List (Nat × PV)} : ∀ (ps ps' : List PV) (G : List Nat) (C : List (Nat × Nat)), handF M ps = some (ps', G, C) → AllEq C → ResL (St.of S M).mem ps ps' G
 | [], ps', G, C, h, hC => by
  simp only [handF, Option.some.injEq, Prod.mk.injEq] at h
  obtain ⟨rfl, rfl, rfl⟩ := h
  exact .nil
 | p :: ps, ps', G, C, h, hC => by
  unfold handF at h
  split at h
  ·rename_i heq; cases heq
  ·rename_i n k qs heq
   cases heq
   split at h <;> try cases h
   rename_i x e sz l hm
   split at h <;> try cases h
   rename_i ps1 G1 C1 h1
   cases hb : memB n G1 with
   | true => rw [hb] at h; cases h
   | false =>
    rw [hb] at h
    cases h
    exact .own n k x e sz l _ _ _ (look_mem hm) hC.1 (memB_not hb) (handF_spec _ _ _ _ h1 hC.2)
  ·rename_i q qs hne heq
   cases heq
   cases hp : p.plain with
   | false => rw [hp] at h; cases h
   | true =>
    rw [hp] at h
    simp only [cond_true] at h
    split at h <;> cases h
    rename_i h1
    exact .plain _ _ _ _ hp (handF_spec _ _ _ _ h1 hC)

section
variable {P : Program} {N : Nat} {Q : St → Prop} {k : List Item} {S M : List (Nat × PV)}
theorem R.finC {fn : Func} {t n off ty sz : Nat} {y : Bool} {cs cs1 cs2 : List PV} {G : List Nat} {C : List (Nat × Nat)} {r : PV} (hres : fn.results = #[.cell t ty]) (ht : shp P ty = some (true, sz)) (hv : look S t = some (.lptr n off)) (hm : look M n = some (.blk y cs)) (hl : loadK true sz off cs = some (.agg cs1))
  (hh : handF M cs1 = some (cs2, G, C)) (hC : AllEq C) (hr : .agg cs2 = r) : Run P N (Fin P fn r) (.code .ret :: k) (St.of S M) := by
 refine Run.ret ⟨[.agg cs1], [.agg cs2], G ++ [], by rw [hres]; exact .cell t ty true sz n off y cs _ [] [] ht (.inl rfl) (look_slot hv) (look_mem hm) (loadK_spec hl) .nil, .agg cs1 cs2 [] [] G [] (handF_spec _ _ _ _ hh hC) (by simp) .nil, hr⟩
theorem R.fin2 {fn : Func} {t u : Nat} {p q : PV} {cs2 : List PV} {G : List Nat} {C : List (Nat × Nat)} {r : PV} (hres : fn.results = #[.tmp t, .tmp u]) (hv : look S t = some p) (hu : look S u = some q) (hh : handF M [p, q] = some (cs2, G, C)) (hC : AllEq C) (hr : resOf cs2 = r) : Run P N (Fin P fn r) (.code .ret :: k) (St.of S M) :=
 Run.ret ⟨[p, q], cs2, G, by rw [hres]; exact .tmp t _ _ _ (look_slot hv) (.tmp u _ [] [] (look_slot hu) .nil), handF_spec _ _ _ _ hh hC, hr⟩
end
end Go.Px
