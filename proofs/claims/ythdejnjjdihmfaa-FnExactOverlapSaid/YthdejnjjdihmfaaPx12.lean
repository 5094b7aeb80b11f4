/-
  PROVED: the rules of the operations are sound. Over any program. No condition beyond those that each theorem names.
-/
import Derived.Test.YthdejnjjdihmfaaPx11
namespace Go.Px
set_option linter.unusedSimpArgs false
set_option linter.unusedVariables false
open Go.RowKit

section
variable {P : Program} {N : Nat} {w0 w w' : World} {pub pub' : Nat → Nat → Prop} {V : Nat → Value} {s : St} {a : Act}

theorem agg_lits {m : Nat → PV} {cs : List PV} {v : Value} (h : RV pub w V m (.agg cs) v) : ∃ xs, v = .agg xs ∧ ∀ (j : Nat) u, cs[j]? = some (.lit u) → xs[j]? = some u := by
  have key : ∀ arr : Array Value, arr.size = cs.length → (∀ (j : Nat) c, cs[j]? = some c → RV pub w V m c (arr.getD j Go.undef)) → ∀ (j : Nat) u, cs[j]? = some (.lit u) → arr[j]? = some u := by
    intro arr hs hc j u hj
    have h1 := (hc j _ hj).lit_inv.1
    have hlt : j < arr.size := by rw [hs]; exact (List.getElem?_eq_some_iff.1 hj).1
    simp [hlt] at h1 ⊢; exact h1
  cases h with
  | pure h => cases h with | agg _ arr hs hd hc => exact ⟨arr, rfl, key arr hs fun j c hj => .pure (hc j c hj)⟩
  | ref h => cases h
  | agg _ arr hs hd hc => exact ⟨arr, rfl, key arr hs hc⟩
theorem Lst.nilq {p : PV} {l : List PV} {R : List Nat} (hl : Lst s.mem p l R) (h : Rel0 N w0 pub V s a w) {v : Value} (hv : RV pub w V s.mem p v) (h0 : l ≠ [] ∨ p = .nils) : ∃ ad n cap, v = .slice ad n cap ∧ ad.isNone = l.isEmpty := by
  by_cases hp : p = .nils
  · subst hp
    cases hl
    exact ⟨none, 0, 0, hv.nils_inv, rfl⟩
  · have hl0 : l ≠ [] := h0.resolve_right hp
    have he : l.isEmpty = false := by cases l <;> simp_all
    cases hl with
    | nils => exact absurd rfl hp
    | pure =>
      have := hv.slice_inv
      cases this with
      | slice0 ad cap => exact absurd rfl hl0
      | slice b o cap sz _ W hsz hcap hd hc => exact ⟨_, _, _, rfl, by rw [he]; rfl⟩
    | own n k x e sz _ hm hk =>
      obtain ⟨x', e', sz', l', hm', _, hv'⟩ := hv.own_inv
      rw [hm] at hm'; cases hm'
      rw [hv' hk]
      have hmn := h.mem n
      rw [hm] at hmn
      cases hmn with
      | obj _ _ _ _ xs hsz hl how hp hq hc =>
        rcases how.2 with ⟨h1, h2⟩ | ⟨g, cap, cur, h1, hB, hh, hnc, _⟩
        · exact absurd (List.eq_nil_of_length_eq_zero h2) hl0
        · rw [h1]; exact ⟨_, _, _, rfl, by rw [he]; rfl⟩
theorem AOp.sound {d : Nat} {op : Op} {p : PV} {U : List (Nat × PV)} {R : List Nat} {pub0 : Nat → Nat → Prop} (ha : AOp P s.ev s.mem d op p U R) (hR : Rel N w0 pub0 s a w) : Snd P N w0 pub0 s a w op p (upds s.mem U) := by
  obtain ⟨pub, V, c1, c2, h⟩ := hR
  cases ha with
  | move x v hv => exact .of_same c1 c2 h (a.eval x) (hv ▸ h.ev x) (fun _ _ _ _ _ => rfl)
  | assign x v hv => exact .of_same c1 c2 h (a.eval x) (hv ▸ h.ev x) (fun _ _ _ _ _ => rfl)
  | pick c x y b v hc hv =>
    have h1 := (hc ▸ h.ev c).lit_inv.1
    refine .of_same c1 c2 h (if b then a.eval x else a.eval y) ?_ (fun _ _ _ _ _ => by simp [execOp, h1, asBool])
    subst hv
    cases b
    · exact h.ev y
    · exact h.ev x
  | bin op t t' x y p q v hx hy hk hv hs =>
    obtain ⟨z, hz, hr⟩ := run_bin (P := P) op t x y (hx ▸ h.ev x) (hy ▸ h.ev y) hk hv hs
    exact .of_same c1 c2 h z (.pure hr) (fun _ _ _ _ _ => run_value hz)
  | neqErr t t' x ms ht hx =>
    obtain ⟨t1, u1, h1⟩ := (hx ▸ h.ev x).err_inv
    have hmt : P.underlying t = some (.interface (P.methodsAt t)) := by rw [ht]; simp [Program.methodsAt, ht]
    refine .of_same c1 c2 h (.bool true) (.pure (.lit _ rfl)) (fun _ _ _ _ _ => ?_)
    refine run_value ?_
    rw [h1, eqGuard_at_iface]
    exact run_neq_held_nil w t t1 u1 hmt
  | neqNil t t' x ms ht hx =>
    have h1 := (hx ▸ h.ev x).lit_inv.1
    have hmt : P.underlying t = some (.interface (P.methodsAt t)) := by rw [ht]; simp [Program.methodsAt, ht]
    refine .of_same c1 c2 h (.bool false) (.pure (.lit _ rfl)) (fun _ _ _ _ _ => ?_)
    refine run_value ?_
    rw [h1, show a.eval (.const .nilIface) = .nilIface from rfl, eqGuard_nil_constR]
    exact run_neq_nil_nil w t hmt
  | eqlAgg t t' x y ks cs ds r hf hx hy he =>
    obtain ⟨xs, h1, h2⟩ := agg_lits (hx ▸ h.ev x)
    obtain ⟨ys, h3, h4⟩ := agg_lits (hy ▸ h.ev y)
    exact .of_same c1 c2 h (.bool r) (.pure (.lit _ rfl)) (fun _ _ _ _ _ => run_value (by rw [h1, h3]; exact (run_eqAgg hf he h2 h4).1))
  | neqAgg t t' x y ks cs ds r hf hx hy he =>
    obtain ⟨xs, h1, h2⟩ := agg_lits (hx ▸ h.ev x)
    obtain ⟨ys, h3, h4⟩ := agg_lits (hy ▸ h.ev y)
    exact .of_same c1 c2 h (.bool (!r)) (.pure (.lit _ rfl)) (fun _ _ _ _ _ => run_value (by rw [h1, h3]; exact (run_eqAgg hf he h2 h4).2))
  | eqlNilS t t' x e sz by' p l R ht hx hl h0 =>
    obtain ⟨ad, n, cap, h1, h2⟩ := hl.nilq h (hx ▸ h.ev x) h0
    refine .of_same c1 c2 h (.bool l.isEmpty) (.pure (.lit _ rfl)) (fun _ _ _ _ _ => run_value ?_)
    rw [h1, eqGuard_at_slice, ← h2]
    show (binOp .eql t (.slice ad n cap) (.slice none 0 0)).run P w = _
    simp only [binOp]
    simp [run_equal_slice_nil w t e ad n cap (eltOf_spec ht).1]
  | neqNilS t t' x e sz by' p l R ht hx hl h0 =>
    obtain ⟨ad, n, cap, h1, h2⟩ := hl.nilq h (hx ▸ h.ev x) h0
    refine .of_same c1 c2 h (.bool (!l.isEmpty)) (.pure (.lit _ rfl)) (fun _ _ _ _ _ => run_value ?_)
    rw [h1, eqGuard_at_slice, ← h2]
    exact run_neq_slice_nil w t e ad n cap (eltOf_spec ht).1
  | un op t x p v hx hv =>
    obtain ⟨z, hz, hr⟩ := run_un (P := P) op (hx ▸ h.ev x) hv
    exact .of_same c1 c2 h z (.pure hr) (fun _ _ _ _ _ => run_value hz)
  | conv t t' x k k' n ht hs hx =>
    have h1 := (hx ▸ h.ev x).lit_inv.1
    refine .of_same c1 c2 h (.int k' (k'.wrap n)) (.pure (.lit _ rfl)) (fun _ _ _ _ _ => run_value ?_)
    rw [h1]
    obtain ⟨d', hd'⟩ := Option.isSome_iff_exists.1 hs
    cases d' <;> simp [convert, run_underlying hd', run_underlying ht, Conv.intToInt]
  | load_l t x g sz n off y cs v ht hg hx hm hv =>
    obtain ⟨x', cs', b, hm', hb, h1⟩ := (hx ▸ h.ev x).lptr_inv
    rw [hm] at hm'; cases hm'
    have hmn := h.mem n
    rw [hm] at hmn
    cases hmn with
    | blk _ _ g' arr T hvv hB hh hs hp hq hc hr =>
      rw [hb] at hvv
      simp only [Value.pointer.injEq, Option.some.injEq, Addr.mk.injEq, and_true] at hvv
      subst hvv
      obtain ⟨u, hu, hru⟩ := run_loadPV (P := P) (w := w) (m := s.mem) (V := V) (pub := pub) ht hg b 0 off cs (fun j => arr.getD j Go.undef) (fun j c hj => by
        have hlt : j < arr.size := by rw [hs]; exact (List.getElem?_eq_some_iff.1 hj).1
        refine ⟨?_, (hc j c hj).1, (hc j c hj).2⟩
        rw [Nat.zero_add, cell_of_row w b j arr T (0, 0) hh]; simp [hlt]) hv
      rw [Nat.zero_add] at hu
      exact .of_same c1 c2 h u hru (fun _ _ _ _ _ => run_value (by rw [h1]; exact hu))
  | load_c t x g sz off cs v ht hg hx hv =>
    obtain ⟨b, o, W, h1, hd, hc⟩ := (hx ▸ h.ev x).cptr_inv
    obtain ⟨u, hu, hru⟩ := run_loadPV (P := P) (w := w) (m := s.mem) (V := V) (pub := pub) ht hg b o off cs W (fun j c hj => ⟨(hd j c hj).2.1, (hd j c hj).2.2, .pure (hc j c hj)⟩) hv
    exact .of_same c1 c2 h u hru (fun _ _ _ _ _ => run_value (by rw [h1]; exact hu))
  | load_e t x g sz n k i off y e sz' l el v ht hg hx hm hk hi hv =>
    obtain ⟨x', e', sz'', l', hm', _, h1⟩ := (hx ▸ h.ev x).eptr_inv
    rw [hm] at hm'; cases hm'
    obtain ⟨gg, cap, hV, h2⟩ := h1 hk
    have hmn := h.mem n
    rw [hm] at hmn
    obtain ⟨g2, cap2, hV2, hel, hcell⟩ := hmn.elem hi
    rw [hV] at hV2
    simp only [Value.slice.injEq, Option.some.injEq, Addr.mk.injEq, and_true, true_and] at hV2
    obtain ⟨rfl, rfl⟩ := hV2
    obtain ⟨u, hu, hru⟩ := run_loadPV (P := P) (w := w) (m := s.mem) (V := V) (pub := pub) ht hg gg (i * sz') off el.cells (fun j => (w.cell? ⟨gg, i * sz' + j, none⟩).getD Go.undef) (fun j c hj => by
      obtain ⟨u, h3, h4, h5, _⟩ := hcell j c hj
      rw [h3]; exact ⟨rfl, h4, .pure h5⟩) hv
    exact .of_same c1 c2 h u hru (fun _ _ _ _ _ => run_value (by rw [h2]; exact hu))
  | store_l t x y g sz n off cs p ht hx hm hy hc hsz hfit R hR =>
    obtain ⟨x', cs', b, hm', hb, h1⟩ := (hx ▸ h.ev x).lptr_inv
    rw [hm] at hm'; cases hm'
    obtain ⟨w', hw, hrel⟩ := h.storeBlk (P := P) hm hb ht hc (hy ▸ h.ev y) hsz hfit
    exact ⟨Go.undef, w', fun _ _ _ _ _ => .inr ⟨run_skip (by rw [h1]; exact hw), rfl⟩, pub, V, c1, c2, hrel, .undef _⟩
  | store_e t x y g sz n k i off e sz' l el p p' R ht h0 hx hm hk hi hy hp hsz hfit =>
    obtain ⟨x', e', sz'', l', hm', _, h1⟩ := (hx ▸ h.ev x).eptr_inv
    rw [hm] at hm'; cases hm'
    obtain ⟨gg, cap, hV, h2⟩ := h1 hk
    have hrep := hp.rep h 0 p p' _ rfl rfl (hy ▸ h.ev y)
    have hcl := hrep.cells_of (hp.not_tuple p' (List.mem_cons_self ..))
    obtain ⟨w', hw, hrel⟩ := h.storeObj (P := P) hm hi hV ht hrep hsz h0 hfit ⟨hcl.1.trans hsz, hcl.2⟩
    exact ⟨Go.undef, w', fun _ _ _ _ _ => .inr ⟨run_skip (by rw [h2]; exact hw), rfl⟩, pub, V, c1, c2, hrel, .undef _⟩
  | nilChk x v hx hp =>
    refine .of_same c1 c2 h (a.eval x) (hx ▸ h.ev x) (fun _ _ _ _ _ => ?_)
    have hv := hx ▸ h.ev x
    cases p <;> try cases hp
    · obtain ⟨b, o, W, h1, _⟩ := hv.cptr_inv
      simp [execOp, h1]
    · obtain ⟨x', cs', b, hm', hb, h1⟩ := hv.lptr_inv
      simp [execOp, h1]
  | alloc t z hz hm =>
    obtain ⟨zv, hzv, hzs, hzc⟩ := zeroPV_spec (P := P) (w := w) (pub := pub) (V := V) hz
    have hrel := h.newBlk (64 * d) hm zv.cells t z hzs (fun j c hj => ⟨(hzc j c hj).1, (hzc j c hj).2 _⟩)
    refine ⟨_, _, fun _ _ _ _ _ => .inl (run_value (z := .pointer (some ⟨w.heap.size, 0, none⟩)) (w' := w.alloc (.cells zv.cells t (0, 0))) ?_), pub, _, c1, c2, hrel, .ref (.lptr _ _ true z _ (upd_same _ _ _) (updV_same _ _ _))⟩
    simp [Instr.alloc, hzv, newVar, newRow]
  | box t x p R hx hc hm hR =>
    have hcl := hc.cells h (hx ▸ h.ev x)
    have hrel := h.newBlk (64 * d) hm (a.eval x).cells t p.cells hcl.1 hcl.2
    refine ⟨_, _, fun _ _ _ _ _ => .inl (run_value (z := .pointer (some ⟨w.heap.size, 0, none⟩)) (w' := w.alloc (.cells (a.eval x).cells t (0, 0))) ?_), pub, _, c1, c2, hrel, .ref (.lptr _ _ true p.cells _ (upd_same _ _ _) (updV_same _ _ _))⟩
    simp [Instr.box, newVar, newRow]
  | build t parts z cs pl ps R hz hpl hps hc hR hcs =>
    obtain ⟨zv, hzv, hzs, hzc⟩ := zeroPV_spec (P := P) (w := w) (pub := pub) (V := V) hz
    have hlp : ps.length = parts.toList.length := by rw [← hps]; simp
    have hfill := fill_sound (Q := fun c u => u.oneCell' = true ∧ RV pub w V s.mem c u) (place := fun i => pl[i]?) (parts.toList.map fun x => (x.1, a.eval x.2)) ((parts.toList.map (·.1)).zip ps) zv.cells z cs
      (by rw [List.map_fst_zip (by simp [hlp])]; simp) (fun k iv ip h1 h2 => by
        simp only [List.getElem?_map, Option.map_eq_some_iff] at h1
        obtain ⟨x, hx, rfl⟩ := h1
        have h3 : ps[k]? = some ip.2 := by
          rw [List.getElem?_zip_eq_some] at h2; exact h2.2
        have h4 : ip.2 = s.ev x.2 := by
          rw [← hps] at h3
          simp only [List.getElem?_map, hx, Option.map_some, Option.some.injEq] at h3
          exact h3.symm
        have := (hc ip.2 (List.mem_of_getElem? h3)).cells h (v := a.eval x.2) (by rw [h4]; exact h.ev x.2)
        exact this) ⟨hzs, fun j c hj => ⟨(hzc j c hj).1, (hzc j c hj).2 _⟩⟩ hcs
    obtain ⟨arr, h1, h2⟩ := hfill
    refine .of_same c1 c2 h (.agg arr) (.agg cs arr h2.1 (fun j c hj => (h2.2 j c hj).1) (fun j c hj => (h2.2 j c hj).2)) (fun _ _ _ _ _ => run_value ?_)
    unfold fldPlaces at hpl
    split at hpl <;> try cases hpl
    rename_i fs hu
    have hm2 : ∀ (g : Field → Sem (Nat × Nat)), (∀ f i, P.info? f.type = some i → (g f).run P w = .ok (f.offset, i.size) w) → ∀ (l : List Field) (pl : List (Nat × Nat)), l.mapM (fun f => (P.info? f.type).map fun i => (f.offset, i.size)) = some pl → (l.mapM g).run P w = .ok pl w := by
      intro g hg l
      induction l with
      | nil => intro pl h; simp at h; subst h; simp
      | cons f l ih =>
        intro pl h
        simp only [List.mapM_cons, Option.bind_eq_bind, Option.bind_eq_some_iff, Option.pure_def, Option.some.injEq, Option.map_eq_some_iff] at h
        obtain ⟨q, ⟨i, hi, rfl⟩, pl', hpl', rfl⟩ := h
        rw [List.mapM_cons, Sem.run_bind, hg f i hi, Result.andThen_ok, Sem.run_bind, ih pl' hpl']; rfl
    have hmb : ∀ (g : Field → Sem (Nat × Nat)), (∀ f i, P.info? f.type = some i → (g f).run P w = .ok (f.offset, i.size) w) → (fs.mapM g).run P w = .ok pl.toArray w := by
      intro g hg
      rw [Array.mapM_eq_mapM_toList, Sem.run_map, hm2 g hg fs.toList pl hpl]; rfl
    have hin : (parts.map fun (i, x) => (i, a.eval x)).toList = parts.toList.map fun x => (x.1, a.eval x.2) := by simp
    unfold Instr.build
    rw [hin]
    simp only [Sem.run_bind, hzv, Result.andThen_ok, run_underlying hu]
    rw [hmb _ (fun f i hi => by simp [sizeOf, typeInfo, hi])]
    simp only [Result.andThen_ok, List.getElem?_toArray]
    rw [h1]
    rfl
  | buildArr t parts z cs n sz ps R hz ha hps hc hR hcs =>
    obtain ⟨zv, hzv, hzs, hzc⟩ := zeroPV_spec (P := P) (w := w) (pub := pub) (V := V) hz
    have hlp : ps.length = parts.toList.length := by rw [← hps]; simp
    have hfill := fill_sound (Q := fun c u => u.oneCell' = true ∧ RV pub w V s.mem c u) (place := fun i => some (i * sz, sz)) (parts.toList.map fun x => (x.1, a.eval x.2)) ((parts.toList.map (·.1)).zip ps) zv.cells z cs
      (by rw [List.map_fst_zip (by simp [hlp])]; simp) (fun k iv ip h1 h2 => by
        simp only [List.getElem?_map, Option.map_eq_some_iff] at h1
        obtain ⟨x, hx, rfl⟩ := h1
        have h3 : ps[k]? = some ip.2 := by
          rw [List.getElem?_zip_eq_some] at h2; exact h2.2
        have h4 : ip.2 = s.ev x.2 := by
          rw [← hps] at h3
          simp only [List.getElem?_map, hx, Option.map_some, Option.some.injEq] at h3
          exact h3.symm
        have := (hc ip.2 (List.mem_of_getElem? h3)).cells h (v := a.eval x.2) (by rw [h4]; exact h.ev x.2)
        exact this) ⟨hzs, fun j c hj => ⟨(hzc j c hj).1, (hzc j c hj).2 _⟩⟩ hcs
    obtain ⟨arr, h1, h2⟩ := hfill
    refine .of_same c1 c2 h (.agg arr) (.agg cs arr h2.1 (fun j c hj => (h2.2 j c hj).1) (fun j c hj => (h2.2 j c hj).2)) (fun _ _ _ _ _ => run_value ?_)
    unfold arrOf at ha
    split at ha <;> try cases ha
    rename_i n' e hu
    split at ha <;> cases ha
    rename_i ie hie
    have hin : (parts.map fun (i, x) => (i, a.eval x)).toList = parts.toList.map fun x => (x.1, a.eval x.2) := by simp
    unfold Instr.build
    rw [hin]
    simp only [Sem.run_bind, hzv, Result.andThen_ok, run_underlying hu]
    rw [show (sizeOf e).run P w = .ok ie.size w from by simp [sizeOf, typeInfo, hie]]
    simp only [Result.andThen_ok]
    rw [h1]
    rfl
  | buildSlice y t len parts e sz by' ps ps' R ht hsz0 hlen hz hzl hidx hps hp hsz hm =>
    obtain ⟨hu, x, hx, hx1, hx2⟩ := eltOf_spec ht
    subst hx1
    obtain ⟨z, hzz⟩ := Option.isSome_iff_exists.1 hz
    obtain ⟨zv, hzv, hzs, hzc⟩ := zeroPV_spec (P := P) (w := w) (pub := pub) (V := V) hzz
    have hzlen := hzl z hzz
    have hlp : ps.length = parts.toList.length := by rw [← hps]; simp
    have hlen2 : parts.toList.length = len := by have := congrArg List.length hidx; simpa using this
    have hl' := hp.length
    have hps'l : ps'.length = len := by omega
    let Q : PV → Value → Prop := fun c u => c = .undef ∨ (u.oneCell' = true ∧ Rep pub w c u)
    have hfs := fillPV_seq (sz := x.size) ps' 0 (List.replicate (len * x.size) .undef) hsz (by simp [hps'l])
    have hflat := flat_length hsz
    have hfs2 : fillPV (fun i => some (i * x.size, x.size)) (List.replicate (len * x.size) .undef) ((List.range len).zip ps') = some (flat ps') := by
      rw [List.range_eq_range', ← hps'l] 
      rw [hps'l] at hfs ⊢
      rw [hfs]; simp
    have hfill := fill_sound (Q := Q) (place := fun i => some (i * x.size, x.size)) (parts.toList.map fun y => (y.1, a.eval y.2)) ((List.range len).zip ps') ((Array.range (len * x.size)).map (zv.cells[· % zv.cells.size]!)) (List.replicate (len * x.size) .undef) (flat ps')
      (by rw [List.map_fst_zip (by simp [hps'l]), ← hidx]; simp) (fun k iv ip h1 h2 => by
        simp only [List.getElem?_map, Option.map_eq_some_iff] at h1
        obtain ⟨y', hy', rfl⟩ := h1
        have h3 : ps'[k]? = some ip.2 := by
          rw [List.getElem?_zip_eq_some] at h2; exact h2.2
        have hk : k < ps.length := by rw [← hl']; exact (List.getElem?_eq_some_iff.1 h3).1
        have h4 : ps[k]? = some (s.ev y'.2) := by
          rw [← hps]; simp [hy']
        have hr := hp.rep h k _ _ (a.eval y'.2) h4 h3 (h.ev y'.2)
        have hcl := hr.cells_of (hp.not_tuple _ (List.mem_of_getElem? h3))
        exact ⟨hcl.1, fun j c hj => .inr (hcl.2 j c hj)⟩) ⟨by simp, fun j c hj => .inl (by
          simp only [List.getElem?_replicate] at hj
          split at hj <;> simp_all)⟩ hfs2
    obtain ⟨arr, h1, h2⟩ := hfill
    have hrun : (Instr.buildSlice t len (parts.map fun (i, y) => (i, a.eval y))).run P w = .ok (.slice (some ⟨w.heap.size, 0, none⟩) len len) (w.alloc (.cells arr e)) := by
      have hin : (parts.map fun (i, y) => (i, a.eval y)).toList = parts.toList.map fun y => (y.1, a.eval y.2) := by simp
      have hgt : ¬ (len * x.size > 2 ^ 24) := by have : (65536 : Nat) ≤ 2 ^ 24 := by decide
                                                 omega
      unfold Instr.buildSlice
      rw [hin]
      simp only [Sem.run_bind, run_underlying hu, Result.andThen_ok]
      by_cases h0 : len * x.size = 0
      · have h1' : Instr.fill (fun i => some (i * x.size, x.size)) ((Array.range (len * x.size)).map ((#[] : Array Value)[· % (#[] : Array Value).size]!)) (parts.toList.map fun y => (y.1, a.eval y.2)) = some arr := by
          rw [← h1]; congr 1; rw [h0]; simp
        simp [sizeOf, typeInfo, hx, h0]
        rw [h0] at h1'
        simp at h1'
        simp [h1', newRow]
      · simp [sizeOf, typeInfo, hx, hgt, h0, hzv, h1, newRow]
    have hown : (w.alloc (.cells arr e)).ownsRow w.heap.size e x.size (.slice (some ⟨w.heap.size, 0, none⟩) len len) ps'.length arr.toList := by
      rw [hps'l]
      refine ⟨by simp [h2.1, hflat, hps'l], .inr ⟨w.heap.size, len, arr, rfl, Nat.le_refl _, heap_alloc_new w _, Nat.le_refl _, ?_, by rw [h2.1, hflat, hps'l], ?_⟩⟩
      · have : len ≤ len * x.size := Nat.le_mul_of_pos_right _ hsz0
        simp only [maxLen]; omega
      · rw [List.take_of_length_le]; simp [h2.1, hflat, hps'l]
    obtain ⟨pub1, q1, q2, hrel1⟩ := h.newObj (64 * d) hm y e x.size ps' _ arr.toList ((Below.refl _ _).alloc (Nat.le_refl _) (.cells arr e)) hsz0 hsz hown (fun i c hi => by
      have := h2.2 i c hi
      have hg : arr.toList.getD i Go.undef = arr.getD i Go.undef := by simp
      rw [hg]
      rcases this with hc | hc
      · exfalso
        subst hc
        obtain ⟨i', el, j', g1, g2, _, _⟩ := flat_at hsz hi
        have hk : i' < ps.length := by rw [← hl']; exact (List.getElem?_eq_some_iff.1 g1).1
        have hpi : i' < parts.toList.length := by omega
        have h4 : ps[i']? = some (s.ev (parts.toList[i']'hpi).2) := by
          rw [← hps, List.getElem?_map, List.getElem?_eq_getElem hpi]; rfl
        have hr := hp.rep h i' _ _ _ h4 g1 (h.ev _)
        have hcl := hr.cells_of (hp.not_tuple _ (List.mem_of_getElem? g1))
        have := (hcl.2 j' _ g2).2
        cases this
      · exact hc)
    have hsz1 := h.below.size
    exact ⟨_, _, fun _ _ _ _ _ => .inl (run_value hrun), pub1, _, fun b o ho => q1 b o (c1 b o ho), fun b o ho => (q2 b o ho).elim (c2 b o) (fun h3 => .inr (by omega)), hrel1, .ref (.own (64 * d) _ _ y e x.size ps' (upd_same _ _ _) (Nat.le_refl _) (fun _ => (updV_same _ _ _).symm))⟩
  | makeSlice t x y e sz by' z el k k' n ht hsz0 hz hel hzl hp hx hy h0 hn hb hm =>
    obtain ⟨hu, i, hi, hi1, hi2⟩ := eltOf_spec ht
    subst hi1
    subst hi2
    obtain ⟨zv, hzv, hzs, hzc⟩ := zeroPV_spec (P := P) (w := w) (pub := pub) (V := V) hz
    have hiz : i.zero = some zv := by
      simp only [zeroValue, typeInfo, Sem.run_bind, run_program, Result.andThen_ok, hi, Sem.run_pure] at hzv
      cases hzz : i.zero with
      | none => simp [hzz] at hzv
      | some z' => simp [hzz] at hzv; rw [hzv]
    have h1 := (hx ▸ h.ev x).lit_inv.1
    have h2 := (hy ▸ h.ev y).lit_inv.1
    have hbytes : (i.bytes : Int) * n ≤ 281474976710656 := by
      have h3 : (i.bytes : Int) * n ≤ 128 * 1099511627776 := Int.mul_le_mul (by omega) hn h0 (by omega)
      omega
    have hrun := run_make w t e i zv hu hi hiz k k' n n h0 (Int.le_refl _) hbytes (by omega)
    have hms : (madeCells zv.cells (n.toNat * i.size)).size = n.toNat * i.size := size_madeCells _ _
    have hlr : ∀ q ∈ List.replicate n.toNat el, q.cells.length = i.size := fun q hq => by rw [List.eq_of_mem_replicate hq, hel, hzl]
    have hfl := flat_length hlr
    rw [List.length_replicate] at hfl
    have hown : (w.alloc (.cells (madeCells zv.cells (n.toNat * i.size)) e)).ownsRow w.heap.size e i.size (.slice (some ⟨w.heap.size, 0, none⟩) n.toNat n.toNat) (List.replicate n.toNat el).length (madeCells zv.cells (n.toNat * i.size)).toList := by
      rw [List.length_replicate]
      refine ⟨by simp [hms], .inr ⟨w.heap.size, n.toNat, _, rfl, Nat.le_refl _, heap_alloc_new w _, Nat.le_refl _, by simp only [maxLen]; omega, hms, ?_⟩⟩
      rw [List.take_of_length_le]; simp [hms]
    obtain ⟨pub1, q1, q2, hrel1⟩ := h.newObj (64 * d) hm true e i.size (List.replicate n.toNat el) _ _ ((Below.refl _ _).alloc (Nat.le_refl _) (.cells (madeCells zv.cells (n.toNat * i.size)) e)) hsz0 hlr hown (fun j c hj => by
      obtain ⟨i', el', j', g1, g2, g3, g4⟩ := flat_at hlr hj
      have hlt : j < n.toNat * i.size := by rw [← hfl]; exact (List.getElem?_eq_some_iff.1 hj).1
      have he : el' = el := List.eq_of_mem_replicate (List.mem_of_getElem? g1)
      subst he
      rw [hel] at g2
      have hmod : j % zv.cells.size = j' := by rw [g3, hzs, hzl, Nat.mul_comm, Nat.mul_add_mod]; exact Nat.mod_eq_of_lt g4
      have hval : (madeCells zv.cells (n.toNat * i.size)).toList.getD j Go.undef = zv.cells.getD j' Go.undef := by
        have hjs : j' < zv.cells.size := by omega
        simp [madeCells, hlt, hmod, hjs]
      rw [hval]
      exact ⟨(hzc j' c g2).1, ((hzc j' c g2).2 s.mem).plain (hp c (List.mem_of_getElem? g2))⟩)
    have hsz1 := h.below.size
    refine ⟨_, _, fun _ _ _ _ _ => .inl (run_value (by rw [h1, h2]; exact hrun)), pub1, _, fun b o ho => q1 b o (c1 b o ho), fun b o ho => (q2 b o ho).elim (c2 b o) (fun h3 => .inr (by omega)), hrel1, .ref (.own (64 * d) _ _ true e i.size _ (upd_same _ _ _) (by simp) (fun _ => (updV_same _ _ _).symm))⟩
  | makeFunc f caps ps ps' R hps hp =>
    refine .of_same c1 c2 h (.func (.func f) #[] (caps.map a.eval)) (.pure (.fn f ps' _ (by have := hp.length; subst hps; simp at this; simp [this]) (fun j c hj => ?_))) (fun _ _ _ _ _ => run_value (by simp [Instr.makeFunc]))
    have hl := hp.length
    have hjl : j < ps.length := by rw [← hl]; exact (List.getElem?_eq_some_iff.1 hj).1
    obtain ⟨x, hx, hrv⟩ := h.at_op caps.toList j _ (by rw [hps]; exact List.getElem?_eq_getElem hjl)
    have hg : (caps.map a.eval).getD j Go.undef = a.eval x := by
      rw [Array.getElem?_toList] at hx
      simp [hx]
    rw [hg]
    exact hp.rep h j _ c _ (List.getElem?_eq_getElem hjl) hj hrv
  | fieldAddr_l t x f n off o' ht hx =>
    obtain ⟨x', cs', b, hm', hb, h1⟩ := (hx ▸ h.ev x).lptr_inv
    exact .of_same c1 c2 h (.pointer (some ⟨b, off + o', none⟩)) (.ref (.lptr n _ x' cs' b hm' hb)) (fun _ _ _ _ _ => run_value (by rw [h1]; exact run_fieldAt ht b off))
  | fieldAddr_c t x f off o' cs ht hx =>
    obtain ⟨b, o, W, h1, hd, hc⟩ := (hx ▸ h.ev x).cptr_inv
    exact .of_same c1 c2 h (.pointer (some ⟨b, o + (off + o'), none⟩)) (.pure (.cptr b o _ cs W hd hc)) (fun _ _ _ _ _ => run_value (by rw [h1, ← Nat.add_assoc]; exact run_fieldAt ht b (o + off)))
  | fieldAddr_e t x f n k i off o' y e sz l ht hx hm hk =>
    obtain ⟨x', e', sz'', l', hm', hle, h1⟩ := (hx ▸ h.ev x).eptr_inv
    rw [hm] at hm'; cases hm'
    obtain ⟨gg, cap, hV, h2⟩ := h1 hk
    exact .of_same c1 c2 h (.pointer (some ⟨gg, i * sz + (off + o'), none⟩)) (.ref (.eptr n k i _ _ y e sz l hm hle (fun _ => ⟨gg, cap, hV, rfl⟩))) (fun _ _ _ _ _ => run_value (by rw [h2, ← Nat.add_assoc]; exact run_fieldAt ht gg _))
  | field t x f cs pl o' sz g ft v ht hs hg hx hv =>
    obtain ⟨arr, h1, hsz, hc⟩ := (hx ▸ h.ev x).agg_inv
    split at ht <;> try cases ht
    rename_i fs hu
    simp only [Option.map_eq_some_iff, Prod.mk.injEq] at ht
    obtain ⟨f', hf', rfl, rfl⟩ := ht
    unfold loadPV at hv
    cases g with
    | false =>
      simp only [Bool.false_eq_true, if_false] at hv
      have hlt : f'.offset < arr.size := by rw [hsz]; exact (List.getElem?_eq_some_iff.1 hv).1
      refine .of_same c1 c2 h (arr.getD f'.offset Go.undef) (hc _ p hv).2 (fun _ _ _ _ _ => run_value ?_)
      rw [h1]
      simp [Instr.field, run_underlying hu, hf', asAgg, part, shp_agg hs w, hlt]
    | true =>
      simp only [if_true] at hv
      split at hv <;> cases hv
      rename_i hle
      refine .of_same c1 c2 h (.agg (arr.extract f'.offset (f'.offset + sz))) (.agg _ _ (by simp; omega) (fun j c hj => ?_) (fun j c hj => ?_)) (fun _ _ _ _ _ => run_value ?_)
      · obtain ⟨h2, h3⟩ := take_drop_get _ _ _ _ _ hj
        have : (arr.extract f'.offset (f'.offset + sz)).getD j Go.undef = arr.getD (f'.offset + j) Go.undef := by
          have hlt : f'.offset + j < arr.size := by omega
          simp [Array.getElem?_extract, show j < min (f'.offset + sz) arr.size - f'.offset by omega, hlt]
        rw [this]; exact (hc _ c h2).1
      · obtain ⟨h2, h3⟩ := take_drop_get _ _ _ _ _ hj
        have : (arr.extract f'.offset (f'.offset + sz)).getD j Go.undef = arr.getD (f'.offset + j) Go.undef := by
          have hlt : f'.offset + j < arr.size := by omega
          simp [Array.getElem?_extract, show j < min (f'.offset + sz) arr.size - f'.offset by omega, hlt]
        rw [this]; exact (hc _ c h2).2
      · rw [h1]
        simp [Instr.field, run_underlying hu, hf', asAgg, part, shp_agg hs w, shp_size hs w]
  | indexAddr_s t x y e sz by' l k i el ht hx hy h0 hi hsz =>
    have hrep := (hx ▸ h.ev x).slice_inv
    have hil : i.toNat < l.length := (List.getElem?_eq_some_iff.1 hi).1
    generalize hvv : a.eval x = vv at hrep
    have h1 := (hy ▸ h.ev y).lit_inv.1
    cases hrep with
    | slice0 ad cap => simp at hil
    | slice b o cap sz' _ W hsz' hcap hd hc =>
      have : sz' = sz := by rw [← hsz, hsz' el (List.mem_of_getElem? hi)]
      subst this
      refine .of_same c1 c2 h (.pointer (some ⟨b, (o + i.toNat * sz') + 0, none⟩)) (.pure (.cptr b (o + i.toNat * sz') 0 el.cells (fun j => W (i.toNat * sz' + j)) (fun j c hj => ?_) (fun j c hj => ?_))) (fun _ _ _ _ _ => run_value (by rw [hvv, h1]; exact run_indexAt ht k i b o _ _ h0 (by omega)))
      · have := hd _ c (flat_get hsz' hi hj)
        rw [Nat.add_assoc]; exact this
      · exact hc _ c (flat_get hsz' hi hj)
  | indexAddr_o t x y e sz by' n k' l k i el ht hx hm hk hy h0 hi =>
    obtain ⟨x', e', sz'', l', hm', _, hv'⟩ := (hx ▸ h.ev x).own_inv
    rw [hm] at hm'; cases hm'
    have hmn := h.mem n
    rw [hm] at hmn
    have hil : i.toNat < l.length := (List.getElem?_eq_some_iff.1 hi).1
    obtain ⟨gg, cap, hV, hel, hcell⟩ := hmn.elem hi
    have h1 := (hy ▸ h.ev y).lit_inv.1
    refine .of_same c1 c2 h (.pointer (some ⟨gg, (i.toNat * sz) + 0, none⟩)) (.pure (.cptr gg (i.toNat * sz) 0 el.cells (fun j => (w.cell? ⟨gg, i.toNat * sz + j, none⟩).getD Go.undef) (fun j c hj => ?_) (fun j c hj => ?_))) (fun _ _ _ _ _ => run_value (by
      rw [hv' hk, hV, h1]
      have := run_indexAt (P := P) (w := w) ht k i gg 0 l.length cap h0 (by omega)
      rw [Nat.zero_add] at this; exact this))
    · obtain ⟨u, h3, h4, h5, h6⟩ := hcell j c hj
      exact ⟨h6 rfl, by rw [h3]; rfl, by rw [h3]; exact h4⟩
    · obtain ⟨u, h3, h4, h5, h6⟩ := hcell j c hj
      rw [h3]; exact h5
  | indexAddr_x t x y e sz by' n k' b l k i ht hx hm hk hy h0 hi =>
    obtain ⟨x', e', sz'', l', hm', hle, hv'⟩ := (hx ▸ h.ev x).own_inv
    rw [hm] at hm'; cases hm'
    have hmn := h.mem n
    rw [hm] at hmn
    have hil : i.toNat < l.length := by omega
    obtain ⟨gg, cap, hV, hel, hcell⟩ := hmn.elem (List.getElem?_eq_getElem hil)
    have h1 := (hy ▸ h.ev y).lit_inv.1
    refine .of_same c1 c2 h (.pointer (some ⟨gg, i.toNat * sz + 0, none⟩)) (.ref (.eptr n k' i.toNat 0 _ b e sz l hm hle (fun _ => ⟨gg, cap, hV, rfl⟩))) (fun _ _ _ _ _ => run_value (by
      rw [hv' hk, hV, h1]
      have := run_indexAt (P := P) (w := w) ht k i gg 0 l.length cap h0 (by omega)
      rw [Nat.zero_add] at this; exact this))
  | indexAddr_a t x y len sz n off k i ht hx hy h0 hi =>
    obtain ⟨x', cs', b, hm', hb, h1⟩ := (hx ▸ h.ev x).lptr_inv
    have h2 := (hy ▸ h.ev y).lit_inv.1
    exact .of_same c1 c2 h (.pointer (some ⟨b, off + i.toNat * sz, none⟩)) (.ref (.lptr n _ x' cs' b hm' hb)) (fun _ _ _ _ _ => run_value (by rw [h1, h2]; exact run_indexArr ht k i b off h0 hi))
  | indexStr t x y b k i u ht hx hy h0 hi =>
    have h1 := (hx ▸ h.ev x).lit_inv.1
    have h2 := (hy ▸ h.ev y).lit_inv.1
    refine .of_same c1 c2 h (.int .u8 u.toNat) (.pure (.lit _ rfl)) (fun _ _ _ _ _ => run_value ?_)
    rw [h1, h2]
    simp [Instr.index, asIntOf, run_underlying ht, h0, hi]
  | extract x i vs v hx hv =>
    obtain ⟨arr, h1, hs, hc⟩ := (hx ▸ h.ev x).tuple_inv
    have hlt : i < arr.size := by rw [hs]; exact (List.getElem?_eq_some_iff.1 hv).1
    refine .of_same c1 c2 h (arr.getD i Go.undef) (hc i p hv) (fun _ _ _ _ _ => run_value ?_)
    rw [h1]; simp [Instr.extract, hlt]
  | lenStr t x b ht hx =>
    have h1 := (hx ▸ h.ev x).lit_inv.1
    refine .of_same c1 c2 h (.int .i64 b.size) (.pure (.lit _ rfl)) (fun _ _ _ _ _ => ?_)
    simp [execOp, resolve, invoke, builtin, h1, Builtin.len_, run_underlying ht, goInt]
  | lenLst t x p l R e sz by' ht hx hl =>
    obtain ⟨ad, cap, h1⟩ := hl.len h (hx ▸ h.ev x)
    refine .of_same c1 c2 h (.int .i64 l.length) (.pure (.lit _ rfl)) (fun _ _ _ _ _ => ?_)
    simp [execOp, resolve, invoke, builtin, h1, Builtin.len_, run_underlying (eltOf_spec ht).1, goInt]
  | append t x y n k b e sz by' l lb z q R ht hz hzl hx hm hk hy hq hlb hb hn =>
    obtain ⟨x', e', sz', l', hm', hle, hv'⟩ := (hx ▸ h.ev x).own_inv
    rw [hm] at hm'; cases hm'
    have hbd : (l.length + lb.length) * by' ≤ 140737488355328 := Nat.le_trans (Nat.mul_le_mul hn hb) (by decide)
    obtain ⟨v', w', hr, pub', p1, p2, hrel⟩ := h.appendOwn (P := P) (ty := 0) hm ht hz hzl hq hlb (hy ▸ h.ev y) hbd (by omega)
    refine ⟨v', w', fun dst ty pos after guard => .inl ?_, pub', _, fun b o ho => p1 b o (c1 b o ho), fun b o ho => (p2 b o ho).elim (c2 b o) .inr, hrel, .ref (.own n _ _ b e sz (l ++ lb) (upd_same _ _ _) (by simp) (fun _ => (updV_same _ _ _).symm))⟩
    have hr' : (Builtin.append_ #[t, t] ty #[a.eval x, a.eval y]).run P w = .ok v' w' := by rw [hv' hk]; exact hr
    simp [execOp, resolve, invoke, builtin, hr']
  | appendNil b t x y e sz by' lb z q R ht hsz hz hzl hx hy hq hlb hb hn hm =>
    have h1 := (hx ▸ h.ev x).nils_inv
    have hbd : (0 + lb.length) * by' ≤ 140737488355328 := Nat.le_trans (Nat.mul_le_mul (by omega : 0 + lb.length ≤ 1099511627776) hb) (by decide)
    obtain ⟨pub1, q1, q2, hrel1⟩ := h.newObj (64 * d) hm b e sz [] (.slice none 0 0) [] (Below.refl _ _) hsz (fun _ h => by cases h) (World.ownsRow_nil w _ e sz) (fun i c hi => by simp at hi)
    have hq' : Lst (upd s.mem (64 * d) (.obj b e sz [])) q lb R := by
      cases hq with
      | pure => exact .pure _
      | nils => exact .nils
      | own n k x' e' sz' _ hm' hk =>
        have hne : n ≠ 64 * d := fun e => by rw [e, hm] at hm'; cases hm'
        exact .own n k x' e' sz' _ (by rw [upd_ne _ _ hne]; exact hm') hk
    have hu' := hrel1.ev y
    have e1 : St.ev { s with mem := upd s.mem (64 * d) (.obj b e sz []) } y = q := by rw [← hy]; cases y <;> rfl
    rw [e1] at hu'
    obtain ⟨v', w', hr, pub', p1, p2, hrel⟩ := hrel1.appendOwn (P := P) (ty := 0) (n := 64 * d) (upd_same _ _ _) ht hz hzl hq' hlb (u := a.eval y) hu' (by simpa using hbd) (by simp; omega)
    have e2 : upd (upd s.mem (64 * d) (.obj b e sz [])) (64 * d) (.obj b e sz ([] ++ lb)) = upd s.mem (64 * d) (.obj b e sz lb) := by funext k; by_cases hk : k = 64 * d <;> simp [upd, hk]
    rw [e2] at hrel
    have hsz0 := h.below.size
    refine ⟨v', w', fun dst ty pos after guard => .inl ?_, pub', _, fun b o ho => p1 b o (q1 b o (c1 b o ho)), fun b o ho => (p2 b o ho).elim (fun h3 => (q2 b o h3).elim (c2 b o) (fun h4 => .inr (by omega))) .inr, hrel, .ref (.own (64 * d) _ _ b e sz lb (upd_same _ _ _) (Nat.le_refl _) (fun _ => (updV_same _ _ _).symm))⟩
    rw [updV_same] at hr
    have hr' : (Builtin.append_ #[t, t] ty #[a.eval x, a.eval y]).run P w = .ok v' w' := by rw [h1]; exact hr
    simp [execOp, resolve, invoke, builtin, hr']
  | max2 t t' x y k b c hx hy =>
    have h1 := (hx ▸ h.ev x).lit_inv.1
    have h2 := (hy ▸ h.ev y).lit_inv.1
    refine .of_same c1 c2 h (.int k (max b c)) (.pure (.lit _ rfl)) (fun _ _ _ _ _ => ?_)
    simp [execOp, resolve, invoke, builtin, h1, h2, Builtin.max_, Builtin.max2]
    omega
  | min2 t t' x y k b c hx hy =>
    have h1 := (hx ▸ h.ev x).lit_inv.1
    have h2 := (hy ▸ h.ev y).lit_inv.1
    refine .of_same c1 c2 h (.int k (min b c)) (.pure (.lit _ rfl)) (fun _ _ _ _ _ => ?_)
    simp [execOp, resolve, invoke, builtin, h1, h2, Builtin.min_, Builtin.min2]
    omega
  | sliceStr t x b lo hi i j ht hx hlo hhi h0 h1 h2 =>
    have hv := (hx ▸ h.ev x).lit_inv.1
    have hb := run_bounds (P := P) (w := w) (isS := false) (len := b.size) (cap := b.size) (operand_int h hlo) (operand_int h hhi) h0 h1 h2
    refine .of_same c1 c2 h (.string (b.extract i.toNat j.toNat)) (.pure (.lit _ rfl)) (fun _ _ _ _ _ => run_value ?_)
    rw [hv]
    unfold Instr.sliceAt
    simp [run_underlying ht, Instr.slice, hb]
  | sliceS t x l lo hi e sz by' i j ht hsz hx hlo hhi h0 h1 h2 =>
    obtain ⟨u, hu, hr⟩ := run_sub (P := P) ht (hx ▸ h.ev x).slice_inv hsz (operand_int h hlo) (operand_int h hhi) h0 h1 h2
    exact .of_same c1 c2 h u (.pure hr) (fun _ _ _ _ _ => run_value hu)
  | sliceO t x n k l lo hi e sz by' i j ht hx hm hk hlo hhi h0 h1 h2 =>
    obtain ⟨x', e', sz', l', hm', hle, hv'⟩ := (hx ▸ h.ev x).own_inv
    rw [hm] at hm'; cases hm'
    have hmn := h.mem n
    rw [hm] at hmn
    have hrep := Rep.slice_own hmn
    rw [← hv' hk] at hrep
    have hsz : ∀ e ∈ l, e.cells.length = sz := by cases hmn; assumption
    obtain ⟨u, hu, hr⟩ := run_sub (P := P) ht hrep hsz (operand_int h hlo) (operand_int h hhi) h0 h1 h2
    exact .of_same c1 c2 h u (.pure hr) (fun _ _ _ _ _ => run_value hu)
end
end Go.Px
