/-
  PROVED: what operations do to a pure state: append. Over any program. No condition beyond those that each theorem names.
-/
import Derived.Test.YthdejnjjdihmfaaPx9
namespace Go.Px
set_option linter.unusedSimpArgs false
set_option linter.unusedVariables false
open Go.RowKit

/-- A slice, whatever it is, as a list: a pure one, the nil one, or one of the call's own. -/
inductive Lst (m : Nat → PV) : PV → List PV → List Nat → Prop where
  | pure (l : List PV) : Lst m (.slice l) l []
  | nils : Lst m .nils [] []
  | own (n k : Nat) (x : Bool) (e sz : Nat) (l : List PV) (hm : m n = .obj x e sz l) (hk : k = l.length) : Lst m (.own n k) l [n]

section
variable {P : Program} {N : Nat} {w0 w w' : World} {pub pub' : Nat → Nat → Prop} {V : Nat → Value} {s : St} {a : Act}

/-- The value of a slice, and its cells. -/
theorem Lst.val {p : PV} {l : List PV} {R : List Nat} (hl : Lst s.mem p l R) (h : Rel0 N w0 pub V s a w) {v : Value} (hv : RV pub w V s.mem p v) :
    ∃ ad cap, v = .slice ad l.length cap ∧ l.length ≤ cap ∨ ∃ ad cap, v = .slice ad l.length cap ∧ l = [] := by
  cases hl with
  | pure =>
    have := hv.slice_inv
    cases this with
    | slice0 ad cap => exact ⟨none, 0, .inr ⟨ad, cap, rfl, rfl⟩⟩
    | slice b o cap sz _ W hsz hcap hd hc => exact ⟨_, _, .inl ⟨rfl, hcap⟩⟩
  | nils => exact ⟨none, 0, .inr ⟨none, 0, hv.nils_inv, rfl⟩⟩
  | own n k x e sz _ hm hk =>
    obtain ⟨x', e', sz', l', hm', _, hv'⟩ := hv.own_inv
    rw [hm] at hm'; cases hm'
    rw [hv' hk]
    have hmn := h.mem n
    rw [hm] at hmn
    cases hmn with
    | obj _ _ _ _ xs hsz hl how hp hq hc =>
      rcases how.2 with ⟨h1, h2⟩ | ⟨g, cap, cur, h1, hB, hh, hnc, _⟩
      · rw [h1]; exact ⟨none, 0, .inr ⟨none, 0, by rw [h2], List.eq_nil_of_length_eq_zero h2⟩⟩
      · rw [h1]; exact ⟨_, _, .inl ⟨rfl, hnc⟩⟩

theorem Lst.len {p : PV} {l : List PV} {R : List Nat} (hl : Lst s.mem p l R) (h : Rel0 N w0 pub V s a w) {v : Value} (hv : RV pub w V s.mem p v) : ∃ ad cap, v = .slice ad l.length cap := by
  rcases hl.val h hv with ⟨ad, cap, h | ⟨ad', cap', h, _⟩⟩
  · exact ⟨ad, cap, h.1⟩
  · exact ⟨ad', cap', h⟩

/-- The cells of a slice that has elements. -/
theorem Lst.src {p : PV} {l : List PV} {R : List Nat} (hl : Lst s.mem p l R) (h : Rel0 N w0 pub V s a w) {v : Value} (hv : RV pub w V s.mem p v) {sz : Nat} (hsz : ∀ e ∈ l, e.cells.length = sz) :
    (∃ cap, v = .slice none 0 cap ∧ l = []) ∨ ∃ ad cap, ∃ news : List Value, v = .slice (some ad) l.length cap ∧ news.length = l.length * sz ∧ (∀ j u, news[j]? = some u → w.cell? (ad.add j) = some u) ∧ (∀ u ∈ news, u.oneCell' = true) ∧
      ∀ (j : Nat) c, (flat l)[j]? = some c → (news.getD j Go.undef).oneCell' = true ∧ Rep pub w c (news.getD j Go.undef) := by
  have empty : ∀ ad cap, v = .slice ad 0 cap → l = [] → (∃ cap, v = .slice none 0 cap ∧ l = []) ∨ ∃ ad cap, ∃ news : List Value, v = .slice (some ad) l.length cap ∧ news.length = l.length * sz ∧ (∀ j u, news[j]? = some u → w.cell? (ad.add j) = some u) ∧ (∀ u ∈ news, u.oneCell' = true) ∧
      ∀ (j : Nat) c, (flat l)[j]? = some c → (news.getD j Go.undef).oneCell' = true ∧ Rep pub w c (news.getD j Go.undef) := by
    intro ad cap hv hl0
    subst hl0
    cases ad with
    | none => exact .inl ⟨cap, hv, rfl⟩
    | some ad => exact .inr ⟨ad, cap, [], hv, by simp, by simp, by simp, by simp⟩
  cases hl with
  | pure =>
    have := hv.slice_inv
    cases this with
    | slice0 ad cap => exact empty ad cap rfl rfl
    | slice b o cap sz' _ W hsz' hcap hd hc =>
      by_cases hl0 : l = []
      · exact empty (some ⟨b, o, none⟩) cap (by rw [hl0]; rfl) hl0
      · have hfl := flat_length hsz
        refine .inr ⟨_, cap, (List.range (l.length * sz)).map W, rfl, by simp, fun j u hj => ?_, fun u hu => ?_, fun j c hj => ?_⟩
        · simp only [List.getElem?_map, Option.map_eq_some_iff] at hj
          obtain ⟨i, hi, rfl⟩ := hj
          have hlt : j < l.length * sz := by have := (List.getElem?_eq_some_iff.1 hi).1; simpa using this
          obtain rfl : i = j := by simp [hlt] at hi; exact hi.symm
          rw [Addr.add_lit]
          exact (hd i _ (List.getElem?_eq_getElem (by omega))).2.1
        · simp only [List.mem_map, List.mem_range] at hu
          obtain ⟨i, hi, rfl⟩ := hu
          exact (hd i _ (List.getElem?_eq_getElem (by omega))).2.2
        · have hlt : j < l.length * sz := by rw [← hfl]; exact (List.getElem?_eq_some_iff.1 hj).1
          have : ((List.range (l.length * sz)).map W).getD j Go.undef = W j := by simp [hlt]
          rw [this]
          exact ⟨(hd j c hj).2.2, hc j c hj⟩
  | nils => exact empty none 0 hv.nils_inv rfl
  | own n k x e sz' _ hm hk =>
    obtain ⟨x', e', sz'', l', hm', _, hv'⟩ := hv.own_inv
    rw [hm] at hm'; cases hm'
    have hmn := h.mem n
    rw [hm] at hmn
    cases hmn with
    | obj _ _ _ _ xs hsz0 hl how hp hq hc =>
      rcases how.2 with ⟨h1, h2⟩ | ⟨g, cap, cur, h1, hB, hh, hnc, hcm, hcs, htake⟩
      · exact empty none 0 (by rw [hv' hk, h1]) (List.eq_nil_of_length_eq_zero h2)
      · by_cases hl0 : l = []
        · exact empty _ _ (by rw [hv' hk, h1, hl0]; rfl) hl0
        · have hszz : sz' = sz := by
            obtain ⟨y, hy⟩ := List.exists_mem_of_ne_nil l hl0
            rw [← hl y hy, hsz y hy]
          subst hszz
          have hfl := flat_length hl
          refine .inr ⟨_, cap, xs, by rw [hv' hk, h1], how.1, fun j u hj => ?_, fun u hu => ?_, hc⟩
          · exact how.cells (g := g) (by rw [h1]; rfl) j u hj
          · obtain ⟨j, hj⟩ := List.mem_iff_getElem?.1 hu
            have hlt := (List.getElem?_eq_some_iff.1 hj).1
            have hx := how.1
            have := (hc j _ (List.getElem?_eq_getElem (by omega))).1
            simpa [hj] using this

/-- append onto a row of the call's own, and that what was visible stays. -/
theorem run_append_own2 {base : Nat} {t ty e : TypeId} {i : TypeInfo} {z : Value} {size bytes : Nat} (ht : P.underlying t = some (.slice e)) (hi : P.info? e = some i) (hz : i.zero = some z)
    (hsize : i.size = size) (hby : i.bytes = bytes) (hzs : z.cells.size = size) (hsz : 0 < size) {v : Value} {n : Nat} {xs : List Value} (hown : w.ownsRow base e size v n xs)
    {ad : Addr} {m c : Nat} {news : List Value} (hl : news.length = m * size) (hnews : ∀ j u, news[j]? = some u → w.cell? (ad.add j) = some u) (h1 : ∀ u ∈ news, u.oneCell' = true)
    (h63 : n + m ≤ maxLen) (hbytes : (n + m) * bytes ≤ 140737488355328) (hbase : base ≤ w.heap.size) :
    ∃ v' w', (Builtin.append_ #[t, t] ty #[v, .slice (some ad) m c]).run P w = .ok v' w' ∧ w'.ownsRow base e size v' (n + m) (xs ++ news) ∧ w.grownBy w' v.ownBlock ∧
      (m = 0 → v' = v) ∧ (v'.ownBlock = v.ownBlock ∨ ∀ g, v'.ownBlock = some g → w.heap.size ≤ g) ∧ (∀ g o, v.ownBlock = some g → o < n * size → w'.cell? ⟨g, o, none⟩ = w.cell? ⟨g, o, none⟩) := by
  obtain ⟨v', w', hr, ho, hg, hnil⟩ := run_append_own w base t ty e i z size bytes ht hi hz hsize hby hzs hsz v n xs hown ad m c news hl hnews h1 h63 hbytes hbase
  refine ⟨v', w', hr, ho, hg, ?_⟩
  subst hsize
  subst hby
  rcases hown.2 with ⟨rfl, rfl⟩ | ⟨g, cap, cur, rfl, hbg, hh, hnc, hcm, hcs, htake⟩
  · refine ⟨fun hm => hnil.2 ⟨rfl, hm⟩, ?_, fun g o hg => by cases hg⟩
    by_cases hm : m = 0
    · exact .inl (by rw [hnil.2 ⟨rfl, hm⟩])
    · have hr2 := run_append_nil (P := P) w t ty e i z ht hi hz ad m c news hl hnews (by omega) (by simp only [maxLen] at h63; omega) (by simp only [Nat.zero_add] at hbytes; omega)
      rw [hr2] at hr
      injection hr with hr1 hr3
      subst hr1
      exact .inr fun g hg => by simp [Value.ownBlock] at hg; omega
  · by_cases hroom : n + m ≤ cap
    · have hfit : n * i.size + news.length ≤ cur.size := by rw [hl, hcs, ← Nat.add_mul]; exact Nat.mul_le_mul_right _ hroom
      have hr2 := run_append_room (P := P) w t ty e i ht hi g n cap cur hh ad m c news hl hnews h1 hroom hfit
      rw [hr2] at hr
      injection hr with hr1 hr3
      subst hr1
      subst hr3
      refine ⟨fun hm => by rw [hm]; simp, .inl rfl, fun g' o hg' ho => ?_⟩
      simp [Value.ownBlock] at hg'
      subst hg'
      rw [cell_of_row _ g o _ e (0, 0) (setRow_heap w g cur _ e (0, 0) hh), cell_of_row w g o cur e (0, 0) hh]
      have : o < (cur.toList.take (n * i.size)).length := by simp; omega
      simp only [List.getElem?_toArray, List.append_assoc]
      rw [List.getElem?_append_left this, List.getElem?_take_of_lt ho, Array.getElem?_toList]
    · have holds : ∀ j u, xs[j]? = some u → w.cell? ((⟨g, 0, none⟩ : Addr).add j) = some u := hown.cells (g := g) rfl
      have hr2 := run_append_grow (P := P) w t ty e i z ht hi hz ⟨g, 0, none⟩ n cap xs hown.1 holds ad m c news hl hnews (by omega) (by simp only [maxLen] at h63; omega) (growslice_fits (by omega) hbytes)
      rw [hr2] at hr
      injection hr with hr1 hr3
      subst hr1
      subst hr3
      refine ⟨fun hm => by omega, .inr fun g' hg' => by simp [Value.ownBlock] at hg'; omega, fun g' o hg' ho => ?_⟩
      simp [Value.ownBlock] at hg'
      subst hg'
      have hlt : g < w.heap.size := (Array.getElem?_eq_some_iff.1 hh).1
      exact (World.cell?_alloc_past _ _ _ (by simpa using hlt)).trans rfl

/-- append onto a slice of the call's own. -/
theorem Rel0.appendOwn (h : Rel0 N w0 pub V s a w) {n : Nat} {x : Bool} {e sz : Nat} {l : List PV} (hm : s.mem n = .obj x e sz l) {t bytes : Nat} {ty : TypeId} (he : eltOf P t = some (e, sz, bytes)) {z : List PV} (hz : zeroPV P e = some z) (hzl : z.length = sz)
    {q : PV} {lb : List PV} {R : List Nat} (hq : Lst s.mem q lb R) (hlb : ∀ e ∈ lb, e.cells.length = sz) {u : Value} (hu : RV pub w V s.mem q u) (hbd : (l.length + lb.length) * bytes ≤ 140737488355328) (hb63 : l.length + lb.length ≤ 4611686018427387904) :
    ∃ v' w', (Builtin.append_ #[t, t] ty #[V n, u]).run P w = .ok v' w' ∧ ∃ pub', (∀ b o, pub b o → pub' b o) ∧ (∀ b o, pub' b o → pub b o ∨ w0.heap.size ≤ b) ∧
      Rel0 N w0 pub' (updV V n v') { s with mem := upd s.mem n (.obj x e sz (l ++ lb)) } a w' := by
  obtain ⟨hu1, i, hi, hi1, hi2⟩ := eltOf_spec he
  obtain ⟨zv, hzv, hzs, _⟩ := zeroPV_spec (P := P) (w := w) (pub := pub) (V := V) hz
  have hiz : i.zero = some zv := by
    simp only [zeroValue, typeInfo, Sem.run_bind, run_program, Result.andThen_ok, hi, Sem.run_pure] at hzv
    cases hzz : i.zero with
    | none => simp [hzz] at hzv
    | some z' => simp [hzz] at hzv; rw [hzv]
  have hmn := h.mem n
  rw [hm] at hmn
  have hmax : l.length + lb.length ≤ maxLen := by simp only [maxLen]; omega
  cases hmn with
  | obj _ _ _ _ xs hs0 hl how hp hq' hc =>
    have hbo : blockOf (V n) = (V n).ownBlock := by
      rcases how.2 with ⟨h1, _⟩ | ⟨g, cap, cur, h1, _⟩ <;> rw [h1] <;> rfl
    rcases hq.src h hu hlb with ⟨cap, hv, hl0⟩ | ⟨ad, cap, news, hv, hnl, hnews, hn1, hnr⟩
    · subst hl0
      have hrun : (Builtin.append_ #[t, t] ty #[V n, u]).run P w = .ok (V n) w := by
        rw [hv]
        rcases how.2 with ⟨h1, h2⟩ | ⟨g, cap', cur, h1, hB, hh, hnc, _⟩
        · rw [h1]
          simp [Builtin.append_, run_underlying hu1, sizeOf, typeInfo, hi, Builtin.lenOf, Builtin.firstCells]
        · rw [h1]
          simp [Builtin.append_, run_underlying hu1, sizeOf, typeInfo, hi, Builtin.lenOf, Builtin.firstCells, hnc, storeCells]
      refine ⟨V n, w, hrun, pub, fun _ _ h => h, fun _ _ h => .inl h, ?_⟩
      have e1 : upd s.mem n (.obj x e sz (l ++ [])) = s.mem := by
        funext k; by_cases hk : k = n
        · subst hk; simp [upd, hm]
        · simp [upd, hk]
      rw [updV_self, e1]; exact h
    · obtain ⟨v', w', hr, ho, hg, hm0, hblk, hpre⟩ := run_append_own2 (P := P) (ty := ty) hu1 hi hiz hi1 hi2 (hzs.trans hzl) hs0 how hnl hnews hn1 hmax hbd h.below.size
      rw [← hv] at hr
      have hbo' : blockOf v' = v'.ownBlock := by
        rcases ho.2 with ⟨h1, _⟩ | ⟨g, cap, cur, h1, _⟩ <;> rw [h1] <;> rfl
      have hfl := flat_length hl
      refine ⟨v', w', hr, fun b o => pub b o ∨ (x = false ∧ v'.ownBlock = some b ∧ o < (l ++ lb).length * sz), fun b o h => .inl h, fun b o ho' => ho'.imp id fun h => (ho.lt b h.2.1).1, ?_⟩
      have hcells : ∀ b o, pub b o → w'.cell? ⟨b, o, none⟩ = w.cell? ⟨b, o, none⟩ := fun b o hpb => by
        by_cases hbn : (V n).ownBlock = some b
        · exact hpre b o hbn (hp b o hbn hpb).2
        · exact World.cell?_of_block (a := ⟨b, o, none⟩) (hg.block b (h.pubLt b o hpb) (fun e => hbn e.symm))
      refine h.touch n (by rw [hm]; intro e; cases e) v' (.obj x e sz (l ++ lb)) (fun e => by cases e) hg.size hg.os hg.tape hg.output (fun k hk hne => hg.block k hk (fun e => hne (by rw [hbo]; exact e.symm)))
        (fun b o h => .inl h) (fun b o ho' => ho'.imp id fun h => by rw [hbo']; exact h.2.1) (fun b hb => (ho.lt b (hbo' ▸ hb)).2) hcells
        (by rw [hbo, hbo']; exact hblk) (fun q u hq => refs_obj hm (by simp) (fun hle => hm0 (by simpa using hle)) hq) (fun t => ?_)
      refine .obj x e sz _ (xs ++ news) hs0 (fun e' he' => ?_) (by rw [List.length_append]; exact ho) (fun g o hg' ho' => ?_) (fun hx g o hg' ho' => .inr ⟨hx, hg', ho'⟩) (fun k c hk => ?_)
      · rcases List.mem_append.1 he' with h' | h'
        · exact hl e' h'
        · exact hlb e' h'
      · rcases ho' with ho' | ho'
        · rcases hblk with hbb | hbb
          · have h1 := hp g o (hbb ▸ hg') ho'
            refine ⟨h1.1, Nat.lt_of_lt_of_le h1.2 (Nat.mul_le_mul_right _ (by simp))⟩
          · have h1 := hbb g hg'
            have h2 := h.pubLt g o ho'
            omega
        · exact ⟨ho'.1, ho'.2.2⟩
      · rw [flat_append] at hk
        have hxs := how.1
        by_cases hlt : k < (flat l).length
        · rw [List.getElem?_append_left hlt] at hk
          have h1 := hc k c hk
          have h2 : (xs ++ news).getD k Go.undef = xs.getD k Go.undef := by
            simp [List.getElem?_append_left (show k < xs.length by omega)]
          rw [h2]; exact ⟨h1.1, t.rep h1.2⟩
        · rw [List.getElem?_append_right (by omega)] at hk
          have h1 := hnr _ c hk
          have h2 : (xs ++ news).getD k Go.undef = news.getD (k - (flat l).length) Go.undef := by
            simp [List.getElem?_append_right (show xs.length ≤ k by omega), hxs, hfl]
          rw [h2]; exact ⟨h1.1, t.rep h1.2⟩
end
end Go.Px
