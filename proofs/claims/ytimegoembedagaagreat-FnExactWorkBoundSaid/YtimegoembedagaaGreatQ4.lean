/-
  PROVED: general facts on pure values, contracts of functions, steps of programs and loops over lists, over any program. No condition beyond those that each theorem names.
-/
import Derived.Shelf.SlSortCmp.InsertionK
import Derived.Test.YtimegoembedagaaGreatQ3
namespace Go.Px
set_option linter.unusedSimpArgs false
set_option linter.unusedVariables false
section
variable {P : Program} {N : Nat} {w0 : Base P} {pub0 : Nat → Nat → Prop} {all : Array Oper} {k : List Item} {Q : St → Prop}
def heirs (all : Array Oper) (i : Nat) : List Nat :=
 (List.range all.size).foldl (fun D j => bif ((all[j]?).map fun o => o.after.any fun e => Region.binds .any e && (Nat.beq e.on i || D.contains e.on)).getD false then j :: D else D) []
def heirsB (all : Array Oper) (i : Nat) (listed : Array Bool) (D : List Nat) : Bool :=
 D.all fun j => !(listed.getD j true) && ((all[j]?).map fun o => o.after.any fun e => Region.binds .any e && (Nat.beq e.on i || D.contains e.on)).getD false
def HeirsOk (all : Array Oper) (i : Nat) (listed : Array Bool) (D : List Nat) : Prop :=
 ∀ d ∈ D, listed.getD d true = false ∧ ∃ o, all[d]? = some o ∧ ∃ e ∈ o.after, Region.binds .any e = true ∧ (e.on = i ∨ e.on ∈ D)
theorem heirsB_spec {i : Nat} {listed : Array Bool} {D : List Nat} (h : heirsB all i listed D = true) : HeirsOk all i listed D := fun d hd => by
 have h1 := List.all_eq_true.1 h d hd
 simp only [Bool.and_eq_true, Bool.not_eq_true'] at h1
 refine ⟨h1.1, ?_⟩
 cases ho : all[d]? with
 | none => rw [ho] at h1; simp at h1
 | some o =>
  rw [ho] at h1
  simp only [Option.map_some, Option.getD_some, Array.any_eq_true, Bool.and_eq_true, Bool.or_eq_true] at h1
  obtain ⟨x, hx, hb, he⟩ := h1.2
  refine ⟨o, rfl, _, Array.getElem_mem hx, hb, ?_⟩
  rcases he with he | he
  ·exact .inl (Nat.eq_of_beq_eq_true he)
  ·exact .inr (by simpa using he)
theorem AAny.first2 {F : Nat → Foot} {K : St → Prop} {i : Nat} {oi : Oper} {D : List Nat} (hi : all[i]? = some oi) : ∀ (fuel : Nat) (listed : Array Bool) (s s1 : St),
  HeirsOk all i listed D →
  (∀ j oj, all[j]? = some oj → j ≠ i → listed.getD j true = false → (∀ e ∈ oj.after, Region.binds .any e = true → e.on ≠ i) → j ∉ D → oi.apart all oj = true ∧ disjB (F i) (F j) = true) →
  i ∈ Region.ready .any all listed → AStep P N all (F i) oi s s1 → AAny P N all F K fuel (listed.setIfInBounds i true) s1 → AAny P N all F K (fuel + 1) listed s := by
 intro fuel
 induction fuel with
 | zero =>
  intro listed s s1 _ _ hr hy H
  refine ⟨fun h => (by rw [h] at hr; cases hr), fun j hj => ?_⟩
  by_cases hji : j = i
  ·subst hji; exact ⟨oi, s1, hi, hy, H⟩
  ·have := ready_mono hj hji
   rw [H.1] at this
   cases this
 | succ fuel ih =>
  intro listed s s1 hD hfree hr hy H
  refine ⟨fun h => (by rw [h] at hr; cases hr), fun j hj => ?_⟩
  by_cases hji : j = i
  ·subst hji; exact ⟨oi, s1, hi, hy, H⟩
  ·obtain ⟨oj, s2, hoj, hs2, H2⟩ := H.2 j (ready_mono hj hji)
   obtain ⟨hjun, oj', hoj', hall⟩ := mem_ready.1 hj
   rw [hoj] at hoj'; cases hoj'
   have hunl : ∀ q, listed.getD q true = false → ∀ e ∈ oj.after, Region.binds .any e = true → e.on ≠ q := fun q h0 e he hb heq => by
    have h1 := hall e he hb
    rw [heq] at h1
    rcases Nat.lt_or_ge q listed.size with h' | h'
    ·simp [h'] at h0 h1; rw [h0] at h1; cases h1
    ·simp [Array.getElem?_eq_none h'] at h1
   have hnot : ∀ e ∈ oj.after, Region.binds .any e = true → e.on ≠ i := hunl i (mem_ready.1 hr).1
   have hjD : j ∉ D := fun hmem => by
    obtain ⟨_, o, ho, e, he, hb, hc⟩ := hD j hmem
    rw [hoj] at ho; cases ho
    rcases hc with hc | hc
    ·exact hnot e he hb hc
    ·exact hunl e.on (hD e.on hc).1 e he hb rfl
   obtain ⟨ha, hd⟩ := hfree j oj hoj hji hjun hnot hjD
   obtain ⟨s', hj', hi'⟩ := AStep.swap ha hd hy hs2
   have hun2 : ∀ q, q ≠ j → listed.getD q true = false → (listed.setIfInBounds j true).getD q true = false := fun q hq h => by
    rw [getD_set_ne true (fun e => hq e.symm)]; exact h
   have hD' : HeirsOk all i (listed.setIfInBounds j true) D := fun d hd => by
    obtain ⟨h1, h2⟩ := hD d hd
    exact ⟨hun2 d (fun e => hjD (e ▸ hd)) h1, h2⟩
   have hfree' : ∀ k ok, all[k]? = some ok → k ≠ i → (listed.setIfInBounds j true).getD k true = false → (∀ e ∈ ok.after, Region.binds .any e = true → e.on ≠ i) → k ∉ D → oi.apart all ok = true ∧ disjB (F i) (F k) = true := fun k ok hk hki hun hno hkD => by
    refine hfree k ok hk hki ?_ hno hkD
    by_cases hjk : j = k
    ·subst hjk; exact hjun
    ·rw [getD_set_ne true hjk] at hun; exact hun
   refine ⟨oj, s', hoj, hj', ih (listed.setIfInBounds j true) s' s2 hD' hfree' (ready_mono hr (Ne.symm hji)) hi' ?_⟩
   rw [Array.setIfInBounds_comm _ _ hji]
   exact H2
def footFrom2 (all : Array Oper) (F : Nat → Foot) : Nat → Nat → Array Bool → Bool
 | 0, _, _ => true
 | fuel + 1, k, listed =>
  heirsB all k listed (heirs all k) && ((List.range all.size).all fun j => j == k || listed.getD j true || (heirs all k).contains j || disjB (F k) (F j)) && footFrom2 all F fuel (k + 1) (listed.setIfInBounds k true)
theorem AAny.lex2 {F : Nat → Foot} {K : St → Prop} : ∀ (l : List Oper) (i : Nat) (listed : Array Bool) (s : St), (∀ j, l[j]? = all[i + j]?) → Region.lexFrom .any all l.length i listed = true → footFrom2 all F l.length i listed = true → SLx P N all F i l s K → AAny P N all F K l.length listed s
 | [], _, _, s, _, hB, _, h => ⟨by simpa [Region.lexFrom] using hB, h⟩
 | o :: l, i, listed, s, hl, hB, hF, h => by
  have h0 : all[i]? = some o := by simpa using (hl 0).symm
  simp only [List.length_cons, Region.lexFrom, Bool.and_eq_true] at hB
  simp only [List.length_cons, footFrom2, Bool.and_eq_true, List.all_eq_true] at hF
  obtain ⟨⟨hr, hf⟩, hB'⟩ := hB
  obtain ⟨s', hs, hK⟩ := h
  refine AAny.first2 (D := heirs all i) h0 l.length listed s s' (heirsB_spec hF.1.1) (fun j oj hj hji hun hno hjD => ⟨Region.free_spec h0 hf j oj hj hji hun hno, ?_⟩) (by simpa using hr) hs
   (AAny.lex2 l (i + 1) _ _ (fun j => by have := hl (j + 1); simpa [Nat.add_assoc, Nat.add_comm 1 j] using this) hB' hF.2 hK)
  have hlt : j < all.size := (Array.getElem?_eq_some_iff.1 hj).1
  have := hF.1.2 j (List.mem_range.2 hlt)
  simp only [Bool.or_eq_true, beq_iff_eq] at this
  rcases this with ((h1 | h1) | h1) | h1
  ·exact absurd h1 hji
  ·rw [hun] at h1; cases h1
  ·exact absurd (by simpa using h1) hjD
  ·exact h1
theorem Run.draw2 {id : Nat} {l : List Oper} {s : St} (F : Nat → Foot) (hm : P.follows .mixedOrders = true) (hB : Region.lexB .any l.toArray = true) (hF : footFrom2 l.toArray F l.length 0 (Array.replicate l.length false) = true)
  (h : SLx P N l.toArray F 0 l s (Run P N Q k)) : Run P N Q (.code (.region id l.toArray true) :: k) s := fun w0 pub0 a w hR => by
 simp only [Region.lexB, Bool.and_eq_true] at hB
 refine wp_region_any hm ?_
 obtain ⟨pub, V, c1, c2, hrel⟩ := hR
 have hR' : Rel N w0 pub0 s a { w with drawn := w.drawn + 1 } := ⟨pub, V, c1, c2, hrel.world ((BelowD.refl _ _).drew)⟩
 refine AAny.sound (F := F) (K := Run P N Q k) (fun s a w hs hR => hs w0 pub0 a w hR) _ _ s a _ ?_ hR'
 have := AAny.lex2 (all := l.toArray) l 0 (Array.replicate l.length false) s (by simp) (by simpa using hB.2) hF h
 simpa using this
end
end Go.Px
namespace Go.Px
set_option linter.unusedSimpArgs false
set_option linter.unusedVariables false
open Go.RowKit Go.Proofs Go.Sort
end Go.Px
namespace Go.Px
set_option linter.unusedSimpArgs false
set_option linter.unusedVariables false
open Go.RowKit Go.Sort Go.Proofs
section
variable {pub : Nat → Nat → Prop} {w w' : World} {V : Nat → Value} {m : Nat → PV} {B : Nat → Prop} {v : Value} {e k : Nat}
end
def sortFL {α : Type} (cf : α → α → Int) (zs : List α) : Option (List α) := if zs.length < 4611686018427387904 then some (zs.mergeSort fun x y => !decide (cf y x < 0)) else none
end Go.Px
namespace Go.Px
set_option linter.unusedSimpArgs false
set_option linter.unusedVariables false
open Go.RowKit
theorem run_buildSliceV {P : Program} {t len e sz by' : Nat} (ht : eltOf P t = some (e, sz, by')) (hsz0 : 0 < sz) (hlen : len * sz ≤ 65536) {z : List PV} (hz : zeroPV P e = some z) (hzl : z.length = sz) (us : List Value) (hus : us.length = len) (husz : ∀ u ∈ us, u.cells.size = sz) (w : World) :
  ∃ arr : Array Value, (Instr.buildSlice t len ((List.range len).zip us).toArray).run P w = .ok (.slice (some ⟨w.heap.size, 0, none⟩) len len) (w.alloc (.cells arr e)) ∧ arr.toList = us.flatMap fun u => u.cells.toList := by
 obtain ⟨hu, x, hx, hx1, hx2⟩ := eltOf_spec ht
 subst hx1
 obtain ⟨zv, hzv, hzs, hzc⟩ := zeroPV_spec (P := P) (w := w) (pub := fun _ _ => False) (V := fun _ => Go.undef) hz
 let Q : PV → Value → Prop := fun c u => c = .undef ∨ c = .lit u
 let ps : List PV := us.map fun u => PV.agg (u.cells.toList.map PV.lit)
 have hsz : ∀ p ∈ ps, p.cells.length = x.size := fun p hp => by
  obtain ⟨u, hu, rfl⟩ := List.mem_map.1 hp
  show (u.cells.toList.map PV.lit).length = _
  rw [List.length_map, Array.length_toList]; exact husz u hu
 have hpl : ps.length = len := by simp [ps, hus]
 have hfs := fillPV_seq (sz := x.size) ps 0 (List.replicate (len * x.size) .undef) hsz (by simp [hpl])
 have hflat := flat_length hsz
 have hfs2 : fillPV (fun i => some (i * x.size, x.size)) (List.replicate (len * x.size) .undef) ((List.range len).zip ps) = some (flat ps) := by
  rw [List.range_eq_range', ← hpl]
  rw [hpl] at hfs ⊢
  rw [hfs]; simp
 have hfill := fill_sound (Q := Q) (place := fun i => some (i * x.size, x.size)) ((List.range len).zip us) ((List.range len).zip ps) ((Array.range (len * x.size)).map (zv.cells[· % zv.cells.size]!)) (List.replicate (len * x.size) .undef) (flat ps)
  (by rw [List.map_fst_zip (by rw [List.length_range, hus]; exact Nat.le_refl _), List.map_fst_zip (by rw [List.length_range, hpl]; exact Nat.le_refl _)]) (fun k iv ip h1 h2 => by
   rw [List.getElem?_zip_eq_some] at h1 h2
   have h3 : ps[k]? = some ip.2 := h2.2
   have h4 : us[k]? = some iv.2 := h1.2
   have h5 : ip.2 = PV.agg (iv.2.cells.toList.map PV.lit) := by
    simp only [ps, List.getElem?_map, h4, Option.map_some, Option.some.injEq] at h3
    exact h3.symm
   rw [h5]
   refine ⟨by show _ = (iv.2.cells.toList.map PV.lit).length; simp, fun j c hj => .inr ?_⟩
   have hj : (iv.2.cells.toList.map PV.lit)[j]? = some c := hj
   rw [List.getElem?_map] at hj
   obtain ⟨u, hu, rfl⟩ := Option.map_eq_some_iff.1 hj
   rw [Array.getElem?_toList] at hu
   simp [hu]) ⟨by simp, fun j c hj => .inl (by
    simp only [List.getElem?_replicate] at hj
    split at hj <;> simp_all)⟩ hfs2
 obtain ⟨arr, h1, h2⟩ := hfill
 have harr : arr.toList = us.flatMap fun u => u.cells.toList := by
  have hfl : flat ps = (us.flatMap fun u => u.cells.toList).map PV.lit := by
   have : ∀ us : List Value, flat (us.map fun u => PV.agg (u.cells.toList.map PV.lit)) = (us.flatMap fun u => u.cells.toList).map PV.lit := by
    intro us
    induction us with
    | nil => rfl
    | cons u us ih => rw [List.map_cons, flat_cons, ih, List.flatMap_cons, List.map_append]; rfl
   exact this us
  have hlen : arr.toList.length = (us.flatMap fun u => u.cells.toList).length := by
   have := h2.1
   rw [hfl, List.length_map] at this
   simpa using this
  refine List.ext_getElem hlen fun j a1 a2 => ?_
  have h3 : (flat ps)[j]? = some (.lit ((us.flatMap fun u => u.cells.toList)[j])) := by
   rw [hfl, List.getElem?_map, List.getElem?_eq_getElem a2]; rfl
  rcases h2.2 j _ h3 with h4 | h4
  ·cases h4
  ·injection h4 with h4
   rw [h4]
   have : j < arr.size := by simpa using a1
   simp [this]
 refine ⟨arr, ?_, harr⟩
 have hin : (((List.range len).zip us).toArray).toList = (List.range len).zip us := by simp
 have hgt : ¬ (len * x.size > 2 ^ 24) := by
  have : (65536 : Nat) ≤ 2 ^ 24 := by decide
  omega
 unfold Instr.buildSlice
 rw [hin]
 simp only [Sem.run_bind, run_underlying hu, Result.andThen_ok]
 by_cases h0 : len * x.size = 0
 ·have h1' : Instr.fill (fun i => some (i * x.size, x.size)) ((Array.range (len * x.size)).map ((#[] : Array Value)[· % (#[] : Array Value).size]!)) ((List.range len).zip us) = some arr := by
   rw [← h1]; congr 1; rw [h0]; simp
  simp [sizeOf, typeInfo, hx, h0]
  rw [h0] at h1'
  simp at h1'
  simp [h1', newRow]
 ·simp [sizeOf, typeInfo, hx, hgt, h0, hzv, h1, newRow]
inductive CellsT (M : List (Nat × PV)) : List PV → List PV → List Nat → Prop where
 | nil : CellsT M [] [] []
 | lit (u : Value) (cs qs : List PV) (G : List Nat) (h : CellsT M cs qs G) : CellsT M (.lit u :: cs) (.lit u :: qs) G
 | nils (cs qs : List PV) (G : List Nat) (h : CellsT M cs qs G) : CellsT M (.nils :: cs) (.nils :: qs) G
 | own (m k e sz : Nat) (l cs qs : List PV) (G : List Nat) (hm : look M m = some (.obj true e sz l)) (hk : k = l.length) (hl : ∀ c ∈ flat l, litC c) (hn : m ∉ G) (h : CellsT M cs qs G) : CellsT M (.own m k :: cs) (.obj true e sz l :: qs) (m :: G)
theorem CellsT.length {M : List (Nat × PV)} {cs qs : List PV} {G : List Nat} (h : CellsT M cs qs G) : qs.length = cs.length := by
 induction h <;> simp_all
def hOf : PV → Value → Value
 | .obj _ _ _ _, v => v
 | _, _ => Go.undef
section
variable {P : Program} {N : Nat} {w0 : Base P} {w w' : World} {pub pub' : Nat → Nat → Prop} {V : Nat → Value} {s : St} {a : Act} {S M S' M' : List (Nat × PV)}
theorem MemOk.rowOk {B : Nat → Prop} {m : Nat → PV} {v : Value} {e sz : Nat} {l : List PV} (h : MemOk pub w V m B v (.obj true e sz l)) (hl : ∀ c ∈ flat l, litC c) : RowOk w B v e sz l := by
 cases h with
 | obj _ _ _ _ xs hsz hmx hll how hp hq hc =>
  refine ⟨xs, hsz, hmx, hll, how, fun i c hi => ?_⟩
  have h1 := hl c (List.mem_of_getElem? hi)
  obtain ⟨h2, h3⟩ := hc i c hi
  cases c with
  | lit x => cases h3 with | lit _ h4 => exact ⟨_, rfl, h4, rfl⟩
  | _ => exact h1.elim
theorem CellsT.ok (hR : Rel0 N w0 pub V (St.of S M) a w) {cs qs : List PV} {G : List Nat} (h : CellsT M cs qs G) : ∀ (vs : List Value), vs.length = cs.length → (∀ (j : Nat) c v, cs[j]? = some c → vs[j]? = some v → RV pub w V (St.of S M).mem c v) →
  (∀ (j : Nat) q v, qs[j]? = some q → vs[j]? = some v → TCell w w0.O q v (hOf q v) ∧ v.oneCell' = true) ∧ ((List.zipWith hOf qs vs).flatMap fun u => u.ownBlock.toList).Nodup ∧
  ∀ g ∈ (List.zipWith hOf qs vs).flatMap fun u => u.ownBlock.toList, ∃ m ∈ G, (St.of S M).mem m ≠ .undef ∧ inB (V m) g ∧ ∀ o, ¬ pub g o := by
 induction h with
 | nil => intro vs hv _; exact ⟨fun j q v h => by simp at h, by simp, fun g hg => by simp at hg⟩
 | lit u cs qs G _ ih =>
  intro vs hv hrv
  match vs, hv with
  | v :: vs, hv =>
   obtain ⟨h1, h2, h3⟩ := ih vs (by simpa using hv) (fun j c v a1 a2 => hrv (j + 1) c v (by simpa using a1) (by simpa using a2))
   have h0 := (hrv 0 _ v rfl rfl).lit_inv
   refine ⟨fun j q x a1 a2 => ?_, by rw [List.zipWith_cons_cons, List.flatMap_cons]; exact h2, fun g hg => h3 g (by rw [List.zipWith_cons_cons, List.flatMap_cons] at hg; exact hg)⟩
   cases j with
   | zero =>
    simp at a1 a2; subst a1; subst a2
    exact ⟨.inl ⟨by rw [h0.1], by rw [h0.1]; exact h0.2, rfl⟩, by rw [h0.1]; exact h0.2⟩
   | succ j => exact h1 j q x (by simpa using a1) (by simpa using a2)
 | nils cs qs G _ ih =>
  intro vs hv hrv
  match vs, hv with
  | v :: vs, hv =>
   obtain ⟨h1, h2, h3⟩ := ih vs (by simpa using hv) (fun j c v a1 a2 => hrv (j + 1) c v (by simpa using a1) (by simpa using a2))
   have h0 := (hrv 0 _ v rfl rfl).nils_inv
   refine ⟨fun j q x a1 a2 => ?_, by rw [List.zipWith_cons_cons, List.flatMap_cons]; exact h2, fun g hg => h3 g (by rw [List.zipWith_cons_cons, List.flatMap_cons] at hg; exact hg)⟩
   cases j with
   | zero =>
    simp at a1 a2; subst a1; subst a2
    exact ⟨.inr (.inl ⟨rfl, h0, rfl⟩), by rw [h0]; rfl⟩
   | succ j => exact h1 j q x (by simpa using a1) (by simpa using a2)
 | own m k e sz l cs qs G hm hk hl hn _ ih =>
  intro vs hv hrv
  match vs, hv with
  | v :: vs, hv =>
   obtain ⟨h1, h2, h3⟩ := ih vs (by simpa using hv) (fun j c v a1 a2 => hrv (j + 1) c v (by simpa using a1) (by simpa using a2))
   obtain ⟨x', e', sz', l', hm', _, hv'⟩ := (hrv 0 _ v rfl rfl).own_inv (by intro eg; first | (rw [hm] at eg; cases eg; done) | (rw [look_mem hm] at eg; cases eg; done) | (rw [hk] at eg; cases eg; done) | (simp_all; done))
   rw [look_mem hm] at hm'; cases hm'
   have hvV := hv' hk
   have hmn := hR.mem m
   rw [look_mem hm, ← hvV] at hmn
   have hne : (St.of S M).mem m ≠ .undef := by rw [look_mem hm]; intro e; cases e
   have hob := hmn.obj_block
   have hinB : ∀ g, v.ownBlock = some g → inB (V m) g := fun g hg => .inl (by rw [← hvV, hob.1]; exact hg)
   have hnp : ∀ g o, v.ownBlock = some g → ¬ pub g o := fun g o hg => hmn.excl (.inl ⟨_, _, _, rfl⟩) (.inl (by rw [hob.1]; exact hg))
   refine ⟨fun j q x a1 a2 => ?_, ?_, fun g hg => ?_⟩
   ·cases j with
    | zero =>
     simp at a1 a2; subst a1; subst a2
     exact ⟨.inr (.inr ⟨e, sz, l, rfl, rfl, hmn.rowOk hl⟩), hmn.slice_val.1⟩
    | succ j => exact h1 j q x (by simpa using a1) (by simpa using a2)
   ·rw [List.zipWith_cons_cons, List.flatMap_cons]
    refine List.nodup_append.2 ⟨by show (v.ownBlock.toList).Nodup; cases v.ownBlock <;> simp, h2, fun g1 hg1 g2 hg2 e => ?_⟩
    subst e
    obtain ⟨m2, hm2, hu2, hb2, _⟩ := h3 g1 hg2
    have hg1' : v.ownBlock = some g1 := by simpa [hOf] using hg1
    have := hR.apart m m2 g1 hne hu2 (hinB g1 hg1') hb2
    subst this
    exact hn hm2
   ·rw [List.zipWith_cons_cons, List.flatMap_cons, List.mem_append] at hg
    rcases hg with hg | hg
    ·have hg' : v.ownBlock = some g := by simpa [hOf] using hg
     exact ⟨m, List.mem_cons_self .., hne, hinB g hg', fun o => hnp g o hg'⟩
    ·obtain ⟨m2, hm2, r⟩ := h3 g hg
     exact ⟨m2, List.mem_cons_of_mem _ hm2, r⟩
theorem CellsT.values {p : PV} {u : Value} {qs : List PV} {G : List Nat} (hR : Rel0 N w0 pub V (St.of S M) a w) (h : CellsT M p.cells qs G) (hv : RV pub w V (St.of S M).mem p u) : u.cells.size = p.cells.length ∧ ∀ (j : Nat) c v, p.cells[j]? = some c → u.cells.toList[j]? = some v → RV pub w V (St.of S M).mem c v := by
 have one : ∀ (hp : p.cells = [p]) (h1 : u.cells = #[u]), u.cells.size = p.cells.length ∧ ∀ (j : Nat) c v, p.cells[j]? = some c → u.cells.toList[j]? = some v → RV pub w V (St.of S M).mem c v := fun hp h1 => by
  rw [hp, h1]
  refine ⟨rfl, fun j c v a1 a2 => ?_⟩
  have hj : j = 0 := by have := (List.getElem?_eq_some_iff.1 a1).1; simpa using this
  subst hj
  simp at a1 a2
  subst a1; subst a2; exact hv
 cases p with
 | agg cs =>
  obtain ⟨arr, rfl, hs, hc⟩ := hv.agg_inv
  refine ⟨hs, fun j c v a1 a2 => ?_⟩
  have : arr.getD j Go.undef = v := by
   have a2 : arr.toList[j]? = some v := a2
   rw [Array.getElem?_toList] at a2; simp [a2]
  rw [← this]
  exact (hc j c a1).2
 | lit x =>
  refine one rfl ?_
  have := hv.lit_inv
  rw [this.1]
  have h1 := this.2
  cases x <;> first | rfl | cases h1
 | nils => exact one rfl (by rw [hv.nils_inv]; rfl)
 | own m k =>
  refine one rfl ?_
  have h : CellsT M [.own m k] qs G := h
  cases h with
  | own _ _ e sz l _ qs G hm hk hl hn h =>
   obtain ⟨x', e', sz', l', hm', _, hv'⟩ := hv.own_inv (by intro eg; first | (rw [hm] at eg; cases eg; done) | (rw [look_mem hm] at eg; cases eg; done) | (rw [hk] at eg; cases eg; done) | (simp_all; done))
   rw [look_mem hm] at hm'; cases hm'
   have hmn := hR.mem m
   rw [look_mem hm, ← hv' hk] at hmn
   have h2 := hmn.slice_val.2
   cases u <;> first | rfl | exact absurd rfl (h2 _)
 | _ =>
  exfalso
  have h2 := h
  simp only [PV.cells] at h2
  cases h2
theorem memB_false {n : Nat} : ∀ {L : List (Nat × PV)}, memB n (L.map (·.1)) = false → look L n = none
 | [], _ => rfl
 | (m, p) :: L, h => by
  have h : (bif Nat.beq m n then true else memB n (L.map (·.1))) = false := h
  show (bif Nat.beq m n then some p else look L n) = none
  cases hb : Nat.beq m n with
  | true => rw [hb] at h; cases h
  | false => rw [hb] at h; exact memB_false h
theorem look_ne {n k : Nat} {L : List (Nat × PV)} (hn : memB n (L.map (·.1)) = false) (hk : (St.of S L).mem k ≠ .undef) : k ≠ n := fun e => by
 subst e
 exact hk (look_none (memB_false hn))
theorem Rel0.unnamed (h : Rel0 N w0 pub V s a w) (hb : BelowB w0 w w') (h1 : ∀ k g, s.mem k ≠ .undef → inB (V k) g → w'.heap[g]? = w.heap[g]?) (h2 : ∀ g o, pub g o → w'.heap[g]? = w.heap[g]?) : Rel0 N w0 pub V s a w' := by
 have t : Tr pub w V s.mem pub w' V s.mem (fun _ => False) :=
  ⟨fun _ _ h => h, fun b o ho => cellOB' (h2 b o ho), fun _ _ h => h, fun _ _ _ => rfl, fun _ _ => rfl, fun n g _ hu hg => ⟨h1 n g hu hg, fun _ ho => ho⟩, fun _ _ _ hT => hT.elim⟩
 exact h.turn t hb (fun _ _ => rfl) (fun b o ho => Nat.lt_of_lt_of_le (h.pubLt b o ho) hb.size) (fun _ hn => hn.elim) (fun n k g hne h1 h2 h3 h4 => hne (h.apart n k g h1 h2 h3 h4)) (fun _ _ _ h => h) (fun b o ho hb0 => by rw [frozenOB' (h2 b o ho)]; exact h.soft b o ho hb0)
end
section
variable {P : Program} {N : Nat} {Q : St → Prop} {k : List Item} {S M S' M' : List (Nat × PV)} {all : Array Oper} {rest : List Oper} {d : Nat} {ty : TypeId} {pos : String} {after : Array Edge}
theorem notIn_names {G : List Nat} (hG : (G.all fun n => !memB n (M'.map (·.1))) = true) {n : Nat} (hn : n ∈ G) : memB n (M'.map (·.1)) = false := by
 have := List.all_eq_true.1 hG n hn
 simpa using this
theorem Run.buildT1 {t e sz by' : Nat} {y : Operand} {p q : PV} {z : List PV} {G : List Nat} (ht : eltOf P t = some (e, sz, by')) (hsz0 : Nat.ble 1 sz = true) (hsz1 : Nat.ble sz 65536 = true) (hz : zeroPV P e = some z) (hzl : z.length = sz) (hy : evO S y = some p) (hc : CellsT M p.cells q.cells G) (hql : q.cells.length = sz)
  (hS : AllLook S S') (hM : AllLook M M') (hG : (G.all fun n => !memB n (M'.map (·.1))) = true) (hd0 : look M' (64 * d) = none) (hr : (S'.all fun q => refsB 3 (M'.map (·.1)) q.2) = true) (hrm : (M'.all fun q => refsM (M'.map (·.1)) q.2) = true) (hd : Nat.ble (d + 1) N = true)
  (h : Run P N Q (.ops all rest :: k) (St.of ((d, .tref (64 * d) 1 .out) :: S') ((64 * d, .tre e sz [q]) :: M'))) :
  Run P N Q (.ops all (⟨some d, .buildSlice t 1 #[(0, y)], ty, pos, after, none⟩ :: rest) :: k) (St.of S M) := fun w0 pub0 a w hR => by
 obtain ⟨pub, V, c1, c2, hrel⟩ := hR
 have hye := hrel.ev y
 rw [evO_spec (M := M) hy] at hye
 obtain ⟨hv1, hv2⟩ := hc.values hrel hye
 have hql' := hc.length
 have hus : (a.eval y).cells.size = sz := by rw [hv1, ← hql', hql]
 have hsz0' : 0 < sz := Nat.le_of_ble_eq_true hsz0
 have hsz1' : sz ≤ 65536 := Nat.le_of_ble_eq_true hsz1
 obtain ⟨arr, hrun, harr⟩ := run_buildSliceV (P := P) ht hsz0' (len := 1) (by omega) hz hzl [a.eval y] rfl (fun u hu => by simp at hu; subst hu; exact hus) w
 have harr : arr.toList = (a.eval y).cells.toList := by simpa using harr
 obtain ⟨k1, k2, k3⟩ := hc.ok hrel (a.eval y).cells.toList (by rw [Array.length_toList, hv1]) hv2
 have hrel1 := hrel.world ((BelowD.refl _ _).alloc (Nat.le_refl _) (.cells arr e))
 have hrel2 := hrel1.sub hS hM hr hrm
 have hnew : ∀ g, g < w.heap.size → (w.alloc (.cells arr e)).heap[g]? = w.heap[g]? := fun g hg => by
  show (w.heap.push _)[g]? = _
  rw [Array.getElem?_push_lt hg]
  exact (Array.getElem?_eq_getElem hg).symm
 let hs := List.zipWith hOf q.cells arr.toList
 have hhs : hs.length = sz := by
  show (List.zipWith hOf q.cells arr.toList).length = sz
  rw [List.length_zipWith, hql, harr, Array.length_toList, hus]; exact Nat.min_self _
 have hin : ∀ g, g ∈ hs.flatMap (fun u => u.ownBlock.toList) → g < w.heap.size ∧ w0.O g ∧ (∀ o, ¬ pub g o) ∧ ∃ m ∈ G, (St.of S M).mem m ≠ .undef ∧ inB (V m) g := fun g hg => by
  have hg' : g ∈ (List.zipWith hOf q.cells (a.eval y).cells.toList).flatMap fun u => u.ownBlock.toList := by rw [← harr]; exact hg
  obtain ⟨m, hm, hu, hb, hp⟩ := k3 g hg'
  refine ⟨(hrel.mem m).block_lt hu hb, ?_, hp, m, hm, hu, hb⟩
  obtain ⟨i, hi, hgi⟩ := hs_cell hg'
  have hi1 : i < q.cells.length := by rw [List.length_zipWith] at hi; omega
  have hi2 : i < (a.eval y).cells.toList.length := by rw [List.length_zipWith] at hi; omega
  have htc := (k1 i _ _ (List.getElem?_eq_getElem hi1) (List.getElem?_eq_getElem hi2)).1
  have e1 : (List.zipWith hOf q.cells (a.eval y).cells.toList).getD i Go.undef = hOf q.cells[i] (a.eval y).cells.toList[i] := by
   rw [List.getD_eq_getElem?_getD, List.getElem?_eq_getElem hi]; simp
  rw [e1] at hgi
  rcases htc with ⟨_, _, e⟩ | ⟨_, _, e⟩ | ⟨e2, sz2, l2, _, e, ys, _, _, _, h4, _⟩
  ·rw [e] at hgi; cases hgi
  ·rw [e] at hgi; cases hgi
  ·rw [e] at hgi; exact h4.2 g hgi
 have hflq : flat [q] = q.cells := by rw [flat_cons, flat_nil, List.append_nil]
 have hmem : MemOk pub (w.alloc (.cells arr e)) (fun _ => Go.undef) (fun _ => .undef) w0.O (treV (.slice (some ⟨w.heap.size, 0, none⟩) 1 1) hs) (.tre e sz [q]) := by
  refine .tre e sz [q] _ hs arr.toList rfl hsz0' (by simp) (fun p hp => by simp at hp; subst hp; exact hql) ⟨rowG.of (base := 0) ⟨by rw [harr, Array.length_toList, hus]; simp, .inr ⟨w.heap.size, 1, arr, rfl, Nat.zero_le _, heap_alloc_new w _, Nat.le_refl _, by decide, ?_, ?_⟩⟩ (eltOf_lt ht), fun g hg => ?_⟩ (by rw [hhs]; simp) ?_ (fun g o hg => ?_) (fun i c hi => ?_)
  ·have : arr.size = arr.toList.length := by simp
   rw [this, harr, Array.length_toList, hus]; simp
  ·rw [List.take_of_length_le]
   have : arr.toList.length = sz := by rw [harr, Array.length_toList, hus]
   simp only [List.length_singleton]; omega
  ·simp [Value.ownBlock] at hg; subst hg; exact .inl hrel.below.size
  ·refine List.nodup_append.2 ⟨by simp [Value.ownBlock], by show (hs.flatMap _).Nodup; rw [show hs = List.zipWith hOf q.cells (a.eval y).cells.toList from by rw [← harr]]; exact k2, fun g1 h1 g2 h2 e => ?_⟩
   simp [Value.ownBlock] at h1
   have := (hin g2 h2).1
   omega
  ·rcases List.mem_append.1 hg with h1 | h1
   ·simp [Value.ownBlock] at h1
    intro ho
    have := hrel.pubLt g o ho
    omega
   ·exact (hin g h1).2.2.1 o
  ·rw [hflq] at hi
   have hi1 : i < q.cells.length := (List.getElem?_eq_some_iff.1 hi).1
   have hi2 : i < (a.eval y).cells.toList.length := by rw [Array.length_toList, hus]; omega
   have htc := (k1 i c _ hi (List.getElem?_eq_getElem hi2)).1
   have e0 : arr.toList.getD i Go.undef = (a.eval y).cells.toList[i] := by
    rw [harr, List.getD_eq_getElem?_getD, List.getElem?_eq_getElem hi2]; rfl
   have e1 : hs.getD i Go.undef = hOf c (a.eval y).cells.toList[i] := by
    have h3 : hs[i]? = some (hOf c (a.eval y).cells.toList[i]) := by
     show (List.zipWith hOf q.cells arr.toList)[i]? = _
     rw [List.getElem?_zipWith, hi, harr, List.getElem?_eq_getElem hi2]
    rw [List.getD_eq_getElem?_getD, h3]; rfl
   rw [e0, e1]
   exact htc.of_block fun g hg => hnew g (hin g (by
    have h3 : hs[i]? = some (hOf c (a.eval y).cells.toList[i]) := by
     show (List.zipWith hOf q.cells arr.toList)[i]? = _
     rw [List.getElem?_zipWith, hi, harr, List.getElem?_eq_getElem hi2]
    exact List.mem_flatMap.2 ⟨_, List.mem_of_getElem? h3, by simpa using hg⟩)).1
 have h0 : (St.of S' M').mem (64 * d) = .undef := look_none hd0
 obtain ⟨h3, _⟩ := hrel2.adoptT (64 * d) (by omega) h0 (fun _ h => h) hmem (fun j g hj hg hgt => by
  have hj1 : (St.of S M).mem j ≠ .undef := by
   cases hk' : look M' j with
   | none => exact absurd (look_none hk') hj
   | some p =>
    rw [look_mem (hM.at hk')]
    rw [look_mem hk'] at hj; exact hj
  rcases List.mem_append.1 hgt with h1 | h1
  ·simp [Value.ownBlock] at h1
   have := (hrel.mem j).block_lt hj1 hg
   omega
  ·obtain ⟨_, _, _, m, hm, hu, hb⟩ := hin g h1
   have := hrel.apart j m g hj1 hu hg hb
   exact look_ne (notIn_names hG hm) hj this)
 have e3 : (⟨(St.of S' M').slot, upd (St.of S' M').mem (64 * d) (.tre e sz [q])⟩ : St) = St.of S' ((64 * d, .tre e sz [q]) :: M') := congrArg (fun m => St.mk (St.of S' M').slot m) (look_upd M' (64 * d) _)
 rw [e3] at h3
 have hl0 : look ((64 * d, PV.tre e sz [q]) :: M') (64 * d) = some (.tre e sz [q]) := by
  show (bif Nat.beq (64 * d) (64 * d) then _ else _) = _
  rw [Nat.beq_refl]; rfl
 have h5 := h3.put d (Nat.le_of_ble_eq_true hd) (p := .tref (64 * d) 1 .out) (v := .slice (some ⟨w.heap.size, 0, none⟩) 1 1) (.ref (.tref (64 * d) 1 .out _ e sz [q] (look_mem hl0) (Nat.le_refl _) (fun _ => by rw [updV_same]; exact ⟨_, hs, rfl, rfl⟩)))
 have e4 : (⟨upd (St.of S' ((64 * d, .tre e sz [q]) :: M')).slot d (.tref (64 * d) 1 .out), (St.of S' ((64 * d, .tre e sz [q]) :: M')).mem⟩ : St) = St.of ((d, .tref (64 * d) 1 .out) :: S') ((64 * d, .tre e sz [q]) :: M') := congrArg (fun m => St.mk m (St.of S' ((64 * d, .tre e sz [q]) :: M')).mem) (look_upd S' d _)
 rw [e4] at h5
 refine wpList_plain rfl fun K hK => ?_
 unfold Oper.wp
 have hrun' : (execOp a.eval ⟨some d, .buildSlice t 1 #[(0, y)], ty, pos, after, none⟩).run P w = .ok (.value (.slice (some ⟨w.heap.size, 0, none⟩) 1 1)) (w.alloc (.cells arr e)) := by
  have : ((List.range 1).zip [a.eval y]).toArray = #[(0, a.eval y)] := rfl
  rw [this] at hrun
  have e5 : (#[(0, y)] : Array (Nat × Operand)).map (fun (i, y) => (i, a.eval y)) = #[(0, a.eval y)] := by simp
  have := run_value (P := P) hrun
  rw [← e5] at this
  exact this
 rw [hrun']
 exact hK _ _ (h w0 pub0 _ _ ⟨pub, _, c1, c2, h5⟩)
end
end Go.Px
namespace Go.Px
set_option linter.unusedSimpArgs false
set_option linter.unusedVariables false
open Go.RowKit
section
variable {P : Program} {N : Nat} {Q : St → Prop} {k : List Item} {S M S' M' : List (Nat × PV)} {all : Array Oper} {rest : List Oper} {d : Nat} {ty : TypeId} {pos : String} {after : Array Edge}
theorem Rel0.takeT {w0 : Base P} {w : World} {pub : Nat → Nat → Prop} {V V' : Nat → Value} {m' : Nat → PV} {a : Act} {n e sz : Nat} {l : List PV} {v0 : Value} {hs : List Value} (h : Rel0 N w0 pub V (St.of S M) a w) (hn63 : n % 64 ≠ 63) (hn : look M n = none) (hm : MemOk pub w V' m' w0.O (treV v0 hs) (.tre e sz l)) (hap : ∀ k g, (St.of S M).mem k ≠ .undef → inB (V k) g → g ∈ treBs v0 hs → False) (d : Nat) (hd : d < N) :
  Rel0 N w0 pub (updV V n (treV v0 hs)) (St.of ((d, .tref n l.length .out) :: S) ((n, .tre e sz l) :: M)) (a.put (some d) v0) w := by
 have h3 := (h.adoptT n hn63 (look_none hn) (fun _ h => h) hm hap).1
 have e3 : (⟨(St.of S M).slot, upd (St.of S M).mem n (.tre e sz l)⟩ : St) = St.of S ((n, .tre e sz l) :: M) := congrArg (fun m => St.mk (St.of S M).slot m) (look_upd M n _)
 rw [e3] at h3
 have hl0 : look ((n, PV.tre e sz l) :: M) n = some (.tre e sz l) := by
  show (bif Nat.beq n n then _ else _) = _
  rw [Nat.beq_refl]; rfl
 have h5 := h3.put d hd (p := .tref n l.length .out) (v := v0) (.ref (.tref n _ .out _ e sz l (look_mem hl0) (Nat.le_refl _) (fun _ => by rw [updV_same]; exact ⟨_, hs, rfl, rfl⟩)))
 have e4 : (⟨upd (St.of S ((n, .tre e sz l) :: M)).slot d (.tref n l.length .out), (St.of S ((n, .tre e sz l) :: M)).mem⟩ : St) = St.of ((d, .tref n l.length .out) :: S) ((n, .tre e sz l) :: M) := congrArg (fun m => St.mk m (St.of S ((n, .tre e sz l) :: M)).mem) (look_upd S d _)
 rw [e4] at h5
 exact h5
theorem Run.buildT0 {t e sz by' : Nat} {z : List PV} (ht : eltOf P t = some (e, sz, by')) (hsz0 : Nat.ble 1 sz = true) (hz : zeroPV P e = some z) (hzl : z.length = sz) (hd0 : look M (64 * d) = none) (hd : Nat.ble (d + 1) N = true)
  (h : Run P N Q (.ops all rest :: k) (St.of ((d, .tref (64 * d) 0 .out) :: S) ((64 * d, .tre e sz []) :: M))) :
  Run P N Q (.ops all (⟨some d, .buildSlice t 0 #[], ty, pos, after, none⟩ :: rest) :: k) (St.of S M) := fun w0 pub0 a w hR => by
 obtain ⟨pub, V, c1, c2, hrel⟩ := hR
 have hsz0' : 0 < sz := Nat.le_of_ble_eq_true hsz0
 obtain ⟨arr, hrun, harr⟩ := run_buildSliceV (P := P) ht hsz0' (len := 0) (by omega) hz hzl [] rfl (fun u hu => by cases hu) w
 have harr : arr.toList = [] := by simpa using harr
 have hrel1 := hrel.world ((BelowD.refl _ _).alloc (Nat.le_refl _) (.cells arr e))
 have hmem : MemOk pub (w.alloc (.cells arr e)) (fun _ => Go.undef) (fun _ => .undef) w0.O (treV (.slice (some ⟨w.heap.size, 0, none⟩) 0 0) []) (.tre e sz []) := by
  refine .tre e sz [] _ [] [] rfl hsz0' (by simp) (fun p hp => by cases hp) ⟨rowG.of (base := 0) ⟨by simp, .inr ⟨w.heap.size, 0, arr, rfl, Nat.zero_le _, heap_alloc_new w _, Nat.le_refl _, by decide, ?_, by simp⟩⟩ (eltOf_lt ht), fun g hg => ?_⟩ (by simp) (by simp [treBs, Value.ownBlock]) (fun g o hg ho => ?_) (fun i c hi => by simp at hi)
  ·have : arr.size = arr.toList.length := by simp
   rw [this, harr]; simp
  ·simp [Value.ownBlock] at hg; subst hg; exact .inl hrel.below.size
  ·simp [treBs, Value.ownBlock] at hg
   have := hrel.pubLt g o ho
   omega
 have h5 := hrel1.takeT (n := 64 * d) (by omega) hd0 hmem (fun j g hj hg hgt => by
  simp [treBs, Value.ownBlock] at hgt
  have := (hrel.mem j).block_lt hj hg
  omega) d (Nat.le_of_ble_eq_true hd)
 refine wpList_plain rfl fun K hK => ?_
 unfold Oper.wp
 have hrun' : (execOp a.eval ⟨some d, .buildSlice t 0 #[], ty, pos, after, none⟩).run P w = .ok (.value (.slice (some ⟨w.heap.size, 0, none⟩) 0 0)) (w.alloc (.cells arr e)) := by
  have e5 : (#[] : Array (Nat × Operand)).map (fun (i, y) => (i, a.eval y)) = ((List.range 0).zip ([] : List Value)).toArray := by simp
  have := run_value (P := P) hrun
  rw [← e5] at this
  exact this
 rw [hrun']
 exact hK _ _ (h w0 pub0 _ _ ⟨pub, _, c1, c2, h5⟩)
theorem Run.appT {t e sz by' n n2 j j2 : Nat} {x y : Operand} {z l l2 lr : List PV} (hlr : l ++ l2 = lr) (ht : eltOf P t = some (e, sz, by')) (hby : Nat.ble by' 128 = true) (hz : zeroPV P e = some z) (hzl : z.length = sz) (hx : evO S x = some (.tref n j .out)) (hm : look M n = some (.tre e sz l)) (hj : j = l.length) (hy : evO S y = some (.tref n2 j2 .out)) (hm2 : look M n2 = some (.tre e sz l2)) (hj2 : j2 = l2.length) (hne : Nat.beq n n2 = false) (hl2 : Nat.ble 1 l2.length = true) (hbd : l.length + l2.length ≤ 1099511627776) (hn63 : Nat.beq (n % 64) 63 = false)
  (hS : AllLook S S') (hM : AllLook M M') (hn : memB n (M'.map (·.1)) = false) (hn2 : memB n2 (M'.map (·.1)) = false) (hr : (S'.all fun q => refsB 3 (M'.map (·.1)) q.2) = true) (hrm : (M'.all fun q => refsM (M'.map (·.1)) q.2) = true) (hd : Nat.ble (d + 1) N = true)
  (h : Run P N Q (.ops all rest :: k) (St.of ((d, .tref n lr.length .out) :: S') ((n, .tre e sz lr) :: M'))) :
  Run P N Q (.ops all (⟨some d, .call { callee := .builtin .append, args := #[x, y], argTypes := #[t, t] }, ty, pos, after, none⟩ :: rest) :: k) (St.of S M) := fun w0 pub0 a w hR => by
 subst hlr
 obtain ⟨pub, V, c1, c2, hrel⟩ := hR
 have hn63' : n % 64 ≠ 63 := fun e => by rw [e] at hn63; cases hn63
 have hnn : n ≠ n2 := fun e => by subst e; rw [Nat.beq_refl] at hne; cases hne
 have hl2' : 1 ≤ l2.length := Nat.le_of_ble_eq_true hl2
 have hxe := hrel.ev x
 rw [evO_spec (M := M) hx] at hxe
 obtain ⟨e1, sz1, l1, hm1, _, hv⟩ := hxe.tref_inv
 rw [look_mem hm] at hm1; cases hm1
 obtain ⟨v0, hs, hV, hvx⟩ := hv hj
 have hye := hrel.ev y
 rw [evO_spec (M := M) hy] at hye
 obtain ⟨e1, sz1, l1, hm1, _, hv2⟩ := hye.tref_inv
 rw [look_mem hm2] at hm1; cases hm1
 obtain ⟨u0, ks, hV2, hvy⟩ := hv2 hj2
 have hmn := hrel.mem n
 have hmn2 := hrel.mem n2
 rw [look_mem hm, hV] at hmn
 rw [look_mem hm2, hV2] at hmn2
 have hu1 : (St.of S M).mem n ≠ .undef := by rw [look_mem hm]; intro e; cases e
 have hu2 : (St.of S M).mem n2 ≠ .undef := by rw [look_mem hm2]; intro e; cases e
 have hap : ∀ g, g ∈ treBs v0 hs → g ∈ treBs u0 ks → False := fun g h1 h2 => hnn (hrel.apart n n2 g hu1 hu2 (by rw [hV]; exact inB_tre.2 h1) (by rw [hV2]; exact inB_tre.2 h2))
 have hblk1 := fun g (hg : g ∈ treBs v0 hs) => hmn.tre_block (inB_tre.2 hg)
 have hblk2 := fun g (hg : g ∈ treBs u0 ks) => hmn2.tre_block (inB_tre.2 hg)
 obtain ⟨hu, i, hi, hi1, hi2⟩ := eltOf_spec ht
 obtain ⟨zv, hzv, hzs, _⟩ := zeroPV_spec (P := P) (w := w) (pub := pub) (V := V) hz
 have hiz : i.zero = some zv := by
  simp only [zeroValue, typeInfo, Sem.run_bind, run_program, Result.andThen_ok, hi, Sem.run_pure] at hzv
  cases hzz : i.zero with
  | none => simp [hzz] at hzv
  | some z' => simp [hzz] at hzv; rw [hzv]
 cases hmn with
 | tre _ _ _ v1 hs1 xs hv1 hsz hmx hl how hhl hnd hp hc =>
  obtain ⟨rfl, rfl⟩ := treV_inj hv1
  cases hmn2 with
  | tre _ _ _ v2 ks1 xs2 hv2' hsz2 hmx2 hll2 how2 hhl2 hnd2 hp2 hc2 =>
   obtain ⟨rfl, rfl⟩ := treV_inj hv2'
   have hxs2 := how2.1.1
   obtain ⟨g2, cap2, cur2, hu0, _, ⟨fr2, hh2, hfr2⟩, hn2c, hcm2, hcs2, htk2⟩ := how2.1.2.resolve_left (fun h => by have := h.2; omega)
   have hnews : ∀ (j : Nat) u, xs2[j]? = some u → w.cell? ((⟨g2, 0, none⟩ : Addr).add j) = some u := how2.1.cells (g := g2) (by rw [hu0]; rfl)
   have hone2 : ∀ u ∈ xs2, u.oneCell' = true := fun u hu => by
    obtain ⟨i, hi, rfl⟩ := List.mem_iff_getElem.1 hu
    have hfl : i < (flat l2).length := by rw [flat_length hll2]; omega
    have e : xs2.getD i Go.undef = xs2[i] := by rw [List.getD_eq_getElem?_getD, List.getElem?_eq_getElem hi]; rfl
    rcases hc2 i _ (List.getElem?_eq_getElem hfl) with ⟨_, h, _⟩ | ⟨_, h, _⟩ | ⟨e2, sz2, rl, _, _, ys, _, _, _, h4, _⟩
    ·rw [← e]; exact h
    ·rw [← e, h]; rfl
    ·rw [← e]
     rcases h4.1.2 with ⟨h, _⟩ | ⟨_, _, _, h, _⟩ <;> rw [h] <;> rfl
   have hmax : l.length + l2.length ≤ maxLen := by simp only [maxLen]; omega
   have hbd2 : (l.length + l2.length) * by' ≤ 140737488355328 := Nat.le_trans (Nat.mul_le_mul hbd (Nat.le_of_ble_eq_true hby)) (by decide)
   obtain ⟨v', w', hrun, ho, hg, hm0, hblk, hpre, hfro⟩ := run_append_own2 (P := P) (ty := 0) hu hi hiz hi1 hi2 (hzs.trans hzl) hsz (how.1.plain (eltOf_lt ht)) (ad := ⟨g2, 0, none⟩) (c := cap2) hxs2 hnews hone2 hmax hbd2 (Nat.zero_le _)
   have hoB : ∀ g, v'.ownBlock = some g → w0.O g := fun g hg' => by
    rcases hblk with hbb | hbb
    ·exact how.2 g (hbb ▸ hg')
    ·exact .inl (Nat.le_trans hrel.below.size (hbb g hg'))
   have hdr := run_drawn P _ _ _ _ hrun
   have hbel : BelowB w0 w w' := ⟨hg.os, hg.tape, hg.output, hg.size, fun q hq => hg.block q (by
    have h1 : ¬ w0.w.heap.size ≤ q := fun e => hq (.inl e)
    have h2 : w0.w.heap.size ≤ w.heap.size := hrel.below.size
    omega) (fun e => hq (how.2 q e.symm)), hdr⟩
   have hkey : ∀ j, (St.of S' M').mem j ≠ .undef → (St.of S M).mem j ≠ .undef ∧ j ≠ n ∧ j ≠ n2 := fun j hj => ⟨by
    cases hk' : look M' j with
    | none => exact absurd (look_none hk') hj
    | some p =>
     rw [look_mem (hM.at hk')]
     rw [look_mem hk'] at hj; exact hj, look_ne hn hj, look_ne hn2 hj⟩
   have hst : ∀ g, g < w.heap.size → v0.ownBlock ≠ some g → w'.heap[g]? = w.heap[g]? := fun g h1 h2 => hg.block g h1 (fun e => h2 e.symm)
   have hrel2 := (hrel.sub hS hM hr hrm).unnamed hbel (fun j g hj hgj => by
    obtain ⟨a1, a2, _⟩ := hkey j hj
    exact hst g ((hrel.mem j).block_lt a1 hgj) (fun e => a2 (hrel.apart j n g a1 hu1 hgj (by rw [hV]; exact inB_tre.2 (treBs_mem0 e))))) (fun g o hpo => hst g (hrel.pubLt g o hpo) (fun e => hp g o (treBs_mem0 e) hpo))
   have hrow1 : ∀ g, g ∈ hs.flatMap (fun u => u.ownBlock.toList) → g < w.heap.size ∧ v0.ownBlock ≠ some g := fun g hgr => ⟨(hblk1 g (List.mem_append.2 (.inr hgr))).1.2, fun e => (List.nodup_append.1 hnd).2.2 g (by simp [e]) g hgr rfl⟩
   have hrow2 : ∀ g, g ∈ ks.flatMap (fun u => u.ownBlock.toList) → g < w.heap.size ∧ v0.ownBlock ≠ some g := fun g hgr => ⟨(hblk2 g (List.mem_append.2 (.inr hgr))).1.2, fun e => hap g (treBs_mem0 e) (List.mem_append.2 (.inr hgr))⟩
   have hv'r : ∀ g, v'.ownBlock = some g → g ∈ hs.flatMap (fun u => u.ownBlock.toList) ∨ g ∈ ks.flatMap (fun u => u.ownBlock.toList) → False := fun g hg' hin => by
    rcases hblk with hbb | hbb
    ·rw [hbb] at hg'
     rcases hin with h | h
     ·exact (hrow1 g h).2 hg'
     ·exact (hrow2 g h).2 hg'
    ·have := hbb g hg'
     rcases hin with h | h
     ·have := (hrow1 g h).1; omega
     ·have := (hrow2 g h).1; omega
   have hbs : treBs v' (hs ++ ks) = v'.ownBlock.toList ++ (hs.flatMap (fun u => u.ownBlock.toList) ++ ks.flatMap fun u => u.ownBlock.toList) := by
    unfold treBs; rw [List.flatMap_append]
   have hfl := flat_length hl
   have hmem : MemOk pub w' (fun _ => Go.undef) (fun _ => .undef) w0.O (treV v' (hs ++ ks)) (.tre e sz (l ++ l2)) := by
    refine .tre e sz _ v' (hs ++ ks) (xs ++ xs2) rfl hsz (by rw [List.length_append]; exact hmax) (fun q hq => ?_) ⟨by rw [List.length_append]; exact .of ho (eltOf_lt ht), hoB⟩ (by rw [List.length_append, List.length_append, hhl, hhl2, Nat.add_mul]) ?_ (fun g o hgt => ?_) (fun i c hi => ?_)
    ·rcases List.mem_append.1 hq with h1 | h1
     ·exact hl q h1
     ·exact hll2 q h1
    ·rw [hbs]
     refine List.nodup_append.2 ⟨by cases v'.ownBlock <;> simp, List.nodup_append.2 ⟨(List.nodup_append.1 hnd).2.1, (List.nodup_append.1 hnd2).2.1, fun g1 h1 g2 h2 e => ?_⟩, fun g1 h1 g2 h2 e => ?_⟩
     ·subst e
      exact hap g1 (List.mem_append.2 (.inr h1)) (List.mem_append.2 (.inr h2))
     ·subst e
      exact hv'r g1 (by simpa using h1) (List.mem_append.1 h2)
    ·rw [hbs] at hgt
     rcases List.mem_append.1 hgt with h1 | h1
     ·have h1 : v'.ownBlock = some g := by simpa using h1
      rcases hblk with hbb | hbb
      ·exact hp g o (treBs_mem0 (hbb ▸ h1))
      ·intro hpo
       have := hbb g h1
       have := hrel.pubLt g o hpo
       omega
     ·rcases List.mem_append.1 h1 with h1 | h1
      ·exact hp g o (List.mem_append.2 (.inr h1))
      ·exact hp2 g o (List.mem_append.2 (.inr h1))
    ·rw [flat_append] at hi
     have hxs := how.1.1
     by_cases hlt : i < (flat l).length
     ·rw [List.getElem?_append_left hlt] at hi
      have h1 := hc i c hi
      have h2 : (xs ++ xs2).getD i Go.undef = xs.getD i Go.undef := by
       simp [List.getElem?_append_left (show i < xs.length by omega)]
      have h3 : (hs ++ ks).getD i Go.undef = hs.getD i Go.undef := by
       simp [List.getElem?_append_left (show i < hs.length by omega)]
      rw [h2, h3]
      refine h1.of_block fun g hgr => ?_
      have h4 : g ∈ hs.flatMap (fun u => u.ownBlock.toList) := by
       have hil : i < hs.length := by omega
       refine List.mem_flatMap.2 ⟨hs[i], List.getElem_mem hil, ?_⟩
       rw [List.getD_eq_getElem?_getD, List.getElem?_eq_getElem hil] at hgr
       simpa using hgr
      exact hst g (hrow1 g h4).1 (hrow1 g h4).2
     ·rw [List.getElem?_append_right (by omega)] at hi
      have h1 := hc2 _ c hi
      have h2 : (xs ++ xs2).getD i Go.undef = xs2.getD (i - (flat l).length) Go.undef := by
       simp [List.getElem?_append_right (show xs.length ≤ i by omega), hxs, hfl]
      have h3 : (hs ++ ks).getD i Go.undef = ks.getD (i - (flat l).length) Go.undef := by
       simp [List.getElem?_append_right (show hs.length ≤ i by omega), hhl, hfl]
      rw [h2, h3]
      refine h1.of_block fun g hgr => ?_
      have hil : i - (flat l).length < ks.length := by
       have := (List.getElem?_eq_some_iff.1 hi).1
       rw [flat_length hll2] at this
       omega
      have h4 : g ∈ ks.flatMap (fun u => u.ownBlock.toList) := by
       refine List.mem_flatMap.2 ⟨ks[i - (flat l).length], List.getElem_mem hil, ?_⟩
       rw [List.getD_eq_getElem?_getD, List.getElem?_eq_getElem hil] at hgr
       simpa using hgr
      exact hst g (hrow2 g h4).1 (hrow2 g h4).2
   have h5 := hrel2.takeT (n := n) hn63' (memB_false hn) hmem (fun j g hj hgj hgt => by
    obtain ⟨a1, a2, a3⟩ := hkey j hj
    rw [hbs] at hgt
    rcases List.mem_append.1 hgt with h1 | h1
    ·have h1 : v'.ownBlock = some g := by simpa using h1
     rcases hblk with hbb | hbb
     ·exact a2 (hrel.apart j n g a1 hu1 hgj (by rw [hV]; exact inB_tre.2 (treBs_mem0 (hbb ▸ h1))))
     ·have := hbb g h1
      have := (hrel.mem j).block_lt a1 hgj
      omega
    ·rcases List.mem_append.1 h1 with h1 | h1
     ·exact a2 (hrel.apart j n g a1 hu1 hgj (by rw [hV]; exact inB_tre.2 (List.mem_append.2 (.inr h1))))
     ·exact a3 (hrel.apart j n2 g a1 hu2 hgj (by rw [hV2]; exact inB_tre.2 (List.mem_append.2 (.inr h1))))) d (Nat.le_of_ble_eq_true hd)
   refine wpList_plain rfl fun K hK => ?_
   unfold Oper.wp
   have hrun' : (execOp a.eval ⟨some d, .call { callee := .builtin .append, args := #[x, y], argTypes := #[t, t] }, ty, pos, after, none⟩).run P w = .ok (.value v') w' := by
    have hr' : (Builtin.append_ #[t, t] ty #[a.eval x, a.eval y]).run P w = .ok v' w' := by rw [hvx, hvy, hu0]; exact hrun
    simp [execOp, resolve, invoke, builtin, hr']
   rw [hrun']
   exact hK _ _ (h w0 pub0 _ _ ⟨pub, _, c1, c2, h5⟩)
end
end Go.Px
namespace Go.Px
set_option linter.unusedSimpArgs false
set_option linter.unusedVariables false
open Go.RowKit
section
variable {P : Program} {N : Nat} {w0 : Base P} {w w' : World} {pub pub' : Nat → Nat → Prop} {V : Nat → Value} {s : St} {a : Act}
theorem MemOk.tre_cell {B : Nat → Prop} {m : Nat → PV} {v0 : Value} {hs : List Value} {e sz : Nat} {l : List PV} (h : MemOk pub w V m B (treV v0 hs) (.tre e sz l)) {i : Nat} {c : PV} (hi : (flat l)[i]? = some c) :
  ∃ g cap x, v0 = .slice (some ⟨g, 0, none⟩) l.length cap ∧ w.cell? ⟨g, i, none⟩ = some x ∧ x.oneCell' = true ∧ TCell w B c x (hs.getD i Go.undef) ∧ w.frozen? ⟨g, i, none⟩ = false ∧ i < hs.length := by
 cases h with
 | tre _ _ _ v1 ks xs hv hsz hmx hl how hhl hnd hp hc =>
  obtain ⟨rfl, rfl⟩ := treV_inj hv
  have hfl := flat_length hl
  have hil : i < (flat l).length := (List.getElem?_eq_some_iff.1 hi).1
  have hpos : 0 < l.length := by
   rcases Nat.eq_zero_or_pos l.length with h | h
   ·rw [h] at hfl; omega
   ·exact h
  obtain ⟨g, cap, cur, k1, _, ⟨fr, k2, hfr⟩, k3, k4, k5, k6⟩ := how.1.2.resolve_left (fun h => by have := h.2; omega)
  have hxs := how.1.1
  have hlt2 : i < l.length * sz := by omega
  have h7 : cur.toList[i]? = xs[i]? := by rw [← k6, List.getElem?_take_of_lt hlt2]
  have hcl : w.cell? ⟨g, i, none⟩ = some (xs.getD i Go.undef) := by
   simp only [World.cell?, k2, Option.isSome_none, Bool.false_eq_true, if_false]
   rw [← Array.getElem?_toList, h7]
   have : i < xs.length := by omega
   simp [this]
  have htc := hc i c hi
  refine ⟨g, cap, _, k1, hcl, ?_, htc, not_frozen k2 hfr ?_, by omega⟩
  ·rcases htc with ⟨_, h, _⟩ | ⟨_, h, _⟩ | ⟨e2, sz2, rl, _, _, ys, _, _, _, h4, _⟩
   ·exact h
   ·rw [h]; rfl
   ·rcases h4.1.2 with ⟨h, _⟩ | ⟨_, _, _, h, _⟩ <;> rw [h] <;> rfl
  ·have hle : l.length * sz ≤ cap * sz := Nat.mul_le_mul_right _ k3
   omega
theorem Rel0.turnTre (h : Rel0 N w0 pub V s a w) {n e sz : Nat} {l l2 : List PV} {v0 : Value} {hs : List Value} (hm : s.mem n = .tre e sz l) (hV : V n = treV v0 hs) (hlen : l2.length = l.length) (hsh : ShapeL l l2) (hsize : w.heap.size ≤ w'.heap.size) (hos : w'.os = w.os) (htape : w'.tape = w.tape) (hout : w'.output = w.output) (hdr : w.drawn ≤ w'.drawn)
  (hblocks : ∀ g, g < w.heap.size → g ∉ treBs v0 hs → w'.heap[g]? = w.heap[g]?) (p1 : ∀ b o, pub b o → pub' b o) (p2 : ∀ b o, pub' b o → pub b o ∨ w.heap.size ≤ b) (p3 : ∀ b o, pub' b o → b < w'.heap.size ∧ (w.heap.size ≤ b → w'.frozen? ⟨b, o, none⟩ = false))
  (hok : MemOk pub' w' (fun _ => Go.undef) (fun _ => .undef) w0.O (treV v0 hs) (.tre e sz l2)) :
  Rel0 N w0 pub' V { s with mem := upd s.mem n (.tre e sz l2) } a w' ∧ ∀ p v, RV pub w V s.mem p v → RV pub' w' V (upd s.mem n (.tre e sz l2)) p v := by
 have hmn := h.mem n
 rw [hm, hV] at hmn
 have hu : s.mem n ≠ .undef := by rw [hm]; intro e; cases e
 have hbk := fun g (hg : g ∈ treBs v0 hs) => hmn.tre_block (inB_tre.2 hg)
 have refs : ∀ q u, RefOk V s.mem q u → RefOk V (upd s.mem n (.tre e sz l2)) q u := by
  intro q u hq
  cases hq with
  | own k j _ x e sz l hm' hk hh =>
   have hne : k ≠ n := fun e => by rw [e, hm] at hm'; cases hm'
   exact .own k j u x e sz l ((upd_ne _ _ hne).trans hm') hk hh
  | gone k _ _ hm' =>
   have hne : k ≠ n := fun e => by rw [e, hm] at hm'; cases hm'
   exact .gone k _ _ ((upd_ne _ _ hne).trans hm')
  | goneE k _ _ _ _ hm' =>
   have hne : k ≠ n := fun e => by rw [e, hm] at hm'; cases hm'
   exact .goneE k _ _ _ _ ((upd_ne _ _ hne).trans hm')
  | goneO k _ _ _ _ hm' =>
   have hne : k ≠ n := fun e => by rw [e, hm] at hm'; cases hm'
   exact .goneO k _ _ _ _ ((upd_ne _ _ hne).trans hm')
  | lptr k off x cs b hm' hv =>
   have hne : k ≠ n := fun e => by rw [e, hm] at hm'; cases hm'
   exact .lptr k off x cs b ((upd_ne _ _ hne).trans hm') hv
  | eptr k j i off _ x e sz l hm' hk hh =>
   have hne : k ≠ n := fun e => by rw [e, hm] at hm'; cases hm'
   exact .eptr k j i off u x e sz l ((upd_ne _ _ hne).trans hm') hk hh
  | osl k j i i2 _ x e sz l hm' hk hij hh =>
   have hne : k ≠ n := fun e => by rw [e, hm] at hm'; cases hm'
   exact .osl k j i i2 u x e sz l ((upd_ne _ _ hne).trans hm') hk hij hh
  | clo k1 f1 ns1 arr1 hs1 hc1 =>
   refine .clo k1 f1 ns1 arr1 hs1 (fun j1 c1 hj1 => ?_)
   have h0 := hc1 j1 c1 hj1
   generalize arr1.getD j1 Go.undef = y1 at h0 ⊢
   cases h0 with
   | lptr _ _ x cs b hm' hv =>
    have hne : c1 ≠ n := fun e => by rw [e, hm] at hm'; cases hm'
    exact .lptr c1 0 x cs b ((upd_ne _ _ hne).trans hm') hv
  | tref k j tp _ e' sz' l' hm' hk hh =>
   by_cases hne : k = n
   ·subst hne
    rw [hm] at hm'; cases hm'
    exact .tref k j tp u e sz l2 (upd_same _ _ _) (by omega) (fun e => (hh (by omega)).shape hlen hsh)
   ·exact .tref k j tp u e' sz' l' ((upd_ne _ _ hne).trans hm') hk hh
 have hnpub : ∀ g o, pub g o → g ∉ treBs v0 hs := fun g o ho hg => (hbk g hg).2 o ho
 have t : Tr pub w V s.mem pub' w' V (upd s.mem n (.tre e sz l2)) (fun k => k = n) :=
  ⟨p1, fun b o ho => cellOB' (hblocks b (h.pubLt b o ho) (hnpub b o ho)), refs, fun _ _ _ => rfl, fun k hk => upd_ne _ _ hk,
  fun k g hk hu' hg => ⟨hblocks g ((h.mem k).block_lt hu' hg) (fun e => hk (h.apart k n g hu' hu hg (by rw [hV]; exact inB_tre.2 e))), fun o ho => (p2 g o ho).resolve_right (by have := (h.mem k).block_lt hu' hg; omega)⟩, fun c s' own hT hm' => by subst hT; rw [hm] at hm'; cases hm'⟩
 have hbel : BelowB w0 w w' := ⟨hos, htape, hout, hsize, fun k hk => hblocks k (by
  have h1 : ¬ w0.w.heap.size ≤ k := fun e => hk (.inl e)
  have h2 : w0.w.heap.size ≤ w.heap.size := h.below.size
  omega) (fun e => hk (hbk k e).1.1), hdr⟩
 refine ⟨h.turn t hbel (fun _ _ => rfl) (fun b o ho => (p3 b o ho).1) (fun k hk => ?_) (fun i k g hne h1 h2 h3 h4 => ?_) (fun i own _ hmi => by
  by_cases hi : i = n
  ·subst hi; rw [upd_same] at hmi; cases hmi
  ·rwa [upd_ne _ _ hi] at hmi) (fun b o ho hb0 => by
  by_cases hn : w.heap.size ≤ b
  ·exact (p3 b o ho).2 hn
  ·have ho1 := (p2 b o ho).resolve_right hn
   rw [frozenOB' (hblocks b (by omega) (hnpub b o ho1))]
   exact h.soft b o ho1 hb0), fun p u hu => t.rv hu⟩
 ·subst hk
  rw [upd_same, hV]
  exact hok.tre_rebase fun _ h => h
 ·have f : ∀ j, upd s.mem n (.tre e sz l2) j ≠ .undef → s.mem j ≠ .undef := fun j hj => by
   by_cases e : j = n
   ·rw [e]; exact hu
   ·rwa [upd_ne _ _ e] at hj
  exact hne (h.apart i k g (f i h1) (f k h2) h3 h4)
theorem flat_setC {sz : Nat} : ∀ {l : List PV} (hl : ∀ q ∈ l, q.cells.length = sz) {i off : Nat} {el ne c : PV}, l[i]? = some el → ne.cells = el.cells.set off c → off < sz → flat (l.set i ne) = (flat l).set (i * sz + off) c
 | [], _, i, off, el, ne, c, h, _, _ => by simp at h
 | x :: l, hl, 0, off, el, ne, c, h, hc, ho => by
  simp at h; subst h
  have hx := hl x (List.mem_cons_self ..)
  rw [List.set_cons_zero, flat_cons, flat_cons, hc, Nat.zero_mul, Nat.zero_add, List.set_append, if_pos (by omega)]
 | x :: l, hl, i + 1, off, el, ne, c, h, hc, ho => by
  have hx := hl x (List.mem_cons_self ..)
  rw [List.set_cons_succ, flat_cons, flat_cons, flat_setC (fun q hq => hl q (List.mem_cons_of_mem _ hq)) (by simpa using h) hc ho, List.set_append, if_neg (by rw [hx, Nat.add_mul]; omega), hx]
  congr 2
  rw [Nat.add_mul]; omega
theorem flat_at2 {sz : Nat} {l : List PV} (hl : ∀ q ∈ l, q.cells.length = sz) {i off : Nat} {el c : PV} (hi : l[i]? = some el) (hc : el.cells[off]? = some c) : (flat l)[i * sz + off]? = some c := flat_get hl hi hc
end
section
variable {P : Program} {N : Nat} {Q : St → Prop} {k : List Item} {S M S' M' : List (Nat × PV)} {all : Array Oper} {rest : List Oper} {d : Nat} {ty : TypeId} {pos : String} {after : Array Edge}
end
end Go.Px
namespace Go.Px
set_option linter.unusedSimpArgs false
set_option linter.unusedVariables false
open Go.RowKit
theorem setCell_heap {w : World} {g q T : Nat} {cur : Array Value} {fr : Nat × Nat} {v : Value} (hh : w.heap[g]? = some (.cells cur T fr)) : (w.setCell ⟨g, q, none⟩ v).heap[g]? = some (.cells (cur.setIfInBounds q v) T fr) := by
 simp [World.setCell, Array.getElem?_modify, hh]
theorem setCell_other {w : World} {g q k : Nat} {v : Value} (h : k ≠ g) : (w.setCell ⟨g, q, none⟩ v).heap[k]? = w.heap[k]? := by
 simp [World.setCell, Array.getElem?_modify, Ne.symm h]
section
variable {w w' : World} {pub pub' : Nat → Nat → Prop} {V : Nat → Value} {m : Nat → PV} {B : Nat → Prop}
theorem hs_block {hs : List Value} {i g : Nat} (hi : i < hs.length) (hg : (hs.getD i Go.undef).ownBlock = some g) : g ∈ hs.flatMap fun u => u.ownBlock.toList := by
 refine List.mem_flatMap.2 ⟨hs[i], List.getElem_mem hi, ?_⟩
 rw [List.getD_eq_getElem?_getD, List.getElem?_eq_getElem hi] at hg
 simpa using hg
theorem flatMap_nodup_ne : ∀ {hs : List Value} {i j g : Nat}, (hs.flatMap fun u => u.ownBlock.toList).Nodup → i < hs.length → j < hs.length → i ≠ j → (hs.getD i Go.undef).ownBlock = some g → (hs.getD j Go.undef).ownBlock = some g → False
 | [], i, j, g, _, hi, _, _, _, _ => by simp at hi
 | x :: hs, 0, 0, g, _, _, _, h, _, _ => h rfl
 | x :: hs, 0, j + 1, g, hn, _, hj, _, h1, h2 => by
  rw [List.flatMap_cons] at hn
  exact (List.nodup_append.1 hn).2.2 g (by simpa using h1) g (hs_block (hs := hs) (i := j) (by simpa using hj) (by simpa using h2)) rfl
 | x :: hs, i + 1, 0, g, hn, hi, _, _, h1, h2 => by
  rw [List.flatMap_cons] at hn
  exact (List.nodup_append.1 hn).2.2 g (by simpa using h2) g (hs_block (hs := hs) (i := i) (by simpa using hi) (by simpa using h1)) rfl
 | x :: hs, i + 1, j + 1, g, hn, hi, hj, h, h1, h2 => by
  rw [List.flatMap_cons] at hn
  exact flatMap_nodup_ne (List.nodup_append.1 hn).2.1 (by simpa using hi) (by simpa using hj) (by omega) (by simpa using h1) (by simpa using h2)
theorem shapeL_set {l l2 : List PV} {q : Nat} {c d : PV} (hq : (flat l)[q]? = some c) (hfl : flat l2 = (flat l).set q d) (hcd : ∀ e sz rl, c = .obj true e sz rl → ∃ rl', d = .obj true e sz rl' ∧ rl'.length = rl.length) : ShapeL l l2 := fun i e sz rl hi => by
 have hql : q < (flat l).length := (List.getElem?_eq_some_iff.1 hq).1
 rw [hfl, List.getElem?_set]
 by_cases hqi : q = i
 ·subst hqi
  rw [if_pos rfl, if_pos hql]
  rw [hq] at hi
  cases hi
  obtain ⟨rl', rfl, h⟩ := hcd e sz rl rfl
  exact ⟨rl', rfl, h⟩
 ·rw [if_neg hqi]
  exact ⟨rl, hi, rfl⟩
end
section
variable {P : Program} {N : Nat} {Q : St → Prop} {k : List Item} {S M S' M' : List (Nat × PV)} {all : Array Oper} {rest : List Oper} {d : Nat} {ty : TypeId} {pos : String} {after : Array Edge}
end
end Go.Px
namespace Go.Px
set_option linter.unusedSimpArgs false
set_option linter.unusedVariables false
open Go.RowKit
section
variable {P : Program} {N : Nat} {Q : St → Prop} {k : List Item} {S M : List (Nat × PV)}
theorem R.fin1t {fn : Func} {t n j e sz : Nat} {l : List PV} {r : PV} (hres : fn.results = #[.tmp t]) (hv : look S t = some (.tref n j .out)) (hm : look M n = some (.tre e sz l)) (hj : j = l.length) (hr : .tre e sz l = r) : Run P N (Fin P fn r) (.code .ret :: k) (St.of S M) :=
 Run.ret ⟨[.tref n j .out], [.tre e sz l], [n], by rw [hres]; exact .tmp t _ [] [] (look_slot hv) .nil, .tre n j e sz l [] [] [] (look_mem hm) hj (by simp) .nil, hr⟩
theorem R.fin1tn {fn : Func} {t e sz : Nat} {r : PV} (hres : fn.results = #[.tmp t]) (hv : look S t = some .nils) (hsz : 0 < sz) (hr : .tre e sz [] = r) : Run P N (Fin P fn r) (.code .ret :: k) (St.of S M) :=
 Run.ret ⟨[.nils], [.tre e sz []], [], by rw [hres]; exact .tmp t _ [] [] (look_slot hv) .nil, .nilsT e sz [] [] [] hsz .nil, hr⟩
end
def relT1 (n j : Nat) : PV → PV
 | .tref m k .out => bif Nat.beq m n then .tref m j .out else .tref m k .out
 | p => p
def relT (n j : Nat) (S : List (Nat × PV)) : List (Nat × PV) := S.map fun q => (q.1, relT1 n j q.2)
def lensT1 (n : Nat) : PV → List Nat
 | .tref m k .out => bif Nat.beq m n then [k] else []
 | _ => []
def lensT (n : Nat) (S : List (Nat × PV)) : List Nat := S.flatMap fun q => lensT1 n q.2
def AllLen (j : Nat) : List Nat → Prop
 | [] => True
 | k :: ks => k = j ∧ AllLen j ks
theorem AllLen.mem {j : Nat} : ∀ {ks : List Nat}, AllLen j ks → ∀ k ∈ ks, k = j
 | [], _, k, hk => by cases hk
 | x :: ks, h, k, hk => by
  rcases List.mem_cons.1 hk with e | e
  ·rw [e]; exact h.1
  ·exact h.2.mem k e
section
variable {P : Program} {N : Nat} {S M : List (Nat × PV)} {all : Array Oper} {F : Nat → Foot} {i : Nat} {rest : List Oper} {K : St → Prop} {d : Nat} {ty : TypeId} {pos : String} {after : Array Edge}
theorem X.lenT {t e' sz' by' : Nat} {x : Operand} {n k e sz : Nat} {l : List PV} {z : Int} (ht : eltOf P t = some (e', sz', by')) (hx : evO S x = some (.tref n k .out)) (hm : look M n = some (.tre e sz l)) (hk : k = l.length) (hz : (l.length : Int) = z) (hd : Nat.ble (d + 1) N = true) (hF : (F i).okB [n] [] = true) (h : SLx P N all F (i + 1) rest (St.of ((d, .lit (.int .i64 z)) :: S) M) K) :
  SLx P N all F i (⟨some d, .call { callee := .builtin .len, args := #[x], argTypes := #[t] }, ty, pos, after, none⟩ :: rest) (St.of S M) K := by
 subst hz
 exact X.ofOp (U := []) (R := [n]) (.lenT t x n k e' sz' by' e sz l ht (evO_spec hx) (look_mem hm) hk) hd hF h
theorem X.callTr {fo : Operand} {args : Array Operand} {ats : Array TypeId} {f : FuncId} {caps ps ps' ps2 : List PV} {e sz : Nat} {l : List PV} {R : List Nat} {C : List (Nat × Nat)} (hc : PC P f ps2 (.tre e sz l)) (hf : evO S fo = some (.fn f caps)) (hps : evL S args.toList = some ps) (hp : purL M ps = some (ps', R, C))
  (hC : AllEq C) (ha : ps' ++ caps = ps2) (hm : look M (64 * d) = none) (hd : Nat.ble (d + 1) N = true) (hF : (F i).okB R [64 * d] = true) (h : SLx P N all F (i + 1) rest (St.of ((d, .tref (64 * d) l.length .out) :: S) ((64 * d, .tre e sz l) :: M)) K) :
  SLx P N all F i (⟨some d, .call { callee := .value fo, args := args, argTypes := ats }, ty, pos, after, none⟩ :: rest) (St.of S M) K :=
 X.call hf hps hp hC ha hc (.tre _ e sz l [] [] [] _ (.nil _)) (fun q hq => by simp at hq; subst hq; exact ⟨hm, by show 64 * d % 64 ≠ 63; omega⟩) hd hF h
end
section
variable {P : Program} {N : Nat} {Q : St → Prop} {k : List Item} {S M : List (Nat × PV)} {all : Array Oper} {rest : List Oper} {d : Nat} {ty : TypeId} {pos : String} {after : Array Edge}
end
end Go.Px
namespace Go.Px
set_option linter.unusedSimpArgs false
set_option linter.unusedVariables false
open Go.RowKit
section
variable {w w' : World} {pub pub' : Nat → Nat → Prop} {V : Nat → Value} {m : Nat → PV} {B : Nat → Prop}
theorem RowOk.cell {u : Value} {e sz : Nat} {l : List PV} (h : RowOk w B u e sz l) {i : Nat} {x : Value} (hi : (flat l)[i]? = some (.lit x)) :
  ∃ g cap, u = .slice (some ⟨g, 0, none⟩) l.length cap ∧ w.cell? ⟨g, i, none⟩ = some x ∧ x.oneCell' = true ∧ w.frozen? ⟨g, i, none⟩ = false := by
 obtain ⟨ys, hsz, hmx, hl, how, hc⟩ := h
 have hfl := flat_length hl
 have hil : i < (flat l).length := (List.getElem?_eq_some_iff.1 hi).1
 have hpos : 0 < l.length := by
  rcases Nat.eq_zero_or_pos l.length with h | h
  ·rw [h] at hfl; omega
  ·exact h
 obtain ⟨g, cap, cur, k1, _, ⟨fr, k2, hfr⟩, k3, k4, k5, k6⟩ := how.1.2.resolve_left (fun h => by have := h.2; omega)
 have hxs := how.1.1
 have hlt2 : i < l.length * sz := by omega
 have h7 : cur.toList[i]? = ys[i]? := by rw [← k6, List.getElem?_take_of_lt hlt2]
 have hcl : w.cell? ⟨g, i, none⟩ = some (ys.getD i Go.undef) := by
  simp only [World.cell?, k2, Option.isSome_none, Bool.false_eq_true, if_false]
  rw [← Array.getElem?_toList, h7]
  have : i < ys.length := by omega
  simp [this]
 obtain ⟨x', e1, e2, e3⟩ := hc i _ hi
 cases e1
 refine ⟨g, cap, k1, by rw [hcl, e3], e2, not_frozen k2 hfr ?_⟩
 have hle : l.length * sz ≤ cap * sz := Nat.mul_le_mul_right _ k3
 omega
theorem RowOk.set {u u1 : Value} {e sz g cap i : Nat} {l l2 : List PV} (h : RowOk w B u e sz l) (hu : u = .slice (some ⟨g, 0, none⟩) l.length cap) (hi : i < (flat l).length) (h1 : u1.oneCell' = true) (hlen : l2.length = l.length) (hl2 : ∀ p ∈ l2, p.cells.length = sz) (hfl : flat l2 = (flat l).set i (.lit u1)) :
  RowOk (w.setCell ⟨g, i, none⟩ u1) B u e sz l2 := by
 obtain ⟨ys, hsz, hmx, hl, how, hc⟩ := h
 have hfll := flat_length hl
 rcases how.1.2 with ⟨k1, k2⟩ | ⟨g', cap', cur, k1, k0, ⟨fr, k2, hfr⟩, k3, k4, k5, k6⟩
 ·rw [hu] at k1; cases k1
 rw [hu] at k1
 simp only [Value.slice.injEq, Option.some.injEq, Addr.mk.injEq, and_true, true_and] at k1
 obtain ⟨rfl, rfl⟩ := k1
 have hxs := how.1.1
 refine ⟨ys.set i u1, hsz, by omega, hl2, ⟨⟨by rw [List.length_set, hlen]; exact hxs, .inr ⟨g, cap, _, by rw [hlen]; exact hu, k0, ⟨fr, setCell_heap k2, hfr.size (by simp)⟩, by omega, k4, by simpa using k5, ?_⟩⟩, how.2⟩, fun j c hj => ?_⟩
 ·rw [hlen, Array.toList_setIfInBounds, List.take_set, k6]
 ·rw [hfl, List.getElem?_set] at hj
  by_cases hij : i = j
  ·subst hij
   rw [if_pos rfl, if_pos hi] at hj
   cases hj
   exact ⟨u1, rfl, h1, by rw [List.getD_eq_getElem?_getD, List.getElem?_set_self (by omega)]; rfl⟩
  ·rw [if_neg hij] at hj
   obtain ⟨x, e1, e2, e3⟩ := hc j c hj
   exact ⟨x, e1, e2, by rw [List.getD_eq_getElem?_getD, List.getElem?_set_ne hij, ← List.getD_eq_getElem?_getD]; exact e3⟩
theorem MemOk.tre_row {v0 : Value} {hs : List Value} {e sz q e2 sz2 : Nat} {l rl : List PV} (h : MemOk pub w V m B (treV v0 hs) (.tre e sz l)) (hq : (flat l)[q]? = some (.obj true e2 sz2 rl)) : RowOk w B (hs.getD q Go.undef) e2 sz2 rl ∧ q < hs.length := by
 obtain ⟨g, cap, x, _, _, _, htc, _, hqh⟩ := h.tre_cell hq
 refine ⟨?_, hqh⟩
 rcases htc with ⟨h, _⟩ | ⟨h, _⟩ | ⟨_, _, _, h, e, hr⟩
 ·cases h
 ·cases h
 ·cases h
  rw [e]; exact hr
theorem MemOk.tre_rowset {v0 : Value} {hs : List Value} {e sz q e2 sz2 g cap i : Nat} {l l2 rl rl2 : List PV} {u1 : Value} (h : MemOk pub w V m B (treV v0 hs) (.tre e sz l)) (hq : (flat l)[q]? = some (.obj true e2 sz2 rl)) (hg : hs.getD q Go.undef = .slice (some ⟨g, 0, none⟩) rl.length cap)
  (hi : i < (flat rl).length) (h1 : u1.oneCell' = true) (hrl : rl2.length = rl.length) (hrl2 : ∀ p ∈ rl2, p.cells.length = sz2) (hfr : flat rl2 = (flat rl).set i (.lit u1)) (hlen : l2.length = l.length) (hl2 : ∀ p ∈ l2, p.cells.length = sz) (hfl : flat l2 = (flat l).set q (.obj true e2 sz2 rl2)) :
  MemOk pub (w.setCell ⟨g, i, none⟩ u1) V m B (treV v0 hs) (.tre e sz l2) := by
 obtain ⟨hrow, hqh⟩ := h.tre_row hq
 have hrow' := hrow.set hg hi h1 hrl hrl2 hfr
 have hgb : (hs.getD q Go.undef).ownBlock = some g := by rw [hg]; rfl
 cases h with
 | tre _ _ _ v1 ks xs hv hsz hmx hl how hhl hnd hp hcc =>
  obtain ⟨rfl, rfl⟩ := treV_inj hv
  have hql : q < (flat l).length := (List.getElem?_eq_some_iff.1 hq).1
  have hne0 : ∀ b, v0.ownBlock = some b → b ≠ g := fun b hb e => (List.nodup_append.1 hnd).2.2 b (by simp [hb]) b (hs_block hqh (by rw [hgb, e])) rfl
  have hfll := flat_length hl
  refine .tre e sz l2 v0 hs xs rfl hsz (by omega) hl2 ?_ (by rw [hlen]; exact hhl) hnd hp (fun j c hj => ?_)
  ·rw [hlen]
   exact ownsRow_of_block how fun b hb => setCell_other (hne0 b hb)
  ·rw [hfl, List.getElem?_set] at hj
   by_cases hqi : q = j
   ·subst hqi
    rw [if_pos rfl, if_pos hql] at hj
    cases hj
    refine .inr (.inr ⟨e2, sz2, rl2, rfl, ?_, ?_⟩)
    ·rcases hcc q _ hq with ⟨h, _⟩ | ⟨h, _⟩ | ⟨_, _, _, _, h, _⟩
     ·cases h
     ·cases h
     ·exact h
    ·rcases hcc q _ hq with ⟨h, _⟩ | ⟨h, _⟩ | ⟨_, _, _, _, h, _⟩
     ·cases h
     ·cases h
     ·rw [← h]; exact hrow'
   ·rw [if_neg hqi] at hj
    have hil : j < hs.length := by
     have := (List.getElem?_eq_some_iff.1 hj).1; omega
    exact (hcc j c hj).of_block fun b hb => setCell_other fun e => flatMap_nodup_ne (List.nodup_append.1 hnd).2.1 hqh hil hqi hgb (by rw [hb, e])
end
section
variable {P : Program} {N : Nat} {w0 : Base P} {pub : Nat → Nat → Prop} {V : Nat → Value} {s : St} {a : Act} {w : World}
theorem Rel0.treAtS (hR : Rel0 N w0 pub V s a w) {x : Operand} {n j e sz : Nat} {l : List PV} {p : TP} (hx : s.ev x = .tref n j p) (hm : s.mem n = .tre e sz l) (hj : j = l.length) (hp0 : p.isClo = false := by rfl) :
  ∃ v0 hs, V n = treV v0 hs ∧ MemOk pub w V s.mem w0.O (treV v0 hs) (.tre e sz l) ∧ TVal (treV v0 hs) sz l p (a.eval x) := by
 have hxe := hR.ev x
 rw [hx] at hxe
 obtain ⟨e1, sz1, l1, hm1, _, hv⟩ := hxe.tref_inv hp0
 rw [hm] at hm1; cases hm1
 have hmn := hR.mem n
 rw [hm] at hmn
 have hv := hv hj
 generalize hV : V n = vn at *
 cases hmn with
 | tre _ _ _ v0 hs xs hv1 hsz hmx hl how hhl hnd hp hc => subst hv1; exact ⟨v0, hs, rfl, .tre e sz l v0 hs xs rfl hsz hmx hl how hhl hnd hp hc, hv⟩
theorem AOp.val {σ : Operand → PV} {m : Nat → PV} {d : Nat} {op : Op} {p : PV} {R : List Nat} (h : ∀ (N : Nat) (w0 : Base P) (pub : Nat → Nat → Prop) (V : Nat → Value) (s : St) (a : Act) (w : World), (∀ x ∈ op.operands, s.ev x = σ x) → (∀ n ∈ R, s.mem n = m n) → Rel0 N w0 pub V s a w →
  ∃ v, (∀ dst ty pos after guard, (execOp a.eval ⟨dst, op, ty, pos, after, guard⟩).run P w = .ok (.value v) w) ∧ RV pub w V s.mem p v) : AOp P σ m d op p [] R :=
 .sem op p [] R fun N w0 pub0 s a w e1 e2 hR => by
  obtain ⟨pub, V, c1, c2, h0⟩ := hR
  obtain ⟨v, h1, h2⟩ := h N w0 pub V s a w e1 e2 h0
  exact .of_same c1 c2 h0 v h2 h1
end
section
variable {P : Program} {σ : Operand → PV} {m : Nat → PV} {d : Nat}
theorem AOp.idxT (t : TypeId) (x y : Operand) (n j e sz by' : Nat) (l : List PV) (kk : IntKind) (i : Int) (ht : eltOf P t = some (e, sz, by')) (hx : σ x = .tref n j .out) (hm : m n = .tre e sz l) (hj : j = l.length) (hy : σ y = .lit (.int kk i)) (h0 : 0 ≤ i) (hi : i < l.length) : AOp P σ m d (.indexAddr t x y) (.tref n j (.cell i.toNat 0)) [] [n] :=
 .val fun N w0 pub V s a w e1 e2 hR => by
  have hx' := (e1 x (by simp [Op.operands])).trans hx
  have hm' := (e2 n (by simp)).trans hm
  obtain ⟨v0, hs, hV, hmn, v1, ks, h1, h2⟩ := hR.treAtS hx' hm' hj
  obtain ⟨rfl, rfl⟩ := treV_inj h1
  have hye := hR.ev y
  rw [(e1 y (by simp [Op.operands])).trans hy] at hye
  have h4 := hye.lit_inv.1
  have h3 : ∃ g cap, v0 = .slice (some ⟨g, 0, none⟩) l.length cap := by
   cases hmn with
   | tre _ _ _ v1 ks xs hv1 hsz hmx hl how hhl hnd hp hc =>
    obtain ⟨rfl, rfl⟩ := treV_inj hv1
    obtain ⟨g, cap, cur, h, _⟩ := how.1.2.resolve_left (fun h => by have := h.2; omega)
    exact ⟨g, cap, h⟩
  obtain ⟨g, cap, h3⟩ := h3
  refine ⟨.pointer (some ⟨g, i.toNat * sz + 0, none⟩), fun _ _ _ _ _ => run_value ?_, .ref (.tref n j _ _ e sz l hm' (Nat.le_of_eq hj) (fun _ => ⟨v0, hs, g, cap, hV, h3, rfl⟩))⟩
  rw [h2, h3, h4]
  have := run_indexAt (P := P) (w := w) ht kk i g 0 l.length cap h0 hi
  rw [Nat.zero_add] at this; exact this
theorem AOp.ldRow (t : TypeId) (x : Operand) (n j i off e sz e2 sz2 q : Nat) (l rl : List PV) (ht : shp P t = some (false, 1)) (hx : σ x = .tref n j (.cell i off)) (hm : m n = .tre e sz l) (hj : j = l.length) (hq : q = i * sz + off) (hc : (flat l)[q]? = some (.obj true e2 sz2 rl)) : AOp P σ m d (.load t x) (.tref n j (.row q)) [] [n] :=
 .val fun N w0 pub V s a w e1 e2' hR => by
  have hx' := (e1 x (by simp [Op.operands])).trans hx
  have hm' := (e2' n (by simp)).trans hm
  obtain ⟨v0, hs, hV, hmn, v1, ks, g, cap, h1, h2, h3⟩ := hR.treAtS hx' hm' hj
  obtain ⟨rfl, rfl⟩ := treV_inj h1
  obtain ⟨g', cap', u, h4, h5, h6, h7, h8, h9⟩ := hmn.tre_cell hc
  rw [h2] at h4
  simp only [Value.slice.injEq, Option.some.injEq, Addr.mk.injEq, and_true, true_and] at h4
  obtain ⟨rfl, rfl⟩ := h4
  subst hq
  have hrun : (loadVar t ⟨g, i * sz + off, none⟩).run P w = .ok u w := by
   obtain ⟨u', hu, hru⟩ := run_loadPV (P := P) (w := w) (m := s.mem) (V := V) (pub := pub) ht (.inr rfl) g (i * sz + off) 0 [.lit u] (fun _ => u) (fun j c hj => by
    have hj0 : j = 0 := by have := (List.getElem?_eq_some_iff.1 hj).1; simpa using this
    subst hj0
    simp at hj; subst hj
    exact ⟨by rw [Nat.add_zero]; exact h5, h6, .pure (.lit u h6)⟩) (r := .lit u) (by simp [loadPV])
   rw [hru.lit_inv.1] at hu
   exact hu
  refine ⟨u, fun _ _ _ _ _ => run_value (by rw [h3]; exact hrun), .ref (.tref n j _ _ e sz l hm' (Nat.le_of_eq hj) (fun _ => ⟨v0, hs, e2, sz2, rl, hV, hc, ?_⟩))⟩
  rcases h7 with ⟨h, _⟩ | ⟨h, _⟩ | ⟨_, _, _, _, h, _⟩
  ·cases h
  ·cases h
  ·exact h.symm
theorem AOp.lenR (t : TypeId) (x : Operand) (n j q e' sz' by' e sz e2 sz2 : Nat) (l rl : List PV) (ht : eltOf P t = some (e', sz', by')) (hx : σ x = .tref n j (.row q)) (hm : m n = .tre e sz l) (hj : j = l.length) (hc : (flat l)[q]? = some (.obj true e2 sz2 rl)) : AOp P σ m d (.call { callee := .builtin .len, args := #[x], argTypes := #[t] }) (.lit (.int .i64 rl.length)) [] [n] :=
 .val fun N w0 pub V s a w e1 e2' hR => by
  have hx' := (e1 x (by simp [Op.operands, Call.operands])).trans hx
  have hm' := (e2' n (by simp)).trans hm
  obtain ⟨v0, hs, hV, hmn, v1, ks, e3, sz3, rl3, h1, h2, h3⟩ := hR.treAtS hx' hm' hj
  obtain ⟨rfl, rfl⟩ := treV_inj h1
  rw [hc] at h2; cases h2
  obtain ⟨⟨ys, hsz, hmx, hl, how, _⟩, _⟩ := hmn.tre_row hc
  have h4 : ∃ ad cap, a.eval x = .slice ad rl.length cap := by
   rw [h3]
   rcases how.1.2 with ⟨h, h0⟩ | ⟨g, cap, cur, h, _⟩
   ·exact ⟨none, 0, by rw [h, h0]⟩
   ·exact ⟨_, cap, h⟩
  obtain ⟨ad, cap, h4⟩ := h4
  refine ⟨.int .i64 rl.length, fun _ _ _ _ _ => ?_, .pure (.lit _ rfl)⟩
  simp [execOp, resolve, invoke, builtin, h4, Builtin.len_, run_underlying (eltOf_spec ht).1, goInt]
theorem AOp.idxR (t : TypeId) (x y : Operand) (n j q e sz e2 sz2 by' : Nat) (l rl : List PV) (kk : IntKind) (i : Int) (ht : eltOf P t = some (e2, sz2, by')) (hx : σ x = .tref n j (.row q)) (hm : m n = .tre e sz l) (hj : j = l.length) (hc : (flat l)[q]? = some (.obj true e2 sz2 rl)) (hy : σ y = .lit (.int kk i)) (h0 : 0 ≤ i) (hi : i < rl.length) : AOp P σ m d (.indexAddr t x y) (.tref n j (.elem q i.toNat 0)) [] [n] :=
 .val fun N w0 pub V s a w e1 e2' hR => by
  have hx' := (e1 x (by simp [Op.operands])).trans hx
  have hm' := (e2' n (by simp)).trans hm
  obtain ⟨v0, hs, hV, hmn, v1, ks, e3, sz3, rl3, h1, h2, h3⟩ := hR.treAtS hx' hm' hj
  obtain ⟨rfl, rfl⟩ := treV_inj h1
  rw [hc] at h2; cases h2
  have hye := hR.ev y
  rw [(e1 y (by simp [Op.operands])).trans hy] at hye
  have h4 := hye.lit_inv.1
  obtain ⟨⟨ys, hsz, hmx, hl, how, _⟩, _⟩ := hmn.tre_row hc
  obtain ⟨g, cap, cur, h5, _⟩ := how.1.2.resolve_left (fun h => by have := h.2; omega)
  refine ⟨.pointer (some ⟨g, i.toNat * sz2 + 0, none⟩), fun _ _ _ _ _ => run_value ?_, .ref (.tref n j _ _ e sz l hm' (Nat.le_of_eq hj) (fun _ => ⟨v0, hs, e2, sz2, rl, g, cap, hV, hc, h5, rfl⟩))⟩
  rw [h3, h5, h4]
  have := run_indexAt (P := P) (w := w) ht kk i g 0 rl.length cap h0 hi
  rw [Nat.zero_add] at this; exact this
theorem AOp.ldE (t : TypeId) (x : Operand) (n j q i off e sz e2 sz2 : Nat) (l rl : List PV) (u : Value) (ht : shp P t = some (false, 1)) (hx : σ x = .tref n j (.elem q i off)) (hm : m n = .tre e sz l) (hj : j = l.length) (hc : (flat l)[q]? = some (.obj true e2 sz2 rl)) (hu : (flat rl)[i * sz2 + off]? = some (.lit u)) : AOp P σ m d (.load t x) (.lit u) [] [n] :=
 .val fun N w0 pub V s a w e1 e2' hR => by
  have hx' := (e1 x (by simp [Op.operands])).trans hx
  have hm' := (e2' n (by simp)).trans hm
  obtain ⟨v0, hs, hV, hmn, v1, ks, e3, sz3, rl3, b, cap, h1, h2, h3, h4⟩ := hR.treAtS hx' hm' hj
  obtain ⟨rfl, rfl⟩ := treV_inj h1
  rw [hc] at h2; cases h2
  obtain ⟨hrow, _⟩ := hmn.tre_row hc
  obtain ⟨g', cap', h5, h6, h7, _⟩ := hrow.cell hu
  rw [h3] at h5
  simp only [Value.slice.injEq, Option.some.injEq, Addr.mk.injEq, and_true, true_and] at h5
  obtain ⟨rfl, rfl⟩ := h5
  have hrun : (loadVar t ⟨b, i * sz2 + off, none⟩).run P w = .ok u w := by
   obtain ⟨u', hu, hru⟩ := run_loadPV (P := P) (w := w) (m := s.mem) (V := V) (pub := pub) ht (.inr rfl) b (i * sz2 + off) 0 [.lit u] (fun _ => u) (fun j c hj => by
    have hj0 : j = 0 := by have := (List.getElem?_eq_some_iff.1 hj).1; simpa using this
    subst hj0
    simp at hj; subst hj
    exact ⟨by rw [Nat.add_zero]; exact h6, h7, .pure (.lit u h7)⟩) (r := .lit u) (by simp [loadPV])
   rw [hru.lit_inv.1] at hu
   exact hu
  exact ⟨u, fun _ _ _ _ _ => run_value (by rw [h4]; exact hrun), .pure (.lit u h7)⟩
theorem AOp.stE (t : TypeId) (x y : Operand) (n j q i off e sz e2 sz2 : Nat) (l l2 rl rl2 : List PV) (u0 u1 : Value) (ht : shp P t = some (false, 1)) (hx : σ x = .tref n j (.elem q i off)) (hm : m n = .tre e sz l) (hj : j = l.length) (hc : (flat l)[q]? = some (.obj true e2 sz2 rl)) (hu : (flat rl)[i * sz2 + off]? = some (.lit u0)) (hy : σ y = .lit u1)
  (hrl : rl2.length = rl.length) (hrl2 : ∀ p ∈ rl2, p.cells.length = sz2) (hfr : flat rl2 = (flat rl).set (i * sz2 + off) (.lit u1)) (hlen : l2.length = l.length) (hl2 : ∀ p ∈ l2, p.cells.length = sz) (hfl : flat l2 = (flat l).set q (.obj true e2 sz2 rl2)) :
  AOp P σ m d (.store t x y) .undef [(n, .tre e sz l2)] [n] :=
 .sem _ _ _ _ fun N w0 pub0 s a w e1 e2' hR => by
  obtain ⟨pub, V, c1, c2, hrel⟩ := hR
  have hx' := (e1 x (by simp [Op.operands])).trans hx
  have hm' := (e2' n (by simp)).trans hm
  obtain ⟨v0, hs, hV, hmn, v1, ks, e3, sz3, rl3, b, cap, h1, h2, h3, h4⟩ := hrel.treAtS hx' hm' hj
  obtain ⟨rfl, rfl⟩ := treV_inj h1
  rw [hc] at h2; cases h2
  have hye := hrel.ev y
  rw [(e1 y (by simp [Op.operands])).trans hy] at hye
  obtain ⟨hyv, hyo⟩ := hye.lit_inv
  obtain ⟨hrow, hqh⟩ := hmn.tre_row hc
  obtain ⟨g', cap', h5, h6, h7, h8⟩ := hrow.cell hu
  rw [h3] at h5
  simp only [Value.slice.injEq, Option.some.injEq, Addr.mk.injEq, and_true, true_and] at h5
  obtain ⟨rfl, rfl⟩ := h5
  have hrun := run_storeVar_at (P := P) ht hyo h6 h8
  have hgb : b ∈ treBs v0 hs := treBs_mem hqh (by rw [h3]; rfl)
  obtain ⟨hrel1, _⟩ := hrel.turnTre (pub' := pub) (w' := w.setCell ⟨b, i * sz2 + off, none⟩ u1) hm' hV hlen (shapeL_set hc hfl (fun _ _ _ h => by cases h; exact ⟨rl2, rfl, hrl⟩)) (by simp [World.setCell]) rfl rfl rfl (Nat.le_refl _) (fun k _ hb => setCell_other (fun e => hb (e ▸ hgb))) (fun _ _ h => h) (fun _ _ h => .inl h)
   (fun k o hb => ⟨by simp [World.setCell]; exact hrel.pubLt k o hb, fun hn => absurd (hrel.pubLt k o hb) (by omega)⟩) ((hmn.tre_rowset hc h3 ((List.getElem?_eq_some_iff.1 hu).1) hyo hrl hrl2 hfr hlen hl2 hfl).tre_rebase fun _ h => h)
  exact ⟨Go.undef, _, fun _ _ _ _ _ => .inr ⟨run_skip (by rw [h4, hyv]; exact hrun), rfl⟩, pub, V, c1, c2, hrel1, .undef _⟩
end
section
variable {P : Program} {N : Nat} {all : Array Oper} {F : Nat → Foot} {i : Nat} {rest : List Oper} {S M : List (Nat × PV)} {K : St → Prop} {d : Nat} {ty : TypeId} {pos : String} {after : Array Edge}
theorem X.idxT {t : TypeId} {x y : Operand} {n j e sz by' : Nat} {l : List PV} {kk : IntKind} {z : Int} (ht : eltOf P t = some (e, sz, by')) (hz : 0 ≤ z ∧ z < l.length) (hj : j = l.length) (h : SLx P N all F (i + 1) rest (St.of ((d, .tref n j (.cell z.toNat 0)) :: S) M) K) (hx : evO S x = some (.tref n j .out) := by rfl) (hm : look M n = some (.tre e sz l) := by rfl) (hy : evO S y = some (.lit (.int kk z)) := by rfl) (hd : Nat.ble (d + 1) N = true := by rfl) (hF : (F i).okB [n] [] = true := by rfl) :
  SLx P N all F i (⟨some d, .indexAddr t x y, ty, pos, after, none⟩ :: rest) (St.of S M) K :=
 X.ofOp (U := []) (R := [n]) (.idxT t x y n j e sz by' l kk z ht (evO_spec hx) (look_mem hm) hj (evO_spec hy) hz.1 hz.2) hd hF h
theorem X.ldRow {t : TypeId} {x : Operand} {n j k off e sz e2 sz2 : Nat} {l rl : List PV} (ht : shp P t = some (false, 1)) (hc : (flat l)[k * sz + off]? = some (.obj true e2 sz2 rl)) (hj : j = l.length) (h : SLx P N all F (i + 1) rest (St.of ((d, .tref n j (.row (k * sz + off))) :: S) M) K) (hx : evO S x = some (.tref n j (.cell k off)) := by rfl) (hm : look M n = some (.tre e sz l) := by rfl) (hd : Nat.ble (d + 1) N = true := by rfl) (hF : (F i).okB [n] [] = true := by rfl) :
  SLx P N all F i (⟨some d, .load t x, ty, pos, after, none⟩ :: rest) (St.of S M) K :=
 X.ofOp (U := []) (R := [n]) (.ldRow t x n j k off e sz e2 sz2 _ l rl ht (evO_spec hx) (look_mem hm) hj rfl hc) hd hF h
theorem X.lenR {t : TypeId} {x : Operand} {n j q e' sz' by' e sz e2 sz2 : Nat} {l rl : List PV} {z : Int} (ht : eltOf P t = some (e', sz', by')) (hc : (flat l)[q]? = some (.obj true e2 sz2 rl)) (hz : (rl.length : Int) = z) (hj : j = l.length) (h : SLx P N all F (i + 1) rest (St.of ((d, .lit (.int .i64 z)) :: S) M) K) (hx : evO S x = some (.tref n j (.row q)) := by rfl) (hm : look M n = some (.tre e sz l) := by rfl) (hd : Nat.ble (d + 1) N = true := by rfl) (hF : (F i).okB [n] [] = true := by rfl) :
  SLx P N all F i (⟨some d, .call { callee := .builtin .len, args := #[x], argTypes := #[t] }, ty, pos, after, none⟩ :: rest) (St.of S M) K := by
 subst hz
 exact X.ofOp (U := []) (R := [n]) (.lenR t x n j q e' sz' by' e sz e2 sz2 l rl ht (evO_spec hx) (look_mem hm) hj hc) hd hF h
theorem X.idxR {t : TypeId} {x y : Operand} {n j q e sz e2 sz2 by' : Nat} {l rl : List PV} {kk : IntKind} {z : Int} (ht : eltOf P t = some (e2, sz2, by')) (hc : (flat l)[q]? = some (.obj true e2 sz2 rl)) (hz : 0 ≤ z ∧ z < rl.length) (hj : j = l.length) (h : SLx P N all F (i + 1) rest (St.of ((d, .tref n j (.elem q z.toNat 0)) :: S) M) K) (hx : evO S x = some (.tref n j (.row q)) := by rfl) (hm : look M n = some (.tre e sz l) := by rfl) (hy : evO S y = some (.lit (.int kk z)) := by rfl) (hd : Nat.ble (d + 1) N = true := by rfl) (hF : (F i).okB [n] [] = true := by rfl) :
  SLx P N all F i (⟨some d, .indexAddr t x y, ty, pos, after, none⟩ :: rest) (St.of S M) K :=
 X.ofOp (U := []) (R := [n]) (.idxR t x y n j q e sz e2 sz2 by' l rl kk z ht (evO_spec hx) (look_mem hm) hj hc (evO_spec hy) hz.1 hz.2) hd hF h
theorem X.ldE {t : TypeId} {x : Operand} {n j q k off e sz e2 sz2 : Nat} {l rl : List PV} {u : Value} (ht : shp P t = some (false, 1)) (hc : (flat l)[q]? = some (.obj true e2 sz2 rl)) (hu : (flat rl)[k * sz2 + off]? = some (.lit u)) (hj : j = l.length) (h : SLx P N all F (i + 1) rest (St.of ((d, .lit u) :: S) M) K) (hx : evO S x = some (.tref n j (.elem q k off)) := by rfl) (hm : look M n = some (.tre e sz l) := by rfl) (hd : Nat.ble (d + 1) N = true := by rfl) (hF : (F i).okB [n] [] = true := by rfl) :
  SLx P N all F i (⟨some d, .load t x, ty, pos, after, none⟩ :: rest) (St.of S M) K :=
 X.ofOp (U := []) (R := [n]) (.ldE t x n j q k off e sz e2 sz2 l rl u ht (evO_spec hx) (look_mem hm) hj hc hu) hd hF h
theorem X.stE {t : TypeId} {x y : Operand} {n j q k off e sz e2 sz2 : Nat} {l l2 rl rl2 : List PV} {u0 u1 : Value} (ht : shp P t = some (false, 1)) (hc : (flat l)[q]? = some (.obj true e2 sz2 rl)) (hu : (flat rl)[k * sz2 + off]? = some (.lit u0))
  (hrl : rl2.length = rl.length) (hrl2 : ∀ p ∈ rl2, p.cells.length = sz2) (hfr : flat rl2 = (flat rl).set (k * sz2 + off) (.lit u1)) (hlen : l2.length = l.length) (hl2 : ∀ p ∈ l2, p.cells.length = sz) (hfl : flat l2 = (flat l).set q (.obj true e2 sz2 rl2)) (hj : j = l.length) (h : SLx P N all F (i + 1) rest (St.of S ((n, .tre e sz l2) :: M)) K)
  (hx : evO S x = some (.tref n j (.elem q k off)) := by rfl) (hm : look M n = some (.tre e sz l) := by rfl) (hy : evO S y = some (.lit u1) := by rfl) (hF : (F i).okB [n] [n] = true := by rfl) :
  SLx P N all F i (⟨none, .store t x y, ty, pos, after, none⟩ :: rest) (St.of S M) K :=
 X.ofOp0 (v := .undef) (U := [(n, .tre e sz l2)]) (R := [n]) (.stE t x y n j q k off e sz e2 sz2 l l2 rl rl2 u0 u1 ht (evO_spec hx) (look_mem hm) hj hc hu (evO_spec hy) hrl hrl2 hfr hlen hl2 hfl) hF h
end
end Go.Px
namespace Go.Px
set_option linter.unusedSimpArgs false
set_option linter.unusedVariables false
open Go.RowKit
def nilsV : List PV → PV
 | [] => .nils
 | c :: l => .slice (c :: l)
theorem nilsV_plain : ∀ l : List PV, (nilsV l).plain = true
 | [] => rfl
 | _ :: _ => rfl
def neL {α : Type} (l : List α) : Option (List α) := bif l.isEmpty then none else some l
theorem neL_spec {α : Type} {l r : List α} (h : neL l = some r) : r = l ∧ l ≠ [] := by
 unfold neL at h
 cases l with
 | nil => cases h
 | cons x l => exact ⟨(Option.some.inj h).symm, by simp⟩
theorem neL_map {α : Type} (f : α → PV) {l r : List α} (h : neL l = some r) : .slice (l.map f) = nilsV (r.map f) := by
 obtain ⟨rfl, h1⟩ := neL_spec h
 cases r with
 | nil => exact absurd rfl h1
 | cons x l => rfl
section
variable {P : Program} {N : Nat} {all : Array Oper} {F : Nat → Foot} {i : Nat} {rest : List Oper} {S M : List (Nat × PV)} {K : St → Prop} {d : Nat} {ty : TypeId} {pos : String} {after : Array Edge}
theorem X.callN {fo : Operand} {args : Array Operand} {ats : Array TypeId} {f : FuncId} {caps ps ps' ps2 L : List PV} {R : List Nat} {C : List (Nat × Nat)} (hc : PC P f ps2 (nilsV L)) (hf : evO S fo = some (.fn f caps)) (hps : evL S args.toList = some ps) (hp : purL M ps = some (ps', R, C))
  (hC : AllEq C) (ha : ps' ++ caps = ps2) (hd : Nat.ble (d + 1) N = true) (hF : (F i).okB R [] = true) (h : SLx P N all F (i + 1) rest (St.of ((d, nilsV L) :: S) M) K) :
  SLx P N all F i (⟨some d, .call { callee := .value fo, args := args, argTypes := ats }, ty, pos, after, none⟩ :: rest) (St.of S M) K :=
 X.callP hc hf hps hp hC ha (nilsV_plain L) hd hF h
theorem nilsV_lst {m : Nat → PV} : ∀ L : List PV, Lst m (nilsV L) L [] ∧ (L ≠ [] ∨ nilsV L = .nils)
 | [] => ⟨.nils, .inr rfl⟩
 | c :: L => ⟨.pure _, .inl (by simp)⟩
theorem X.neqN {t t' : TypeId} {x : Operand} {e sz by' : Nat} {L : List PV} {z : Bool} (ht : eltOf P t = some (e, sz, by')) (hx : evO S x = some (nilsV L)) (hz : (!L.isEmpty) = z) (hd : Nat.ble (d + 1) N = true) (hF : (F i).okB [] [] = true) (h : SLx P N all F (i + 1) rest (St.of ((d, .lit (.bool z)) :: S) M) K) :
  SLx P N all F i (⟨some d, .binOp .neq t x (.const (.slice none 0 0)) t', ty, pos, after, none⟩ :: rest) (St.of S M) K := by
 subst hz
 exact X.neqNilS ht hx (nilsV_lst L).1 (nilsV_lst (m := fun _ => .undef) L).2 hd hF h
theorem X.lenN {t : TypeId} {x : Operand} {e sz by' : Nat} {L : List PV} {z : Int} (ht : eltOf P t = some (e, sz, by')) (hx : evO S x = some (nilsV L)) (hz : (L.length : Int) = z) (hd : Nat.ble (d + 1) N = true) (hF : (F i).okB [] [] = true) (h : SLx P N all F (i + 1) rest (St.of ((d, .lit (.int .i64 z)) :: S) M) K) :
  SLx P N all F i (⟨some d, .call { callee := .builtin .len, args := #[x], argTypes := #[t] }, ty, pos, after, none⟩ :: rest) (St.of S M) K := by
 subst hz
 exact X.ofOp (U := []) (R := []) (.lenLst t x _ L [] e sz by' ht (evO_spec hx) (nilsV_lst L).1) hd hF h
end
end Go.Px
namespace Go.Px
set_option linter.unusedSimpArgs false
set_option linter.unusedVariables false
open Go.RowKit
section
variable {P : Program} {N : Nat} {w0 : Base P} {w w' : World} {pub pub' : Nat → Nat → Prop} {V : Nat → Value} {s : St} {a : Act} {m' : Nat → PV}
theorem Rel0.turnS (h : Rel0 N w0 pub V s a w) {T : Nat → Prop} (hT : ∀ k, ¬ T k → m' k = s.mem k) (hTu : ∀ k, T k → s.mem k ≠ .undef) (hTy : ∀ k s' own, T k → s.mem k ≠ .yreg s' own ∧ m' k ≠ .yreg s' own) (refs : ∀ q u, RefOk V s.mem q u → RefOk V m' q u)
  (hbk : ∀ k g, T k → inB (V k) g → (w0.O g ∧ g < w.heap.size) ∧ ∀ o, ¬ pub g o) (hsize : w.heap.size ≤ w'.heap.size) (hos : w'.os = w.os) (htape : w'.tape = w.tape) (hout : w'.output = w.output) (hdr : w.drawn ≤ w'.drawn)
  (hblocks : ∀ g, g < w.heap.size → (∀ k, T k → ¬ inB (V k) g) → w'.heap[g]? = w.heap[g]?) (p1 : ∀ b o, pub b o → pub' b o) (p2 : ∀ b o, pub' b o → pub b o ∨ w.heap.size ≤ b) (p3 : ∀ b o, pub' b o → b < w'.heap.size ∧ (w.heap.size ≤ b → w'.frozen? ⟨b, o, none⟩ = false))
  (hok : ∀ k, T k → MemOk pub' w' V m' w0.O (V k) (m' k)) : Rel0 N w0 pub' V { s with mem := m' } a w' := by
 have hnpub : ∀ g o, pub g o → ∀ k, T k → ¬ inB (V k) g := fun g o ho k hk hg => (hbk k g hk hg).2 o ho
 have t : Tr pub w V s.mem pub' w' V m' T :=
  ⟨p1, fun b o ho => cellOB' (hblocks b (h.pubLt b o ho) (hnpub b o ho)), refs, fun _ _ _ => rfl, fun k hk => hT k hk,
  fun k g hk hu' hg => ⟨hblocks g ((h.mem k).block_lt hu' hg) (fun j hj e => hk (by rw [h.apart k j g hu' (hTu j hj) hg e]; exact hj)), fun o ho => (p2 g o ho).resolve_right (by have := (h.mem k).block_lt hu' hg; omega)⟩, fun c s' own hTc hm' => absurd hm' (hTy c s' own hTc).1⟩
 have hbel : BelowB w0 w w' := ⟨hos, htape, hout, hsize, fun k hk => hblocks k (by
  have h1 : ¬ w0.w.heap.size ≤ k := fun e => hk (.inl e)
  have h2 : w0.w.heap.size ≤ w.heap.size := h.below.size
  omega) (fun j hj e => hk (hbk j k hj e).1.1), hdr⟩
 refine h.turn t hbel (fun _ _ => rfl) (fun b o ho => (p3 b o ho).1) hok (fun i k g hne h1 h2 h3 h4 => ?_) (fun i own _ hmi => ?_) (fun b o ho hb0 => ?_)
 ·have f : ∀ j, m' j ≠ .undef → s.mem j ≠ .undef := fun j hj => by
   by_cases e : T j
   ·exact hTu j e
   ·rwa [hT j e] at hj
  exact hne (h.apart i k g (f i h1) (f k h2) h3 h4)
 ·by_cases hi : T i
  ·exact absurd hmi (hTy i true own hi).2
  ·rwa [hT i hi] at hmi
 ·by_cases hn : w.heap.size ≤ b
  ·exact (p3 b o ho).2 hn
  ·have ho1 := (p2 b o ho).resolve_right hn
   rw [frozenOB' (hblocks b (by omega) (hnpub b o ho1))]
   exact h.soft b o ho1 hb0
theorem RefOk.lptr_pt {mem : Nat → PV} {c : Nat} {y : Value} (h : RefOk V mem (.lptr c 0) y) : ∃ b, y = .pointer (some ⟨b, 0, none⟩) ∧ V c = .pointer (some ⟨b, 0, none⟩) := by
 cases h with
 | lptr _ _ x cs b hm hv => exact ⟨b, rfl, hv⟩
end
theorem RR.unit {pub : Nat → Nat → Prop} {w : World} {B : Nat → Prop} {v : Value} {gs : List Nat} (h : RR pub w B (.tuple []) v gs) : v = .tuple #[] := by
 obtain ⟨arr, gs2, hv, hs, _⟩ := h.tuple_inv
 have h0 : arr.size = 0 := hs
 rw [hv, Array.eq_empty_of_size_eq_zero h0]
def clo2 (e1 sz1 e2 sz2 : Nat) (l1 l2 : List PV) (k1 k2 : Nat) : List (Nat × PV) := [(63, .blk true [.tref 191 k1 .out]), (127, .blk true [.tref 255 k2 .out]), (191, .tre e1 sz1 l1), (255, .tre e2 sz2 l2)]
def clo2V (a b c d : Value) (k : Nat) : Value := if k = 63 then a else if k = 127 then b else if k = 191 then c else if k = 255 then d else Go.undef
theorem clo2_cases {e1 sz1 e2 sz2 : Nat} {l1 l2 : List PV} {k1 k2 k : Nat} (h : memOf (clo2 e1 sz1 e2 sz2 l1 l2 k1 k2) k ≠ .undef) : k = 63 ∨ k = 127 ∨ k = 191 ∨ k = 255 := by
 unfold clo2 at h
 simp only [memOf_cons, memOf_nil] at h
 by_cases h1 : k = 63
 ·exact .inl h1
 by_cases h2 : k = 127
 ·exact .inr (.inl h2)
 by_cases h3 : k = 191
 ·exact .inr (.inr (.inl h3))
 by_cases h4 : k = 255
 ·exact .inr (.inr (.inr h4))
 ·simp [h1, h2, h3, h4] at h
section
variable {P : Program} {σ : Operand → PV} {m : Nat → PV} {d : Nat}
theorem AOp.makeClo (f : FuncId) (caps : Array Operand) (n : Nat) (ns : List Nat) (hc : caps.toList.map σ = (n :: ns).map fun c => .lptr c 0) : AOp P σ m d (.makeFunc (.func f) #[] caps) (.tref n 0 (.clo f ns)) [] [] :=
 .val fun N w0 pub V s a w e1 e2 hR => by
  have hlen := congrArg List.length hc
  simp only [List.length_map, Array.length_toList, List.length_cons] at hlen
  refine ⟨.func (.func f) #[] (caps.map a.eval), fun _ _ _ _ _ => run_value (by simp [Instr.makeFunc]), .ref (.clo n f ns _ (by simp [hlen]) (fun j c hj => ?_))⟩
  have hlt : j < caps.size := by have := (List.getElem?_eq_some_iff.1 hj).1; simp at this; omega
  have h1 : (caps.toList.map σ)[j]? = some (.lptr c 0) := by rw [hc, List.getElem?_map, hj]; rfl
  rw [List.getElem?_map] at h1
  have h2 : caps.toList[j]? = some caps[j] := by simp [hlt]
  rw [h2] at h1
  have h3 : s.ev caps[j] = .lptr c 0 := (e1 _ (by simp [Op.operands])).trans (Option.some.inj h1)
  have h4 := hR.ev caps[j]
  rw [h3] at h4
  have h5 : (caps.map a.eval).getD j Go.undef = a.eval caps[j] := by simp [hlt]
  rw [h5]
  cases h4 with
  | pure h => cases h
  | ref h => exact h
end
section
variable {P : Program} {N : Nat} {all : Array Oper} {F : Nat → Foot} {i : Nat} {rest : List Oper} {S M : List (Nat × PV)} {K : St → Prop} {d : Nat} {ty : TypeId} {pos : String} {after : Array Edge}
theorem X.makeClo {f : FuncId} {caps : Array Operand} {n : Nat} {ns : List Nat} (hps : evL S caps.toList = some ((n :: ns).map fun c => .lptr c 0)) (hd : Nat.ble (d + 1) N = true) (h : SLx P N all F (i + 1) rest (St.of ((d, .tref n 0 (.clo f ns)) :: S) M) K) :
  SLx P N all F i (⟨some d, .makeFunc (.func f) #[] caps, ty, pos, after, none⟩ :: rest) (St.of S M) K :=
 X.ofOp (U := []) (R := []) (.makeClo f caps n ns (evL_spec hps)) hd (okB_nil _) h
set_option maxHeartbeats 2000000 in
/-- A CALL of a closure with two variables of the caller's, each of which holds a slice with slices in it. -/
theorem X.callClo2 {fo : Operand} {args : Array Operand} {ats : Array TypeId} {f : FuncId} {xs : List PV} {n1 n2 m1 m2 j1 j2 e1 sz1 e2 sz2 : Nat} {l1 l2 l1' l2' : List PV}
  (hc : PCM P f (xs ++ [.lptr 63 0, .lptr 127 0]) (clo2 e1 sz1 e2 sz2 l1 l2 l1.length l2.length) (.tuple []) (clo2 e1 sz1 e2 sz2 l1' l2' l1'.length l2'.length))
  (hf : evO S fo = some (.tref n1 0 (.clo f [n2]))) (hxs : evL S args.toList = some xs) (hpl : xs.all PV.plain = true) (hn1 : look M n1 = some (.blk true [.tref m1 j1 .out])) (hn2 : look M n2 = some (.blk true [.tref m2 j2 .out])) (hm1 : look M m1 = some (.tre e1 sz1 l1)) (hm2 : look M m2 = some (.tre e2 sz2 l2))
  (hj1 : j1 = l1.length) (hj2 : j2 = l2.length) (hnn : Nat.beq n1 n2 = false) (hmm : Nat.beq m1 m2 = false) (hl1 : l1'.length = l1.length) (hl2 : l2'.length = l2.length) (hs1 : ShapeT l1 l1') (hs2 : ShapeT l2 l2') (hd : Nat.ble (d + 1) N = true) (hF : (F i).okB [n1, n2, m1, m2] [m1, m2] = true)
  (h : SLx P N all F (i + 1) rest (St.of ((d, .tuple []) :: S) ((m2, .tre e2 sz2 l2') :: (m1, .tre e1 sz1 l1') :: M)) K) :
  SLx P N all F i (⟨some d, .call { callee := .value fo, args := args, argTypes := ats }, ty, pos, after, none⟩ :: rest) (St.of S M) K := by
 refine ⟨_, .semC _ d _ ty pos after none (.tuple []) [(m1, .tre e1 sz1 l1'), (m2, .tre e2 sz2 l2')] [n1, n2, m1, m2] (fun g want e => by cases e) (fun s a1 a2 w0 pub0 a w hR K Q' hK gd => ?_) (Nat.le_of_ble_eq_true hd) (okB_spec hF), ?_⟩
 rotate_left
 ·rw [slot_of, upds_of S [(m1, .tre e1 sz1 l1'), (m2, .tre e2 sz2 l2')] M]
  exact h
 have hnn' : n1 ≠ n2 := fun e => by rw [e, Nat.beq_refl] at hnn; cases hnn
 have hmm' : m1 ≠ m2 := fun e => by rw [e, Nat.beq_refl] at hmm; cases hmm
 obtain ⟨pub, V, c1, c2, hrel⟩ := hR
 obtain ⟨hok, hcall⟩ := hc
 have mn1 : s.mem n1 = .blk true [.tref m1 j1 .out] := (a2 n1 (by simp)).trans (look_mem hn1)
 have mn2 : s.mem n2 = .blk true [.tref m2 j2 .out] := (a2 n2 (by simp)).trans (look_mem hn2)
 have mm1 : s.mem m1 = .tre e1 sz1 l1 := (a2 m1 (by simp)).trans (look_mem hm1)
 have mm2 : s.mem m2 = .tre e2 sz2 l2 := (a2 m2 (by simp)).trans (look_mem hm2)
 have hfo : s.ev fo = .tref n1 0 (.clo f [n2]) := (a1 fo (by simp [Op.operands, Call.operands])).trans (evO_spec hf)
 have hfe := hrel.ev fo
 rw [hfo] at hfe
 obtain ⟨arr, hfv, hsz, hca⟩ := hfe.clo_inv rfl (fun e sz l h => by rw [mn1] at h; cases h)
 obtain ⟨b1, hb1, hv1⟩ := (hca 0 n1 rfl).lptr_pt
 obtain ⟨b2, hb2, hv2⟩ := (hca 1 n2 rfl).lptr_pt
 have harr : arr.toList = [V n1, V n2] := by
  have hs2 : arr.size = 2 := hsz
  apply List.ext_getElem?
  intro j
  have hg : ∀ j, arr.getD j Go.undef = (arr.toList[j]?).getD Go.undef := fun j => by simp
  match j with
  | 0 =>
   have h0 : arr.toList[0]? = some (arr.getD 0 Go.undef) := by rw [hg]; simp [hs2]
   rw [h0, hb1, ← hv1]; rfl
  | 1 =>
   have h0 : arr.toList[1]? = some (arr.getD 1 Go.undef) := by rw [hg]; simp [hs2]
   rw [h0, hb2, ← hv2]; rfl
  | j + 2 => simp [hs2]
 have kn1 := hrel.mem n1
 have kn2 := hrel.mem n2
 have km1 := hrel.mem m1
 have km2 := hrel.mem m2
 rw [mn1] at kn1; rw [mn2] at kn2; rw [mm1] at km1; rw [mm2] at km2
 have hn1m1 : n1 ≠ m1 := fun e => by rw [e, mm1] at mn1; cases mn1
 have hn1m2 : n1 ≠ m2 := fun e => by rw [e, mm2] at mn1; cases mn1
 have hn2m1 : n2 ≠ m1 := fun e => by rw [e, mm1] at mn2; cases mn2
 have hn2m2 : n2 ≠ m2 := fun e => by rw [e, mm2] at mn2; cases mn2
 let V' := clo2V (V n1) (V n2) (V m1) (V m2)
 let M0 := clo2 e1 sz1 e2 sz2 l1 l2 l1.length l2.length
 have v63 : V' 63 = V n1 := rfl
 have v127 : V' 127 = V n2 := rfl
 have v191 : V' 191 = V m1 := rfl
 have v255 : V' 255 = V m2 := rfl
 -- blocks of a variable of one's own
 have blkB : ∀ {c : Nat} {cs : List PV} {g : Nat}, MemOk pub w V s.mem w0.O (V c) (.blk true cs) → inB (V c) g → (w0.O g ∧ g < w.heap.size) ∧ ∀ o, ¬ pub g o := fun {c cs g} hk hg => by
  generalize V c = vc at hk hg
  cases hk with
  | blk _ _ g' arr T hv hB hgg hs hp hq hcc hr =>
   subst hv
   have e : blockOf (.pointer (some ⟨g', 0, none⟩)) = some g := inB_pointer hg
   have e : g' = g := by simpa [blockOf] using e
   subst e
   exact ⟨⟨hB, (Array.getElem?_eq_some_iff.1 hgg).1⟩, fun o ho => by have := hp o ho; cases this⟩
 have allB : ∀ k g, (k = n1 ∨ k = n2 ∨ k = m1 ∨ k = m2) → inB (V k) g → (w0.O g ∧ g < w.heap.size) ∧ ∀ o, ¬ pub g o := fun k g hk hg => by
  rcases hk with rfl | rfl | rfl | rfl
  ·exact blkB kn1 hg
  ·exact blkB kn2 hg
  ·exact km1.tre_block hg
  ·exact km2.tre_block hg
 -- what the variables hold, told under the callee's names and back
 have blkTo : ∀ {pub pub2 : Nat → Nat → Prop} {w : World} {V1 V2 : Nat → Value} {ma mb : Nat → PV} {B B2 : Nat → Prop} {v : Value} {x y k k2 ee sz : Nat} {l : List PV}, MemOk pub w V1 ma B v (.blk true [.tref x k .out]) → ma x = .tre ee sz l → k = l.length → mb y = .tre ee sz l → k2 = l.length → V2 y = V1 x → (∀ g, inB v g → B2 g) → MemOk pub w V2 mb B2 v (.blk true [.tref y k2 .out]) := by
  intro pub pub2 w V1 V2 ma mb B B2 v x y k k2 ee sz l hk hx hkl hy hk2 hV hB2
  cases hk with
  | blk _ _ g arr T hv hB hgg hs hp hq hcc hr =>
   refine .blk true _ g arr T hv (hB2 g (by rw [hv]; exact .inl rfl)) hgg hs hp (fun e => by cases e) (fun j c hj => ?_) (fun e => by cases e)
   match j, hj with
   | 0, hj =>
    cases hj
    obtain ⟨o1, o2⟩ := hcc 0 _ rfl
    obtain ⟨ee', sz', l', hm', _, htv⟩ := o2.tref_inv
    rw [hx] at hm'; cases hm'
    exact ⟨o1, .ref (.tref y k2 .out _ ee sz l hy (Nat.le_of_eq hk2) (fun _ => by rw [hV]; exact htv hkl))⟩
   | j + 1, hj => simp at hj
 have memv : ∀ (x1 x2 : List PV) (q1 q2 : Nat), memOf (clo2 e1 sz1 e2 sz2 x1 x2 q1 q2) 63 = .blk true [.tref 191 q1 .out] ∧ memOf (clo2 e1 sz1 e2 sz2 x1 x2 q1 q2) 127 = .blk true [.tref 255 q2 .out] ∧ memOf (clo2 e1 sz1 e2 sz2 x1 x2 q1 q2) 191 = .tre e1 sz1 x1 ∧ memOf (clo2 e1 sz1 e2 sz2 x1 x2 q1 q2) 255 = .tre e2 sz2 x2 := fun x1 x2 q1 q2 => by
  unfold clo2
  simp only [memOf_cons]
  refine ⟨?_, ?_, ?_, ?_⟩ <;> rfl
 obtain ⟨z1, z2, z3, z4⟩ := memv l1 l2 l1.length l2.length
 have bl4 : ∀ g, blocksOf V' M0 g → inB (V n1) g ∨ inB (V n2) g ∨ inB (V m1) g ∨ inB (V m2) g := fun g hg => by
  obtain ⟨k, hk, _, hin⟩ := hg
  rcases clo2_cases hk with rfl | rfl | rfl | rfl
  ·exact .inl hin
  ·exact .inr (.inl hin)
  ·exact .inr (.inr (.inl hin))
  ·exact .inr (.inr (.inr hin))
 have bl4O : ∀ g, (inB (V n1) g ∨ inB (V n2) g ∨ inB (V m1) g ∨ inB (V m2) g) → w0.O g ∧ g < w.heap.size := fun g hg => by
  rcases hg with h | h | h | h
  ·exact (allB n1 g (.inl rfl) h).1
  ·exact (allB n2 g (.inr (.inl rfl)) h).1
  ·exact (allB m1 g (.inr (.inr (.inl rfl))) h).1
  ·exact (allB m2 g (.inr (.inr (.inr rfl))) h).1
 have hO : ∀ b, Base0.O ⟨w, blocksOf V' M0, V'⟩ b → w.heap.size ≤ b ∨ (inB (V n1) b ∨ inB (V n2) b ∨ inB (V m1) b ∨ inB (V m2) b) := fun b hb => hb.imp id (bl4 b)
 have hxse := evL_spec (M := M) hxs
 have hlx : args.size = xs.length := by
  have := congrArg List.length hxse
  simpa using this
 unfold Oper.wp
 have hrun : (execOp a.eval ⟨some d, .call { callee := .value fo, args := args, argTypes := ats }, ty, pos, after, gd⟩).run P w = .ok (.enter f (args.map a.eval ++ arr)) w := by
  simp [execOp, resolve, hfv, Deferred.ofValue, invoke, okFn_run hok]
 rw [hrun, Oper.upon_enter]
 have hvals : (args.map a.eval ++ arr) = ((args.map a.eval).toList ++ [V n1, V n2]).toArray := by
  rw [← harr]; simp
 rw [hvals]
 refine (hcall w pub V' ((args.map a.eval).toList ++ [V n1, V n2]) (fun w' hw => w0.good w' fun b hb => (hw b fun ho => hb ?_).trans (hrel.below.block b hb)) hrel.pubLt (by simp [hlx]) (fun k => ?_) (fun k1 k2 g h1 h2 h3 h4 => ?_) (fun j p v q1 q2 => ?_)).mono ?_
 ·rcases hO b ho with h | h
  ·exact .inl (Nat.le_trans hrel.below.size h)
  ·exact (bl4O b h).1
 ·by_cases hu : memOf (clo2 e1 sz1 e2 sz2 l1 l2 l1.length l2.length) k = .undef
  ·rw [hu]; exact .undef
  ·rcases clo2_cases hu with rfl | rfl | rfl | rfl
   ·rw [z1]; exact blkTo (pub2 := pub) kn1 mm1 hj1 z3 rfl rfl (fun _ _ => trivial)
   ·rw [z2]; exact blkTo (pub2 := pub) kn2 mm2 hj2 z4 rfl rfl (fun _ _ => trivial)
   ·rw [z3]; exact km1.tre_rebase fun _ _ => trivial
   ·rw [z4]; exact km2.tre_rebase fun _ _ => trivial
 ·have un : ∀ c p, s.mem c = p → p ≠ .undef → s.mem c ≠ .undef := fun c p h1 h2 => h1 ▸ h2
  have u1 := un n1 _ mn1 (fun e => by cases e)
  have u2 := un n2 _ mn2 (fun e => by cases e)
  have u3 := un m1 _ mm1 (fun e => by cases e)
  have u4 := un m2 _ mm2 (fun e => by cases e)
  rcases clo2_cases h1 with rfl | rfl | rfl | rfl <;> rcases clo2_cases h2 with rfl | rfl | rfl | rfl <;> first
   | rfl
   | exact absurd (hrel.apart _ _ g u1 u2 h3 h4) hnn'
   | exact absurd (hrel.apart _ _ g u1 u3 h3 h4) hn1m1
   | exact absurd (hrel.apart _ _ g u1 u4 h3 h4) hn1m2
   | exact absurd (hrel.apart _ _ g u2 u1 h3 h4).symm hnn'
   | exact absurd (hrel.apart _ _ g u2 u3 h3 h4) hn2m1
   | exact absurd (hrel.apart _ _ g u2 u4 h3 h4) hn2m2
   | exact absurd (hrel.apart _ _ g u3 u1 h3 h4).symm hn1m1
   | exact absurd (hrel.apart _ _ g u3 u2 h3 h4).symm hn2m1
   | exact absurd (hrel.apart _ _ g u3 u4 h3 h4) hmm'
   | exact absurd (hrel.apart _ _ g u4 u1 h3 h4).symm hn1m2
   | exact absurd (hrel.apart _ _ g u4 u2 h3 h4).symm hn2m2
   | exact absurd (hrel.apart _ _ g u4 u3 h3 h4).symm hmm'
 ·by_cases hj : j < xs.length
  ·rw [List.getElem?_append_left hj] at q1
   rw [List.getElem?_append_left (by simp; omega)] at q2
   simp only [Array.toList_map, List.getElem?_map, Option.map_eq_some_iff] at q2
   obtain ⟨o, ho, rfl⟩ := q2
   have h4 : (args.toList.map (St.of S M).ev)[j]? = some p := by rw [hxse]; exact q1
   rw [List.getElem?_map, ho] at h4
   have hp : s.ev o = p := (a1 o (by simp [Op.operands, Call.operands]; exact .inr (Array.mem_def.2 (List.mem_of_getElem? ho)))).trans (Option.some.inj h4)
   have hr2 := hrel.ev o
   rw [hp] at hr2
   exact .pure (hr2.plain (List.all_eq_true.1 hpl p (List.mem_of_getElem? q1)))
  ·rw [List.getElem?_append_right (by omega)] at q1
   rw [List.getElem?_append_right (by simp; omega)] at q2
   have hje : j - (args.map a.eval).toList.length = j - xs.length := by simp [hlx]
   rw [hje] at q2
   generalize j - xs.length = jj at q1 q2
   match jj, q1, q2 with
   | 0, q1, q2 => cases q1; cases q2; rw [hv1]; exact .ref (.lptr 63 0 true _ b1 z1 (v63.trans hv1))
   | 1, q1, q2 => cases q1; cases q2; rw [hv2]; exact .ref (.lptr 127 0 true _ b2 z2 (v127.trans hv2))
   | jj + 2, q1, q2 => simp at q1
 ·rintro en w' ⟨v, rfl, hbel, pub', p1, p2, p3, hmem, _, gs, hRR, _⟩
  obtain ⟨y1, y2, y3, y4⟩ := memv l1' l2' l1'.length l2'.length
  have h63 := hmem 63 (by rw [y1]; intro e; cases e)
  have h127 := hmem 127 (by rw [y2]; intro e; cases e)
  have h191 := hmem 191 (by rw [y3]; intro e; cases e)
  have h255 := hmem 255 (by rw [y4]; intro e; cases e)
  rw [y1] at h63; rw [y2] at h127; rw [y3] at h191; rw [y4] at h255
  obtain ⟨_, sh1⟩ := km1.lenT h191 hs1
  obtain ⟨_, sh2⟩ := km2.lenT h255 hs2
  let m' := upds s.mem [(m1, .tre e1 sz1 l1'), (m2, .tre e2 sz2 l2')]
  have hm'1 : m' m1 = .tre e1 sz1 l1' := (upd_ne _ _ hmm').trans (upd_same _ _ _)
  have hm'2 : m' m2 = .tre e2 sz2 l2' := upd_same _ _ _
  have hm'o : ∀ k, k ≠ m1 → k ≠ m2 → m' k = s.mem k := fun k h1 h2 => (upd_ne _ _ h2).trans (upd_ne _ _ h1)
  have hrel1 : Rel0 N w0 pub' V { s with mem := m' } a w' := by
   refine hrel.turnS (T := fun k => k = n1 ∨ k = n2 ∨ k = m1 ∨ k = m2) (fun k hk => hm'o k (fun e => hk (.inr (.inr (.inl e)))) (fun e => hk (.inr (.inr (.inr e))))) (fun k hk => ?_) (fun k s' own hk => ?_) (fun q u hq => ?_) allB hbel.size hbel.os hbel.tape hbel.output hbel.drawn (fun g hg hno => hbel.block g fun ho => ?_) p1 p2 p3 (fun k hk => ?_)
   ·rcases hk with rfl | rfl | rfl | rfl
    ·rw [mn1]; intro e; cases e
    ·rw [mn2]; intro e; cases e
    ·rw [mm1]; intro e; cases e
    ·rw [mm2]; intro e; cases e
   ·rcases hk with rfl | rfl | rfl | rfl
    ·rw [hm'o _ hn1m1 hn1m2, mn1]; exact ⟨(fun e => by cases e), (fun e => by cases e)⟩
    ·rw [hm'o _ hn2m1 hn2m2, mn2]; exact ⟨(fun e => by cases e), (fun e => by cases e)⟩
    ·rw [mm1, hm'1]; exact ⟨(fun e => by cases e), (fun e => by cases e)⟩
    ·rw [mm2, hm'2]; exact ⟨(fun e => by cases e), (fun e => by cases e)⟩
   ·have nz : ∀ k p, s.mem k = p → (∀ e sz l, p ≠ .tre e sz l) → m' k = s.mem k := fun k p hp hne => hm'o k (fun e => by rw [e, mm1] at hp; exact hne _ _ _ hp.symm) (fun e => by rw [e, mm2] at hp; exact hne _ _ _ hp.symm)
    cases hq with
    | own k j _ x e sz l hm hk hh => exact .own k j u x e sz l ((nz k _ hm (fun _ _ _ e => by cases e)).trans hm) hk hh
    | gone k _ _ hm =>
     exact .gone k _ _ ((nz k _ hm (fun _ _ _ e => by cases e)).trans hm)
    | goneE k _ _ _ _ hm =>
     exact .goneE k _ _ _ _ ((nz k _ hm (fun _ _ _ e => by cases e)).trans hm)
    | goneO k _ _ _ _ hm =>
     exact .goneO k _ _ _ _ ((nz k _ hm (fun _ _ _ e => by cases e)).trans hm)
    | lptr k off x cs b hm hv => exact .lptr k off x cs b ((nz k _ hm (fun _ _ _ e => by cases e)).trans hm) hv
    | eptr k j i off _ x e sz l hm hk hh => exact .eptr k j i off u x e sz l ((nz k _ hm (fun _ _ _ e => by cases e)).trans hm) hk hh
    | osl k j i i2 _ x e sz l hm hk hij hh => exact .osl k j i i2 u x e sz l ((nz k _ hm (fun _ _ _ e => by cases e)).trans hm) hk hij hh
    | clo k1 f1 ns1 arr1 hs1 hc1 =>
     refine .clo k1 f1 ns1 arr1 hs1 (fun j1 c1 hj1 => ?_)
     have h0 := hc1 j1 c1 hj1
     generalize arr1.getD j1 Go.undef = y1 at h0 ⊢
     cases h0 with
     | lptr _ _ x cs b hm hv => exact .lptr c1 0 x cs b ((nz c1 _ hm (fun _ _ _ e => by cases e)).trans hm) hv
    | tref k j tp _ e sz l hm hk hh =>
     by_cases e1' : k = m1
     ·subst e1'
      rw [mm1] at hm; cases hm
      exact .tref k j tp u e1 sz1 l1' hm'1 (by omega) (fun e => (hh (by omega)).shape hl1 sh1)
     ·by_cases e2' : k = m2
      ·subst e2'
       rw [mm2] at hm; cases hm
       exact .tref k j tp u e2 sz2 l2' hm'2 (by omega) (fun e => (hh (by omega)).shape hl2 sh2)
      ·exact .tref k j tp u e sz l ((hm'o k e1' e2').trans hm) hk hh
   ·rcases hO g ho with h | h | h | h | h
    ·omega
    ·exact hno n1 (.inl rfl) h
    ·exact hno n2 (.inr (.inl rfl)) h
    ·exact hno m1 (.inr (.inr (.inl rfl))) h
    ·exact hno m2 (.inr (.inr (.inr rfl))) h
   ·rcases hk with rfl | rfl | rfl | rfl
    ·rw [hm'o _ hn1m1 hn1m2, mn1]
     exact blkTo (pub2 := pub) h63 y3 rfl hm'1 (hj1.trans hl1.symm) v191.symm (fun g hg => (allB _ g (.inl rfl) hg).1.1)
    ·rw [hm'o _ hn2m1 hn2m2, mn2]
     exact blkTo (pub2 := pub) h127 y4 rfl hm'2 (hj2.trans hl2.symm) v255.symm (fun g hg => (allB _ g (.inr (.inl rfl)) hg).1.1)
    ·rw [hm'1]
     exact (h191.rebase (B' := w0.O) fun g _ _ hg => (allB _ g (.inr (.inr (.inl rfl))) hg).1.1).tre_rebase fun _ h => h
    ·rw [hm'2]
     exact (h255.rebase (B' := w0.O) fun g _ _ hg => (allB _ g (.inr (.inr (.inr rfl))) hg).1.1).tre_rebase fun _ h => h
  obtain rfl := hRR.unit
  exact hK _ _ ⟨pub', V, fun b o ho => p1 b o (c1 b o ho), fun b o ho => (p2 b o ho).elim (c2 b o) (fun h => .inr (.inl (Nat.le_trans hrel.below.size h))), hrel1.put d (Nat.le_of_ble_eq_true hd) (.pure (.tuple [] #[] rfl (fun j c hj => by simp at hj)))⟩
end
end Go.Px
namespace Go.Px
set_option linter.unusedSimpArgs false
set_option linter.unusedVariables false
open Go.RowKit
section
variable {P : Program} {σ : Operand → PV} {m : Nat → PV} {d : Nat}
theorem flat_nilsR : ∀ n : Nat, flat (List.replicate n PV.nils) = List.replicate n PV.nils
 | 0 => rfl
 | n + 1 => by rw [List.replicate_succ, flat_cons, flat_nilsR n]; rfl
theorem undef_blocks (n : Nat) : (List.replicate n Go.undef).flatMap (fun u => u.ownBlock.toList) = [] := by
 induction n with
 | zero => rfl
 | succ n ih => rw [List.replicate_succ, List.flatMap_cons, ih]; rfl
theorem AOp.makeT (t : TypeId) (x y : Operand) (e by' : Nat) (k k' : IntKind) (n : Int) (ht : eltOf P t = some (e, 1, by')) (hz : zeroPV P e = some [.nils]) (hx : σ x = .lit (.int k n)) (hy : σ y = .lit (.int k' n)) (h0 : 0 ≤ n) (hn : n ≤ 1099511627776) (hb : by' ≤ 128) (hm : m (64 * d) = .undef) :
  AOp P σ m d (.makeSlice t x y) (.tref (64 * d) n.toNat .out) [(64 * d, .tre e 1 (List.replicate n.toNat .nils))] [64 * d] :=
 .sem _ _ _ _ fun N w0 pub0 s a w e1 e2 hR => by
  obtain ⟨pub, V, c1, c2, h⟩ := hR
  have hm' : s.mem (64 * d) = .undef := (e2 _ (by simp)).trans hm
  obtain ⟨hu, i, hi, hi1, hi2⟩ := eltOf_spec ht
  obtain ⟨zv, hzv, hzs, hzc⟩ := zeroPV_spec (P := P) (w := w) (pub := pub) (V := V) hz
  have hiz : i.zero = some zv := by
   simp only [zeroValue, typeInfo, Sem.run_bind, run_program, Result.andThen_ok, hi, Sem.run_pure] at hzv
   cases hzz : i.zero with
   | none => simp [hzz] at hzv
   | some z' => simp [hzz] at hzv; rw [hzv]
  have hxe := h.ev x
  rw [(e1 x (by simp [Op.operands])).trans hx] at hxe
  have hye := h.ev y
  rw [(e1 y (by simp [Op.operands])).trans hy] at hye
  have h1 := hxe.lit_inv.1
  have h2 := hye.lit_inv.1
  subst hi2
  have hbytes : (i.bytes : Int) * n ≤ 281474976710656 := by
   have h3 : (i.bytes : Int) * n ≤ 128 * 1099511627776 := Int.mul_le_mul (by omega) hn h0 (by omega)
   omega
  have hrun := run_make w t e i zv hu hi hiz k k' n n h0 (Int.le_refl _) hbytes (by omega)
  rw [hi1] at hrun
  have hms : (madeCells zv.cells (n.toNat * 1)).size = n.toNat * 1 := size_madeCells _ _
  have hz0 : zv.cells.getD 0 Go.undef = .slice none 0 0 := ((hzc 0 .nils rfl).2 s.mem).nils_inv
  have hval : ∀ j, j < n.toNat → (madeCells zv.cells (n.toNat * 1)).toList.getD j Go.undef = .slice none 0 0 := fun j hj => by
   have hs1 : zv.cells.size = 1 := hzs
   have hlt : j < n.toNat * 1 := by omega
   rw [← hz0]
   have hmod : j % zv.cells.size = 0 := by rw [hs1]; exact Nat.mod_one j
   have hj1 : zv.cells[j % 1]! = zv.cells[0] := by
    rw [show j % 1 = 0 from Nat.mod_one j]
    exact getElem!_pos zv.cells 0 (by omega)
   simp [madeCells, hlt, hmod, hs1, hj, hj1]
  have hrow : rowG (w.alloc (.cells (madeCells zv.cells (n.toNat * 1)) e)) e 1 (.slice (some ⟨w.heap.size, 0, none⟩) n.toNat n.toNat) (List.replicate n.toNat PV.nils).length (madeCells zv.cells (n.toNat * 1)).toList := by
   refine rowG.of (base := 0) ?_ (eltOf_lt ht)
   rw [List.length_replicate]
   refine ⟨by rw [Array.length_toList, hms], .inr ⟨w.heap.size, n.toNat, _, rfl, Nat.zero_le _, heap_alloc_new w _, Nat.le_refl _, by simp only [maxLen]; omega, hms, ?_⟩⟩
   rw [List.take_of_length_le]; rw [Array.length_toList, hms]; exact Nat.le_refl _
  have hrel1 := h.world ((BelowD.refl _ _).alloc (Nat.le_refl _) (.cells (madeCells zv.cells (n.toNat * 1)) e))
  have hsz1 : w0.w.heap.size ≤ w.heap.size := h.below.size
  have hmem : MemOk pub (w.alloc (.cells (madeCells zv.cells (n.toNat * 1)) e)) (fun _ => Go.undef) (fun _ => .undef) w0.O (treV (.slice (some ⟨w.heap.size, 0, none⟩) n.toNat n.toNat) (List.replicate n.toNat Go.undef)) (.tre e 1 (List.replicate n.toNat .nils)) := by
   refine .tre e 1 _ _ (List.replicate n.toNat Go.undef) _ rfl (by decide) (by rw [List.length_replicate]; omega) (fun p hp => by rw [List.eq_of_mem_replicate hp]; rfl) ⟨hrow, fun g hg => ?_⟩ (by simp) ?_ (fun g o hg ho => ?_) (fun j c hj => ?_)
   ·simp [Value.ownBlock] at hg; subst hg; exact .inl hsz1
   ·unfold treBs; rw [undef_blocks]; simp [Value.ownBlock]
   ·unfold treBs at hg; rw [undef_blocks] at hg
    simp [Value.ownBlock] at hg; subst hg
    have := h.pubLt _ o ho
    omega
   ·rw [flat_nilsR] at hj
    have hjl : j < n.toNat := by have := (List.getElem?_eq_some_iff.1 hj).1; simpa using this
    have hc : c = .nils := List.eq_of_mem_replicate (List.mem_of_getElem? hj)
    subst hc
    refine .inr (.inl ⟨rfl, hval j hjl, ?_⟩)
    rw [List.getD_eq_getElem?_getD, List.getElem?_replicate]
    simp [hjl]
  obtain ⟨h3, _⟩ := hrel1.adoptT (64 * d) (by omega) hm' (fun _ h => h) hmem (fun j g hj hg hgt => by
   unfold treBs at hgt; rw [undef_blocks] at hgt
   simp [Value.ownBlock] at hgt; subst hgt
   have := (h.mem j).block_lt hj hg
   omega)
  exact ⟨_, _, fun _ _ _ _ _ => .inl (run_value (by rw [h1, h2]; exact hrun)), pub, _, c1, c2, h3, .ref (.tref (64 * d) n.toNat .out _ e 1 _ (upd_same _ _ _) (by simp) (fun _ => by rw [updV_same]; exact ⟨_, _, rfl, rfl⟩))⟩
end
end Go.Px
namespace Go.Px
set_option linter.unusedSimpArgs false
set_option linter.unusedVariables false
open Go.RowKit
section
variable {w w' : World} {pub pub' : Nat → Nat → Prop} {V : Nat → Value} {m : Nat → PV} {B : Nat → Prop}
theorem flatMap_set_undef : ∀ {hs : List Value} {q : Nat} {u : Value}, q < hs.length → hs.getD q Go.undef = Go.undef → ((hs.set q u).flatMap fun u => u.ownBlock.toList).Perm (u.ownBlock.toList ++ hs.flatMap fun u => u.ownBlock.toList)
 | [], q, u, h, _ => by simp at h
 | x :: hs, 0, u, _, h => by
  have hx : x = Go.undef := h
  subst hx
  rw [List.set_cons_zero, List.flatMap_cons, List.flatMap_cons]
  exact List.Perm.refl _
 | x :: hs, q + 1, u, h, h0 => by
  rw [List.set_cons_succ, List.flatMap_cons, List.flatMap_cons]
  have ih := flatMap_set_undef (hs := hs) (q := q) (u := u) (by simpa using h) (by simpa using h0)
  refine (ih.append_left _).trans ?_
  rw [← List.append_assoc, ← List.append_assoc]
  exact (List.perm_append_comm).append_right _
theorem getD_set_self {hs : List Value} {q : Nat} {u : Value} (h : q < hs.length) : (hs.set q u).getD q Go.undef = u := by
 rw [List.getD_eq_getElem?_getD, List.getElem?_set_self h]; rfl
theorem getD_set_other {hs : List Value} {q i : Nat} {u : Value} (h : q ≠ i) : (hs.set q u).getD i Go.undef = hs.getD i Go.undef := by
 rw [List.getD_eq_getElem?_getD, List.getElem?_set_ne h, ← List.getD_eq_getElem?_getD]
theorem MemOk.tre_put {v0 : Value} {hs : List Value} {e sz g cap q e2 sz2 : Nat} {l l2 rl : List PV} {u : Value} (h : MemOk pub w V m B (treV v0 hs) (.tre e sz l)) (hv0 : v0 = .slice (some ⟨g, 0, none⟩) l.length cap) (hq : (flat l)[q]? = some .nils) (hu : u.oneCell' = true) (hr : RowOk w B u e2 sz2 rl) (hd : ∀ b, u.ownBlock = some b → b ∉ treBs v0 hs ∧ ∀ o, ¬ pub b o)
  (hlen : l2.length = l.length) (hl2 : ∀ p ∈ l2, p.cells.length = sz) (hfl : flat l2 = (flat l).set q (.obj true e2 sz2 rl)) :
  MemOk pub (w.setCell ⟨g, q, none⟩ u) V m B (treV v0 (hs.set q u)) (.tre e sz l2) := by
 obtain ⟨_, _, _, _, _, _, htc, _, hqh⟩ := h.tre_cell hq
 have hqu : hs.getD q Go.undef = Go.undef := by
  rcases htc with ⟨h, _⟩ | ⟨_, _, h⟩ | ⟨_, _, _, h, _⟩
  ·cases h
  ·exact h
  ·cases h
 cases h with
 | tre _ _ _ v1 ks xs hv hsz hmx hl how hhl hnd hp hc =>
  obtain ⟨rfl, rfl⟩ := treV_inj hv
  have hfll := flat_length hl
  have hql : q < (flat l).length := (List.getElem?_eq_some_iff.1 hq).1
  rcases how.1.2 with ⟨k1, k2⟩ | ⟨g', cap', cur, k1, k0, ⟨fr, k2, hfr⟩, k3, k4, k5, k6⟩
  ·rw [hv0] at k1; cases k1
  rw [hv0] at k1
  simp only [Value.slice.injEq, Option.some.injEq, Addr.mk.injEq, and_true, true_and] at k1
  obtain ⟨rfl, rfl⟩ := k1
  have hxs := how.1.1
  have hg0 : v0.ownBlock = some g := by rw [hv0]; rfl
  have hrow : ∀ b, b ∈ hs.flatMap (fun u => u.ownBlock.toList) → b ≠ g := fun b hb e => (List.nodup_append.1 hnd).2.2 g (by simp [hg0]) b hb e.symm
  have hug : ∀ b, u.ownBlock = some b → b ≠ g := fun b hb e => (hd b hb).1 (treBs_mem0 (by rw [e]; exact hg0))
  have hperm := flatMap_set_undef (u := u) hqh hqu
  have hmemB : ∀ b, b ∈ treBs v0 (hs.set q u) → b ∈ treBs v0 hs ∨ u.ownBlock = some b := fun b hb => by
   rcases List.mem_append.1 hb with h | h
   ·exact .inl (List.mem_append.2 (.inl h))
   ·rcases List.mem_append.1 (hperm.mem_iff.1 h) with h | h
    ·exact .inr (by simpa using h)
    ·exact .inl (List.mem_append.2 (.inr h))
  refine .tre e sz l2 v0 (hs.set q u) (xs.set q u) rfl hsz (by omega) hl2 ⟨⟨by rw [List.length_set, hlen]; exact hxs, .inr ⟨g, cap, _, by rw [hlen]; exact hv0, k0, ⟨fr, setCell_heap k2, hfr.size (by simp)⟩, by omega, k4, by simpa using k5, ?_⟩⟩, how.2⟩ (by rw [List.length_set, hlen]; exact hhl) ?_ (fun b o hb => ?_) (fun i c hi => ?_)
  ·rw [hlen, Array.toList_setIfInBounds, List.take_set, k6]
  ·unfold treBs
   have hpm : (v0.ownBlock.toList ++ (hs.set q u).flatMap fun u => u.ownBlock.toList).Perm (u.ownBlock.toList ++ treBs v0 hs) := by
    refine (hperm.append_left _).trans ?_
    unfold treBs
    rw [← List.append_assoc, ← List.append_assoc]
    exact (List.perm_append_comm).append_right _
   refine hpm.nodup_iff.2 ?_
   ·refine List.nodup_append.2 ⟨?_, hnd, fun a ha b hb e => ?_⟩
    ·cases u.ownBlock <;> simp
    ·exact (hd a (by simpa using ha)).1 (e ▸ hb)
  ·rcases hmemB b hb with h | h
   ·exact hp b o h
   ·exact (hd b h).2 o
  ·rw [hfl, List.getElem?_set] at hi
   by_cases hqi : q = i
   ·subst hqi
    rw [if_pos rfl, if_pos hql] at hi
    cases hi
    rw [getD_set_self (by omega), getD_set_self hqh]
    exact .inr (.inr ⟨e2, sz2, rl, rfl, rfl, hr.of_block fun b hb => setCell_other (hug b hb)⟩)
   ·rw [if_neg hqi] at hi
    rw [getD_set_other hqi, getD_set_other hqi]
    have hil : i < hs.length := by
     have := (List.getElem?_eq_some_iff.1 hi).1; omega
    exact (hc i c hi).of_block fun b hb => setCell_other (hrow b (hs_block hil hb))
end
section
variable {P : Program} {σ : Operand → PV} {m : Nat → PV} {d : Nat}
theorem AOp.stRow (t : TypeId) (x y : Operand) (n j i off e sz q K k e2 sz2 : Nat) (l l2 rl : List PV) (ht : shp P t = some (false, 1)) (hx : σ x = .tref n j (.cell i off)) (hm : m n = .tre e sz l) (hj : j = l.length) (hq : q = i * sz + off) (hc : (flat l)[q]? = some .nils) (hy : σ y = .own K k) (hK : m K = .obj true e2 sz2 rl) (hk : k = rl.length) (hlit : ∀ c ∈ flat rl, litC c)
  (hn63 : n % 64 ≠ 63) (hK63 : K % 64 ≠ 63) (hlen : l2.length = l.length) (hl2 : ∀ p ∈ l2, p.cells.length = sz) (hfl : flat l2 = (flat l).set q (.obj true e2 sz2 rl)) :
  AOp P σ m d (.store t x y) .undef [(n, .tre e sz l2), (K, .yreg false false)] [n, K] :=
 .sem _ _ _ _ fun N w0 pub0 s a w e1 e2' hR => by
  obtain ⟨pub, V, c1, c2, h⟩ := hR
  have hx' := (e1 x (by simp [Op.operands])).trans hx
  have hy' := (e1 y (by simp [Op.operands])).trans hy
  have hm' := (e2' n (by simp)).trans hm
  have hK' := (e2' K (by simp)).trans hK
  obtain ⟨v0, hs, hV, hmn, v1, ks, g, cap, h1, h2, h3⟩ := h.treAtS hx' hm' hj
  obtain ⟨rfl, rfl⟩ := treV_inj h1
  have hye := h.ev y
  rw [hy'] at hye
  obtain ⟨_, _, _, _, hy1, _, hy2⟩ := hye.own_inv (fun e => by rw [hK'] at e; cases e)
  rw [hK'] at hy1; cases hy1
  have hyv := hy2 hk
  have hmK := h.mem K
  rw [hK'] at hmK
  have hnK : n ≠ K := fun e => by rw [e, hK'] at hm'; cases hm'
  have hrow := hmK.rowOk hlit
  have hob := hmK.obj_block
  have hun : s.mem n ≠ .undef := by rw [hm']; intro e; cases e
  have huK : s.mem K ≠ .undef := by rw [hK']; intro e; cases e
  have huo : (V K).oneCell' = true := by
   obtain ⟨_, _, _, _, how, _⟩ := hrow
   rcases how.1.2 with ⟨h, _⟩ | ⟨_, _, _, h, _⟩ <;> rw [h] <;> rfl
  have hKb : ∀ b, (V K).ownBlock = some b → inB (V K) b := fun b hb => .inl (hob.1.trans hb)
  have hd : ∀ b, (V K).ownBlock = some b → b ∉ treBs v0 hs ∧ ∀ o, ¬ pub b o := fun b hb => by
   refine ⟨fun hin => hnK (h.apart n K b hun huK (by rw [hV]; exact inB_tre.2 hin) (hKb b hb)), fun o => ?_⟩
   have hK2 := hmK
   generalize hvK : V K = vK at hK2 hb
   cases hK2 with
   | obj _ _ _ _ xs hsz hmx hll how hp hq hc => exact fun ho => by have := (hp b o hb ho).1; cases this
  obtain ⟨_, _, u0, h4, h5, h6, h7, h8, h9⟩ := hmn.tre_cell hc
  rw [h2] at h4
  simp only [Value.slice.injEq, Option.some.injEq, Addr.mk.injEq, and_true, true_and] at h4
  obtain ⟨rfl, rfl⟩ := h4
  have hrun := run_storeVar_at (P := P) ht huo h5 h8
  have hput := hmn.tre_put h2 hc huo hrow hd hlen hl2 hfl
  have hgb : g ∈ treBs v0 hs := treBs_mem0 (by rw [h2]; rfl)
  let V' := updV (updV V n (treV v0 (hs.set q (V K)))) K (.agg #[.int .i64 0, .int .i64 0])
  let m' := upd (upd s.mem n (.tre e sz l2)) K (.yreg false false)
  have vK : V' K = .agg #[.int .i64 0, .int .i64 0] := updV_same _ _ _
  have vn : V' n = treV v0 (hs.set q (V K)) := (updV_ne _ _ hnK).trans (updV_same _ _ _)
  have vo : ∀ c, c ≠ n → c ≠ K → V' c = V c := fun c h1 h2 => (updV_ne _ _ h2).trans (updV_ne _ _ h1)
  have mK : m' K = .yreg false false := upd_same _ _ _
  have mn : m' n = .tre e sz l2 := (upd_ne _ _ hnK).trans (upd_same _ _ _)
  have mo : ∀ c, c ≠ n → c ≠ K → m' c = s.mem c := fun c h1 h2 => (upd_ne _ _ h2).trans (upd_ne _ _ h1)
  have hKno : ∀ b, ¬ inB (V' K) b := fun b hb => by
   rw [vK] at hb
   rcases hb with hb | hb
   ·cases hb
   ·have := regB_int hb (lo := 0) (hi := 0) rfl
    omega
  have hhs : ∀ b, b ∈ treBs v0 (hs.set q (V K)) → b ∈ treBs v0 hs ∨ (V K).ownBlock = some b := fun b hb => by
   have hqu : hs.getD q Go.undef = Go.undef := by
    rcases h7 with ⟨h, _⟩ | ⟨_, _, h⟩ | ⟨_, _, _, h, _⟩
    ·cases h
    ·exact h
    ·cases h
   rcases List.mem_append.1 hb with h | h
   ·exact .inl (List.mem_append.2 (.inl h))
   ·rcases List.mem_append.1 ((flatMap_set_undef (u := V K) h9 hqu).mem_iff.1 h) with h | h
    ·exact .inr (by simpa using h)
    ·exact .inl (List.mem_append.2 (.inr h))
  have hrow2 : ∀ (i e3 sz3 : Nat) (r3 : List PV), (flat l)[i]? = some (.obj true e3 sz3 r3) → (flat l2)[i]? = some (.obj true e3 sz3 r3) ∧ (hs.set q (V K)).getD i Go.undef = hs.getD i Go.undef := fun i e3 sz3 r3 hi => by
   have hne : q ≠ i := fun e => by rw [← e, hc] at hi; cases hi
   exact ⟨by rw [hfl, List.getElem?_set_ne hne]; exact hi, getD_set_other hne⟩
  have tv : ∀ tp u, TVal (V n) sz l tp u → TVal (V' n) sz l2 tp u := fun tp u ht => by
   rw [hV] at ht; rw [vn]
   cases tp with
   | out => obtain ⟨a0, b0, q1, q2⟩ := ht; obtain ⟨rfl, rfl⟩ := treV_inj q1; exact ⟨_, _, rfl, q2⟩
   | cell i1 o1 => obtain ⟨a0, b0, b1, cap1, q1, q2, q3⟩ := ht; obtain ⟨rfl, rfl⟩ := treV_inj q1; exact ⟨_, _, b1, cap1, rfl, by rw [hlen]; exact q2, q3⟩
   | row i1 =>
    obtain ⟨a0, b0, e3, sz3, r3, q1, q2, q3⟩ := ht; obtain ⟨rfl, rfl⟩ := treV_inj q1
    obtain ⟨z1, z2⟩ := hrow2 _ _ _ _ q2
    exact ⟨_, _, e3, sz3, r3, rfl, z1, by rw [z2]; exact q3⟩
   | elem i1 j1 o1 =>
    obtain ⟨a0, b0, e3, sz3, r3, b3, cap3, q1, q2, q3, q4⟩ := ht; obtain ⟨rfl, rfl⟩ := treV_inj q1
    obtain ⟨z1, z2⟩ := hrow2 _ _ _ _ q2
    exact ⟨_, _, e3, sz3, r3, b3, cap3, rfl, z1, by rw [z2]; exact q3, q4⟩
   | clo f1 ns1 => exact ht
  have nz : ∀ c p, s.mem c = p → (∀ e sz l, p ≠ .tre e sz l) → (∀ x e sz l, p ≠ .obj x e sz l) → c ≠ n ∧ c ≠ K := fun c p hp a1 a2 => ⟨fun e => by rw [e, hm'] at hp; exact a1 _ _ _ hp.symm, fun e => by rw [e, hK'] at hp; exact a2 _ _ _ _ hp.symm⟩
  have refs : ∀ p u, RefOk V s.mem p u → RefOk V' m' p u := by
   intro p u hq
   have cn : ∀ {c : Nat} {p}, s.mem c = p → (∀ e sz l, p ≠ .tre e sz l) → (∀ x e sz l, p ≠ .obj x e sz l) → m' c = p ∧ V' c = V c := fun {c p} hp a1 a2 => by
    obtain ⟨z1, z2⟩ := nz c p hp a1 a2
    exact ⟨(mo c z1 z2).trans hp, vo c z1 z2⟩
   have on : ∀ {c : Nat} {x e sz l}, s.mem c = .obj x e sz l → c ≠ n := fun {c x e sz l} hp e => by rw [e, hm'] at hp; cases hp
   cases hq with
   | own c k1 _ x e sz l hm1 hk hh =>
    by_cases hcK : c = K
    ·subst hcK; exact .gone c k1 u mK
    ·exact .own c k1 u x e sz l ((mo c (on hm1) hcK).trans hm1) hk (fun e => by rw [vo c (on hm1) hcK]; exact hh e)
   | gone c _ _ hm1 => exact .gone c _ _ (cn hm1 (fun _ _ _ e => by cases e) (fun _ _ _ _ e => by cases e)).1
   | goneE c _ _ _ _ hm1 => exact .goneE c _ _ _ _ (cn hm1 (fun _ _ _ e => by cases e) (fun _ _ _ _ e => by cases e)).1
   | goneO c _ _ _ _ hm1 => exact .goneO c _ _ _ _ (cn hm1 (fun _ _ _ e => by cases e) (fun _ _ _ _ e => by cases e)).1
   | lptr c off x cs b hm1 hv =>
    obtain ⟨z1, z2⟩ := cn hm1 (fun _ _ _ e => by cases e) (fun _ _ _ _ e => by cases e)
    exact .lptr c off x cs b z1 (z2.trans hv)
   | eptr c j1 i1 off _ x e sz l hm1 hk hh =>
    by_cases hcK : c = K
    ·subst hcK; exact .goneE c j1 i1 off u mK
    ·exact .eptr c j1 i1 off u x e sz l ((mo c (on hm1) hcK).trans hm1) hk (fun e => by rw [vo c (on hm1) hcK]; exact hh e)
   | osl c j1 i1 i2 _ x e sz l hm1 hk hij hh =>
    by_cases hcK : c = K
    ·subst hcK; exact .goneO c j1 i1 i2 u mK
    ·exact .osl c j1 i1 i2 u x e sz l ((mo c (on hm1) hcK).trans hm1) hk hij (fun e => by rw [vo c (on hm1) hcK]; exact hh e)
   | clo k1 f1 ns1 arr1 hs1 hc1 =>
    refine .clo k1 f1 ns1 arr1 hs1 (fun j1 c1 hj1 => ?_)
    have h0 := hc1 j1 c1 hj1
    generalize arr1.getD j1 Go.undef = y1 at h0 ⊢
    cases h0 with
    | lptr _ _ x cs b hm1 hv =>
     obtain ⟨z1, z2⟩ := cn hm1 (fun _ _ _ e => by cases e) (fun _ _ _ _ e => by cases e)
     exact .lptr c1 0 x cs b z1 (z2.trans hv)
   | tref c j1 tp _ e1' sz' l' hm1 hk hh =>
    have hcK : c ≠ K := fun e => by rw [e, hK'] at hm1; cases hm1
    by_cases hcn : c = n
    ·subst hcn
     rw [hm'] at hm1; cases hm1
     exact .tref c j1 tp u e sz l2 mn (by omega) (fun e => tv tp u (hh (by omega)))
    ·exact .tref c j1 tp u e1' sz' l' ((mo c hcn hcK).trans hm1) hk (fun e => by rw [vo c hcn hcK]; exact hh e)
  have hnpub : ∀ o, ¬ pub g o := fun o => (hmn.tre_block (inB_tre.2 hgb)).2 o
  have hgO : w0.O g := (hmn.tre_block (inB_tre.2 hgb)).1.1
  have hsize : w.heap.size ≤ (w.setCell ⟨g, q, none⟩ (V K)).heap.size := by simp [World.setCell]
  have t : Tr pub w V s.mem pub (w.setCell ⟨g, q, none⟩ (V K)) V' m' (fun c => c = n ∨ c = K) :=
   ⟨fun _ _ h => h, fun b o ho => cellOB' (setCell_other (fun e => hnpub o (by rw [← e]; exact ho))), refs, fun c hc _ => vo c (fun e => hc (.inl e)) (fun e => hc (.inr e)), fun c hc => mo c (fun e => hc (.inl e)) (fun e => hc (.inr e)),
   fun c b hc hu hb => ⟨setCell_other (fun e => hc (.inl (h.apart c n b hu hun hb (by rw [hV, e]; exact inB_tre.2 hgb)))), fun _ h => h⟩, fun c s' own hT hmc => by
    rcases hT with rfl | rfl
    ·rw [hm'] at hmc; cases hmc
    ·rw [hK'] at hmc; cases hmc⟩
  have hbel : BelowB w0 w (w.setCell ⟨g, q, none⟩ (V K)) := ⟨rfl, rfl, rfl, hsize, fun c hc => setCell_other (fun e => hc (e ▸ hgO)), Nat.le_refl _⟩
  have hrel := h.turn t hbel (fun c hc => vo c (fun e => hn63 (e ▸ hc)) (fun e => hK63 (e ▸ hc))) (fun b o ho => Nat.lt_of_lt_of_le (h.pubLt b o ho) hsize) (fun c hc => by
   rcases hc with rfl | rfl
   ·rw [vn, mn]; exact hput.tre_rebase fun _ h => h
   ·rw [vK, mK]; exact .yreg false false 0 0 rfl (Nat.zero_le _) (fun b o h1 h2 => by omega) (fun b h1 h2 => by omega)) (fun c k1 b hne u1 u2 i1 i2 => by
   have hcK : c ≠ K := fun e => hKno b (e ▸ i1)
   have hkK : k1 ≠ K := fun e => hKno b (e ▸ i2)
   have key : ∀ c k1, c ≠ k1 → c ≠ K → k1 ≠ K → m' k1 ≠ .undef → c = n → inB (V' c) b → inB (V' k1) b → False := fun c k1 hne hcK hkK u2 hcn i1 i2 => by
    subst hcn
    have hkn : k1 ≠ c := fun e => hne e.symm
    rw [vn] at i1; rw [vo k1 hkn hkK] at i2; rw [mo k1 hkn hkK] at u2
    rcases hhs b (inB_tre.1 i1) with hh' | h'
    ·exact hne (h.apart c k1 b hun u2 (by rw [hV]; exact inB_tre.2 hh') i2)
    ·exact hkK (h.apart k1 K b u2 huK i2 (hKb b h'))
   by_cases hcn : c = n
   ·exact key c k1 hne hcK hkK u2 hcn i1 i2
   ·by_cases hkn : k1 = n
    ·exact key k1 c (Ne.symm hne) hkK hcK u1 hkn i2 i1
    ·rw [mo c hcn hcK] at u1; rw [mo k1 hkn hkK] at u2; rw [vo c hcn hcK] at i1; rw [vo k1 hkn hkK] at i2
     exact hne (h.apart c k1 b u1 u2 i1 i2)) (fun c own hc hmc => by
   have z1 : c ≠ n := fun e => hn63 (e ▸ hc)
   have z2 : c ≠ K := fun e => hK63 (e ▸ hc)
   rwa [mo c z1 z2] at hmc) (fun b o ho hb0 => by
   rw [frozenOB' (setCell_other (fun e => hnpub o (by rw [← e]; exact ho)))]
   exact h.soft b o ho hb0)
  exact ⟨Go.undef, _, fun _ _ _ _ _ => .inr ⟨run_skip (by rw [h3, hyv, ← hq]; exact hrun), rfl⟩, pub, V', c1, c2, hrel, .undef _⟩
end

section
variable {P : Program} {σ : Operand → PV} {m : Nat → PV} {d : Nat}
theorem AOp.storeT (t : TypeId) (x y : Operand) (n off K k e sz : Nat) (cs l : List PV) (ht : shp P t = some (false, 1)) (hx : σ x = .lptr n off) (hm : m n = .blk true cs) (hy : σ y = .tref K k .out) (hK : m K = .tre e sz l) (hk : k = l.length) (hfit : off + 1 ≤ cs.length) :
  AOp P σ m d (.store t x y) .undef [(n, .blk true (cs.take off ++ [.tref K k .out] ++ cs.drop (off + 1)))] [n, K] :=
 .sem _ _ _ _ fun N w0 pub0 s a w e1 e2 hR => by
  obtain ⟨pub, V, c1, c2, h⟩ := hR
  have hx' := (e1 x (by simp [Op.operands])).trans hx
  have hy' := (e1 y (by simp [Op.operands])).trans hy
  have hm' := (e2 n (by simp)).trans hm
  have hK' := (e2 K (by simp)).trans hK
  obtain ⟨x', cs', b, hm2, hb, h1⟩ := (hx' ▸ h.ev x).lptr_inv
  rw [hm'] at hm2; cases hm2
  obtain ⟨v0, hs, hV, hmn, v1, ks, h2, h3⟩ := h.treAtS hy' hK' hk
  obtain ⟨rfl, rfl⟩ := treV_inj h2
  have hone : (a.eval y).oneCell' = true := by
   rw [h3]
   cases hmn with
   | tre _ _ _ v2 k2 xs hv hsz hmx hl how hhl hnd hp hc =>
    obtain ⟨rfl, rfl⟩ := treV_inj hv
    rcases how.1.2 with ⟨h, _⟩ | ⟨_, _, _, h, _⟩ <;> rw [h] <;> rfl
  have hcells : (a.eval y).cells = #[a.eval y] := by
   generalize a.eval y = v at hone
   cases v <;> first | rfl | simp [Value.oneCell'] at hone
  have hye := h.ev y
  rw [hy'] at hye
  obtain ⟨w', hw, hrel⟩ := h.storeBlkC (P := P) (off := off) (p := .tref K k .out) (v := a.eval y) hm' hb ht ⟨by rw [hcells]; rfl, fun j c hj => by
   match j, hj with
   | 0, hj =>
    cases hj
    rw [hcells]
    exact ⟨hone, hye⟩
   | j + 1, hj => simp [PV.cells] at hj⟩ rfl hfit
  exact ⟨Go.undef, w', fun _ _ _ _ _ => .inr ⟨run_skip (by rw [h1]; exact hw), rfl⟩, pub, V, c1, c2, hrel, .undef _⟩
end
def rowN (e sz : Nat) : List PV → PV
 | [] => .nils
 | l => .obj true e sz l
theorem rowN_ne {e sz : Nat} : ∀ {l : List PV}, l ≠ [] → rowN e sz l = .obj true e sz l
 | [], h => absurd rfl h
 | _ :: _, _ => rfl
theorem rowN_cells (e sz : Nat) : ∀ l : List PV, (rowN e sz l).cells = [rowN e sz l]
 | [] => rfl
 | _ :: _ => rfl
theorem rowN_len (e sz : Nat) (l : List PV) : (rowN e sz l).cells.length = 1 := by rw [rowN_cells]; rfl
theorem neL_ne {α : Type} {l r : List α} (h : neL l = some r) : l ≠ [] := (neL_spec h).2
theorem setL_ne {α : Type} {l : List α} (i : Int) (v : α) (h : l ≠ []) : setL l i v ≠ [] := fun e => h (by
 have := congrArg List.length e
 simp only [setL, List.length_set, List.length_nil] at this
 exact List.eq_nil_of_length_eq_zero this)
theorem rowN_at {α : Type} {f : α → PV} {e sz : Nat} {L : List (List α)} {x : List α} {i : Int} (hv : idxL L i = some x) (hx : x ≠ []) : (flat (L.map fun r => rowN e sz (r.map f)))[i.toNat * 1 + 0]? = some (.obj true e sz (x.map f)) :=
 flat_at2 (off := 0) (by exact cells_map (f := fun r => rowN e sz (List.map f r)) (fun _ => rowN_len _ _ _)) (idxL_map (fun r => rowN e sz (List.map f r)) hv) (by rw [rowN_cells, rowN_ne (by simpa using hx)]; rfl)
theorem rowN_at0 {α : Type} {f : α → PV} {e sz : Nat} {L : List (List α)} {x : List α} {i : Int} (hv : idxL L i = some x) (hx : x = []) : (flat (L.map fun r => rowN e sz (r.map f)))[i.toNat * 1 + 0]? = some .nils :=
 flat_at2 (off := 0) (by exact cells_map (f := fun r => rowN e sz (List.map f r)) (fun _ => rowN_len _ _ _)) (idxL_map (fun r => rowN e sz (List.map f r)) hv) (by subst hx; rfl)
theorem rowN_put {α : Type} {f : α → PV} {e sz : Nat} {L : List (List α)} {x y : List α} {i : Int} (hv : idxL L i = some x) (hy : y ≠ []) : flat ((setL L i y).map fun r => rowN e sz (r.map f)) = (flat (L.map fun r => rowN e sz (r.map f))).set (i.toNat * 1 + 0) (.obj true e sz (y.map f)) := by
 rw [← setL_map]
 exact flat_setC (by exact cells_map (f := fun r => rowN e sz (List.map f r)) (fun _ => rowN_len _ _ _)) (idxL_map (fun r => rowN e sz (List.map f r)) hv) (by rw [rowN_cells, rowN_cells, rowN_ne (l := y.map f) (by simpa using hy)]; rfl) (by decide)
theorem rowN_all {α : Type} {f : α → PV} {e sz : Nat} (L : List (List α)) : ∀ q ∈ L.map fun r => rowN e sz (r.map f), q.cells.length = 1 := by
 exact cells_map (f := fun r => rowN e sz (List.map f r)) (fun _ => rowN_len _ _ _)
def nilL {α : Type} (l : List α) : Option Unit := bif l.isEmpty then some () else none
theorem nilL_spec {α : Type} {l : List α} {u : Unit} (h : nilL l = some u) : l = [] := by
 unfold nilL at h
 cases l with
 | nil => rfl
 | cons x l => cases h
def sameN {α : Type} (a b : List (List α)) : Option Unit := bif a.map List.isEmpty == b.map List.isEmpty then some () else none
theorem sameN_spec {α : Type} {a b : List (List α)} {u : Unit} (h : sameN a b = some u) : b.map List.isEmpty = a.map List.isEmpty := by
 unfold sameN at h
 cases hc : (a.map List.isEmpty == b.map List.isEmpty)
 ·rw [hc] at h; cases h
 ·exact (LawfulBEq.eq_of_beq hc).symm
theorem sameN_len {α : Type} {a b : List (List α)} {u : Unit} (h : sameN a b = some u) : b.length = a.length := by
 have := congrArg List.length (sameN_spec h)
 simpa using this
theorem flat_rowN {α : Type} (f : α → PV) (e sz : Nat) : ∀ L : List (List α), flat (L.map fun r => rowN e sz (r.map f)) = L.map fun r => rowN e sz (r.map f)
 | [] => rfl
 | x :: L => by rw [List.map_cons, flat_cons, flat_rowN f e sz L, rowN_cells]; rfl
theorem sameN_shape {α : Type} {f : α → PV} {e sz : Nat} {a b : List (List α)} {u : Unit} (h : sameN a b = some u) : ShapeT (a.map fun r => rowN e sz (r.map f)) (b.map fun r => rowN e sz (r.map f)) := fun i e2 sz2 rl hi => by
 rw [flat_rowN] at hi ⊢
 have hs := sameN_spec h
 rw [List.getElem?_map, Option.map_eq_some_iff] at hi
 obtain ⟨x, hx, hxe⟩ := hi
 have h1 : (a.map List.isEmpty)[i]? = some x.isEmpty := by rw [List.getElem?_map, hx]; rfl
 rw [← hs, List.getElem?_map, Option.map_eq_some_iff] at h1
 obtain ⟨y, hy, hye⟩ := h1
 have hxn : x ≠ [] := fun e => by subst e; cases hxe
 have hyn : y ≠ [] := fun e => by subst e; cases x with
  | nil => exact hxn rfl
  | cons _ _ => cases hye
 rw [rowN_ne (by simpa using hxn)] at hxe
 cases hxe
 exact ⟨y.map f, by rw [List.getElem?_map, hy]; exact congrArg some (rowN_ne (by simpa using hyn))⟩
def allNe {α : Type} (l : List (List α)) : Option (List (List α)) := bif l.any List.isEmpty then none else some l
theorem allNe_map {α : Type} {f : α → PV} {e sz : Nat} {l r : List (List α)} (h : allNe l = some r) : l.map (fun r => rowN e sz (r.map f)) = r.map fun r => .obj true e sz (r.map f) := by
 unfold allNe at h
 cases hc : l.any List.isEmpty
 ·rw [hc] at h
  cases h
  refine List.map_congr_left fun x hx => rowN_ne ?_
  intro e
  have : l.any List.isEmpty = true := List.any_eq_true.2 ⟨x, hx, by simpa using e⟩
  rw [hc] at this; cases this
 ·rw [hc] at h; cases h
theorem makeL_nils {α : Type} {f : α → PV} {e sz : Nat} {n : Int} {v : List (List α)} (h : makeL ([] : List α) n = some v) : List.replicate n.toNat PV.nils = v.map fun r => rowN e sz (r.map f) := by
 obtain ⟨_, _, rfl⟩ := makeL_spec h
 rw [List.map_replicate]; rfl
theorem makeL_len {α : Type} {z : α} {n : Int} {v : List α} (h : makeL z n = some v) : n.toNat = v.length := by
 obtain ⟨_, _, rfl⟩ := makeL_spec h
 simp
section
variable {P : Program} {N : Nat} {all : Array Oper} {F : Nat → Foot} {i : Nat} {rest : List Oper} {S M : List (Nat × PV)} {K : St → Prop} {d : Nat} {ty : TypeId} {pos : String} {after : Array Edge}
theorem X.makeT {α : Type} {f : α → PV} {t : TypeId} {x y : Operand} {e by' e2 sz2 : Nat} {k k' : IntKind} {n : Int} {v : List (List α)} (hv : makeL ([] : List α) n = some v) (ht : eltOf P t = some (e, 1, by')) (hz : zeroPV P e = some [.nils]) (hx : evO S x = some (.lit (.int k n))) (hy : evO S y = some (.lit (.int k' n))) (hb : Nat.ble by' 128 = true) (hm : look M (64 * d) = none) (hd : Nat.ble (d + 1) N = true) (hF : (F i).okB [64 * d] [64 * d] = true)
  (h : SLx P N all F (i + 1) rest (St.of ((d, .tref (64 * d) (v.map fun r => rowN e2 sz2 (r.map f)).length .out) :: S) ((64 * d, .tre e 1 (v.map fun r => rowN e2 sz2 (r.map f))) :: M)) K) :
  SLx P N all F i (⟨some d, .makeSlice t x y, ty, pos, after, none⟩ :: rest) (St.of S M) K := by
 obtain ⟨h1, h2, _⟩ := makeL_spec hv
 have ha := AOp.makeT (P := P) (σ := (St.of S M).ev) (m := (St.of S M).mem) (d := d) t x y e by' k k' n ht hz (evO_spec hx) (evO_spec hy) (by omega) (by omega) (Nat.le_of_ble_eq_true hb) (look_none hm)
 rw [makeL_nils (f := f) (e := e2) (sz := sz2) hv, makeL_len hv] at ha
 rw [List.length_map] at h
 exact X.ofOp (U := [(64 * d, _)]) (R := [64 * d]) ha hd hF h
theorem X.stRow {t : TypeId} {x y : Operand} {n j k off e sz K' k' e2 sz2 : Nat} {l l2 rl : List PV} (ht : shp P t = some (false, 1)) (hc : (flat l)[k * sz + off]? = some .nils) (hlit : ∀ c ∈ flat rl, litC c) (hlen : l2.length = l.length) (hl2 : ∀ p ∈ l2, p.cells.length = sz) (hfl : flat l2 = (flat l).set (k * sz + off) (.obj true e2 sz2 rl)) (hj : j = l.length) (hk : k' = rl.length) (h : SLx P N all F (i + 1) rest (St.of S ((K', .yreg false false) :: (n, .tre e sz l2) :: M)) K)
  (hx : evO S x = some (.tref n j (.cell k off)) := by rfl) (hm : look M n = some (.tre e sz l) := by rfl) (hy : evO S y = some (.own K' k') := by rfl) (hK : look M K' = some (.obj true e2 sz2 rl) := by rfl) (hn : Nat.beq (n % 64) 63 = false := by rfl) (hn2 : Nat.beq (K' % 64) 63 = false := by rfl) (hF : (F i).okB [n, K'] [n, K'] = true := by rfl) :
  SLx P N all F i (⟨none, .store t x y, ty, pos, after, none⟩ :: rest) (St.of S M) K :=
 X.ofOp0 (v := .undef) (U := [(n, .tre e sz l2), (K', .yreg false false)]) (R := [n, K']) (.stRow t x y n j k off e sz _ K' k' e2 sz2 l l2 rl ht (evO_spec hx) (look_mem hm) hj rfl hc (evO_spec hy) (look_mem hK) hk hlit (fun e => by rw [e] at hn; cases hn) (fun e => by rw [e] at hn2; cases hn2) hlen hl2 hfl) hF h
theorem X.storeT {t : TypeId} {x y : Operand} {n off K' k e sz : Nat} {cs cs' l : List PV} (ht : shp P t = some (false, 1)) (hx : evO S x = some (.lptr n off)) (hm : look M n = some (.blk true cs)) (hy : evO S y = some (.tref K' k .out)) (hK : look M K' = some (.tre e sz l)) (hk : k = l.length) (hcs : cs.take off ++ [.tref K' k .out] ++ cs.drop (off + 1) = cs') (hfit : Nat.ble (off + 1) cs.length = true) (h : SLx P N all F (i + 1) rest (St.of S ((n, .blk true cs') :: M)) K)
  (hF : (F i).okB [n, K'] [n] = true := by rfl) :
  SLx P N all F i (⟨none, .store t x y, ty, pos, after, none⟩ :: rest) (St.of S M) K := by
 subst hcs
 exact X.ofOp0 (v := .undef) (U := [(n, _)]) (R := [n, K']) (.storeT t x y n off K' k e sz cs l ht (evO_spec hx) (look_mem hm) (evO_spec hy) (look_mem hK) hk (Nat.le_of_ble_eq_true hfit)) hF h
theorem X.idxT2 {t : TypeId} {x y : Operand} {n j e sz by' : Nat} {l : List PV} {kk : IntKind} {z : Int} (ht : eltOf P t = some (e, sz, by')) (hx : evO S x = some (.tref n j .out)) (hm : look M n = some (.tre e sz l)) (hy : evO S y = some (.lit (.int kk z))) (hz : 0 ≤ z ∧ z < l.length) (hj : j = l.length) (hd : Nat.ble (d + 1) N = true) (hF : (F i).okB [n] [] = true) (h : SLx P N all F (i + 1) rest (St.of ((d, .tref n j (.cell z.toNat 0)) :: S) M) K) :
  SLx P N all F i (⟨some d, .indexAddr t x y, ty, pos, after, none⟩ :: rest) (St.of S M) K :=
 X.idxT (ht := ht) (hz := hz) (hj := hj) (h := h) (hx := hx) (hm := hm) (hy := hy) (hd := hd) (hF := hF)
theorem X.ldRow2 {t : TypeId} {x : Operand} {n j k off e sz e2 sz2 : Nat} {l rl : List PV} (ht : shp P t = some (false, 1)) (hx : evO S x = some (.tref n j (.cell k off))) (hm : look M n = some (.tre e sz l)) (hc : (flat l)[k * sz + off]? = some (.obj true e2 sz2 rl)) (hj : j = l.length) (hd : Nat.ble (d + 1) N = true) (hF : (F i).okB [n] [] = true) (h : SLx P N all F (i + 1) rest (St.of ((d, .tref n j (.row (k * sz + off))) :: S) M) K) :
  SLx P N all F i (⟨some d, .load t x, ty, pos, after, none⟩ :: rest) (St.of S M) K :=
 X.ldRow (ht := ht) (hc := hc) (hj := hj) (h := h) (hx := hx) (hm := hm) (hd := hd) (hF := hF)
theorem X.idxR2 {t : TypeId} {x y : Operand} {n j q e sz e2 sz2 by' : Nat} {l rl : List PV} {kk : IntKind} {z : Int} (ht : eltOf P t = some (e2, sz2, by')) (hx : evO S x = some (.tref n j (.row q))) (hm : look M n = some (.tre e sz l)) (hy : evO S y = some (.lit (.int kk z))) (hc : (flat l)[q]? = some (.obj true e2 sz2 rl)) (hz : 0 ≤ z ∧ z < rl.length) (hj : j = l.length) (hd : Nat.ble (d + 1) N = true) (hF : (F i).okB [n] [] = true) (h : SLx P N all F (i + 1) rest (St.of ((d, .tref n j (.elem q z.toNat 0)) :: S) M) K) :
  SLx P N all F i (⟨some d, .indexAddr t x y, ty, pos, after, none⟩ :: rest) (St.of S M) K :=
 X.idxR (ht := ht) (hc := hc) (hz := hz) (hj := hj) (h := h) (hx := hx) (hm := hm) (hy := hy) (hd := hd) (hF := hF)
theorem X.ldE2 {t : TypeId} {x : Operand} {n j q k off e sz e2 sz2 : Nat} {l rl : List PV} {u : Value} (ht : shp P t = some (false, 1)) (hx : evO S x = some (.tref n j (.elem q k off))) (hm : look M n = some (.tre e sz l)) (hc : (flat l)[q]? = some (.obj true e2 sz2 rl)) (hu : (flat rl)[k * sz2 + off]? = some (.lit u)) (hj : j = l.length) (hd : Nat.ble (d + 1) N = true) (hF : (F i).okB [n] [] = true) (h : SLx P N all F (i + 1) rest (St.of ((d, .lit u) :: S) M) K) :
  SLx P N all F i (⟨some d, .load t x, ty, pos, after, none⟩ :: rest) (St.of S M) K :=
 X.ldE (ht := ht) (hc := hc) (hu := hu) (hj := hj) (h := h) (hx := hx) (hm := hm) (hd := hd) (hF := hF)
theorem X.stE2 {t : TypeId} {x y : Operand} {n j q k off e sz e2 sz2 : Nat} {l l2 rl rl2 : List PV} {u0 u1 : Value} (ht : shp P t = some (false, 1)) (hx : evO S x = some (.tref n j (.elem q k off))) (hm : look M n = some (.tre e sz l)) (hy : evO S y = some (.lit u1)) (hc : (flat l)[q]? = some (.obj true e2 sz2 rl)) (hu : (flat rl)[k * sz2 + off]? = some (.lit u0)) (hrl : rl2.length = rl.length) (hrl2 : ∀ p ∈ rl2, p.cells.length = sz2) (hfr : flat rl2 = (flat rl).set (k * sz2 + off) (.lit u1)) (hlen : l2.length = l.length) (hl2 : ∀ p ∈ l2, p.cells.length = sz) (hfl : flat l2 = (flat l).set q (.obj true e2 sz2 rl2)) (hj : j = l.length) (hF : (F i).okB [n] [n] = true) (h : SLx P N all F (i + 1) rest (St.of S ((n, .tre e sz l2) :: M)) K) :
  SLx P N all F i (⟨none, .store t x y, ty, pos, after, none⟩ :: rest) (St.of S M) K :=
 X.stE (ht := ht) (hc := hc) (hu := hu) (hrl := hrl) (hrl2 := hrl2) (hfr := hfr) (hlen := hlen) (hl2 := hl2) (hfl := hfl) (hj := hj) (h := h) (hx := hx) (hm := hm) (hy := hy) (hF := hF)
theorem St.tell {S M : List (Nat × PV)} {n : Nat} {p p' : PV} (hm : look M n = some p) (e : p = p') : St.of S ((n, p') :: M) = St.of S M := by
 have h1 : upd (St.of S M).mem n p' = (St.of S ((n, p') :: M)).mem := look_upd M n p'
 have h2 : upd (St.of S M).mem n p' = (St.of S M).mem := by
  funext k
  by_cases hk : k = n
  ·subst hk; rw [upd_same, look_mem hm, e]
  ·rw [upd_ne _ _ hk]
 show (⟨(St.of S M).slot, (St.of S ((n, p') :: M)).mem⟩ : St) = St.of S M
 rw [← h1, h2]
theorem X.tell {n : Nat} {p p' : PV} (hm : look M n = some p) (e : p = p') (h : SLx P N all F i rest (St.of S ((n, p') :: M)) K) : SLx P N all F i rest (St.of S M) K := by
 rw [St.tell hm e] at h; exact h
theorem R.tell {Q : St → Prop} {k : List Item} {n : Nat} {p p' : PV} (hm : look M n = some p) (e : p = p') (h : Run P N Q k (St.of S ((n, p') :: M))) : Run P N Q k (St.of S M) := by
 rw [St.tell hm e] at h; exact h
end
set_option maxHeartbeats 1000000 in
/-- From code to the contract of a closure with two variables of the caller's. -/
theorem PCM.startClo {P : Program} {f : FuncId} {fn : Func} {N : Nat} {c : Code} {args : List PV} {e1 sz1 e2 sz2 k1 k2 k1' k2' : Nat} {l1 l2 l1' l2' : List PV} {r : PV} (hf : P.funcs[f]? = some fn) (hN : fn.ntmps = N) (hb : fn.body = some c) (hok : okFn P f = true) (hn : Nat.ble args.length N = true)
  (h : Run P N (FinM P fn r (clo2 e1 sz1 e2 sz2 l1' l2' k1' k2')) [.code c] (St.of (slotsOf 0 args) (clo2 e1 sz1 e2 sz2 l1 l2 k1 k2))) : PCM P f args (clo2 e1 sz1 e2 sz2 l1 l2 k1 k2) r (clo2 e1 sz1 e2 sz2 l1' l2' k1' k2') := by
 subst hN
 have hn := Nat.le_of_ble_eq_true hn
 have e : (⟨initSlot args, memOf (clo2 e1 sz1 e2 sz2 l1 l2 k1 k2)⟩ : St) = St.of (slotsOf 0 args) (clo2 e1 sz1 e2 sz2 l1 l2 k1 k2) := by
  unfold memOf St.of
  congr 1
  funext t
  rw [initSlot_get, look_slotsOf]; simp
 rw [← e] at h
 generalize hM0 : clo2 e1 sz1 e2 sz2 l1 l2 k1 k2 = M0 at h ⊢
 generalize hM1 : clo2 e1 sz1 e2 sz2 l1' l2' k1' k2' = M1 at h ⊢
 have memv : ∀ (x1 x2 : List PV) (q1 q2 : Nat), memOf (clo2 e1 sz1 e2 sz2 x1 x2 q1 q2) 63 = .blk true [.tref 191 q1 .out] ∧ memOf (clo2 e1 sz1 e2 sz2 x1 x2 q1 q2) 127 = .blk true [.tref 255 q2 .out] ∧ memOf (clo2 e1 sz1 e2 sz2 x1 x2 q1 q2) 191 = .tre e1 sz1 x1 ∧ memOf (clo2 e1 sz1 e2 sz2 x1 x2 q1 q2) 255 = .tre e2 sz2 x2 := fun x1 x2 q1 q2 => by
  unfold clo2
  simp only [memOf_cons]
  refine ⟨?_, ?_, ?_, ?_⟩ <;> rfl
 obtain ⟨y1, y2, y3, y4⟩ := memv l1 l2 k1 k2
 obtain ⟨z1, z2, z3, z4⟩ := memv l1' l2' k1' k2'
 have c0 : ∀ k, memOf M0 k ≠ .undef → k = 63 ∨ k = 127 ∨ k = 191 ∨ k = 255 := fun k hk => by rw [← hM0] at hk; exact clo2_cases hk
 have c1 : ∀ k, memOf M1 k ≠ .undef → k = 63 ∨ k = 127 ∨ k = 191 ∨ k = 255 := fun k hk => by rw [← hM1] at hk; exact clo2_cases hk
 rw [hM0] at y1 y2 y3 y4
 rw [hM1] at z1 z2 z3 z4
 have c63 : ∀ k, (k = 63 ∨ k = 127 ∨ k = 191 ∨ k = 255) → k % 64 = 63 := fun k hk => by rcases hk with rfl | rfl | rfl | rfl <;> rfl
 have u1 : ∀ k, (k = 63 ∨ k = 127 ∨ k = 191 ∨ k = 255) → memOf M1 k ≠ .undef := fun k hk => by
  rcases hk with rfl | rfl | rfl | rfl
  ·rw [z1]; intro e; cases e
  ·rw [z2]; intro e; cases e
  ·rw [z3]; intro e; cases e
  ·rw [z4]; intro e; cases e
 have nr : ∀ k s own, memOf M0 k ≠ .yreg s own := fun k s own e => by
  have hk : memOf M0 k ≠ .undef := by rw [e]; intro e; cases e
  rcases c0 k hk with rfl | rfl | rfl | rfl
  ·rw [y1] at e; cases e
  ·rw [y2] at e; cases e
  ·rw [y3] at e; cases e
  ·rw [y4] at e; cases e
 refine ⟨hok, fun w pub V vals hgp hpub hlen hmem hap hrep => ?_⟩
 refine calls_of_wp hf hb ?_
 have hrel : Rel fn.ntmps (⟨⟨w, blocksOf V M0, V⟩, hgp⟩ : Base P) pub ⟨initSlot args, memOf M0⟩ { tmps := vals.toArray ++ Array.replicate (fn.ntmps - vals.toArray.size) undef, defers := [] } w := by
  refine ⟨pub, V, fun _ _ h => h, fun _ _ h => .inl h, ⟨rfl, by simp; omega, BelowB.refl _ _, fun _ _ => rfl, hpub, fun t => ?_, fun n => (hmem n).rebase fun g hu hs hg => .inr ⟨n, hu, fun own e => nr _ _ _ e, hg⟩, hap, fun b o ho hb0 => absurd (hpub b o ho) (by show ¬ _; have : w.heap.size ≤ b := hb0; omega), fun n own _ _ => .refl _ _⟩⟩
  have hsl := initSlot_get args t
  show RV pub w _ _ (initSlot args t) _
  rw [hsl]
  by_cases ht : t < args.length
  ·have h1 : args[t]? = some args[t] := List.getElem?_eq_getElem ht
   have h2 : vals[t]? = some (vals[t]'(by omega)) := List.getElem?_eq_getElem (by omega)
   have := hrep t _ _ h1 h2
   have h3 : (vals.toArray ++ Array.replicate (fn.ntmps - vals.toArray.size) undef).getD t Go.undef = vals[t]'(by omega) := by
    simp [Array.getElem?_append_left (show t < vals.toArray.size by simp; omega), show t < vals.length by omega]
   simp only [h1, Option.getD_some]
   rw [h3]; exact this
  ·have h1 : args[t]? = none := List.getElem?_eq_none (by omega)
   simp only [h1, Option.getD_none]
   exact .undef _
 refine Code.wp_mono (fun e a w' q => ?_) (h _ pub _ _ hrel)
 have fin : (∃ s, FinM P fn r M1 s ∧ Rel fn.ntmps (⟨⟨w, blocksOf V M0, V⟩, hgp⟩ : Base P) pub s a w') → a.defers = [] ∧ ∃ v, (results fn a.tmps).run P w' = .ok v w' ∧ ∃ v_1, Ending.returned v = .returned v_1 ∧ BelowB ⟨w, blocksOf V M0, V⟩ w w' ∧ ∃ pub', (∀ b o, pub b o → pub' b o) ∧ (∀ b o, pub' b o → pub b o ∨ w.heap.size ≤ b) ∧ (∀ b o, pub' b o → b < w'.heap.size ∧ (w.heap.size ≤ b → w'.frozen? ⟨b, o, none⟩ = false)) ∧
   (∀ n, memOf M1 n ≠ .undef → MemOk pub' w' V (memOf M1) (fun _ => True) (V n) (memOf M1 n)) ∧ (∀ n own, memOf M0 n = .yreg true own → SkW (regB (V n)) w w') ∧ ∃ gs, RR pub' w' (fun b => w.heap.size ≤ b) r v_1 gs ∧ gs.Nodup := by
  rintro ⟨s, ⟨⟨ps, ps', G, hat, hres, hrr, hG⟩, hM⟩, pub', V', d1, d2, hrel'⟩
  obtain ⟨vs, g1, g2, g3⟩ := results_run hrel' hat
  obtain ⟨gss, g4, g5', g6, g7⟩ := hres.sound hrel' vs g2 g3
  have hl := hres.length
  have hV : ∀ n, (n = 63 ∨ n = 127 ∨ n = 191 ∨ n = 255) → V' n = V n := fun n hn => hrel'.fixed n (c63 n hn)
  have hS : ∀ n, (n = 63 ∨ n = 127 ∨ n = 191 ∨ n = 255) → s.mem n = memOf M1 n := fun n hn => hM n (u1 n hn)
  have s191 : s.mem 191 = .tre e1 sz1 l1' := (hS 191 (by simp)).trans z3
  have s255 : s.mem 255 = .tre e2 sz2 l2' := (hS 255 (by simp)).trans z4
  have blkTo : ∀ {B : Nat → Prop} {v : Value} {x k ee sz : Nat} {l : List PV}, MemOk pub' w' V' s.mem B v (.blk true [.tref x k .out]) → s.mem x = .tre ee sz l → memOf M1 x = .tre ee sz l → V' x = V x → MemOk pub' w' V (memOf M1) (fun _ => True) v (.blk true [.tref x k .out]) := by
   intro B v x k ee sz l hk hx hy hVx
   cases hk with
   | blk _ _ g arr T hv hB hgg hs hp hq hcc hr =>
    refine .blk true _ g arr T hv trivial hgg hs hp (fun e => by cases e) (fun j c hj => ?_) (fun e => by cases e)
    match j, hj with
    | 0, hj =>
     cases hj
     obtain ⟨o1, o2⟩ := hcc 0 _ rfl
     obtain ⟨ee', sz', l', hm', hkl, htv⟩ := o2.tref_inv
     rw [hx] at hm'; cases hm'
     exact ⟨o1, .ref (.tref x k .out _ ee sz l hy hkl (fun e => by rw [← hVx]; exact htv e))⟩
    | j + 1, hj => simp at hj
  have hmo : ∀ n, memOf M1 n ≠ .undef → MemOk pub' w' V (memOf M1) (fun _ => True) (V n) (memOf M1 n) := fun n hu => by
   have hn := c1 n hu
   have h0 := hrel'.mem n
   rw [hM n hu, hV n hn] at h0
   rcases hn with rfl | rfl | rfl | rfl
   ·rw [z1] at h0 ⊢; exact blkTo h0 s191 z3 (hV 191 (by simp))
   ·rw [z2] at h0 ⊢; exact blkTo h0 s255 z4 (hV 255 (by simp))
   ·rw [z3] at h0 ⊢; exact h0.tre_rebase fun _ _ => trivial
   ·rw [z4] at h0 ⊢; exact h0.tre_rebase fun _ _ => trivial
  have hnp : ∀ n, memOf M1 n ≠ .undef → ∀ b, inB (V n) b → ∀ o, ¬ pub' b o := fun n hu b hb o => by
   have h2 := hmo n hu
   rcases c1 n hu with rfl | rfl | rfl | rfl
   ·rw [z1] at h2; exact h2.excl (.inr (.inl ⟨_, rfl⟩)) hb
   ·rw [z2] at h2; exact h2.excl (.inr (.inl ⟨_, rfl⟩)) hb
   ·rw [z3] at h2; exact (h2.tre_block hb).2 o
   ·rw [z4] at h2; exact (h2.tre_block hb).2 o
  have hnew : ∀ g ∈ gss.flatten, w.heap.size ≤ g := fun g hg => by
   obtain ⟨n, hn, hu, hb, hO⟩ := g7 g hg
   rcases hO with h | ⟨m, hum, _, hbm⟩
   ·exact h
   ·have hm := c0 m hum
    have := hrel'.apart n m g hu (by rw [hM m (u1 m hm)]; exact u1 m hm) hb (by rw [hV m hm]; exact hbm)
    subst this
    exact absurd (c63 _ hm) (hG _ hn)
  have g5 : ∀ (i : Nat) p v g, ps'[i]? = some p → vs[i]? = some v → gss[i]? = some g → RR pub' w' (fun b => w.heap.size ≤ b) p v g := fun i p v g a1 a2 a3 =>
   (g5' i p v g a1 a2 a3).narrow fun b hb => hnew b (List.mem_flatten.2 ⟨g, List.mem_of_getElem? a3, hb⟩)
  refine ⟨hrel'.defers, (if h : vs.length = 1 then vs[0] else .tuple vs.toArray), g1, _, rfl, hrel'.below, pub', d1, fun b o ho => ?_, fun b o ho => ⟨hrel'.pubLt b o ho, hrel'.soft b o ho⟩, hmo, fun n own hn => absurd hn (nr _ _ _), ?_⟩
  ·rcases d2 b o ho with h | h | ⟨n, hu, _, hb⟩
   ·exact .inl h
   ·exact .inr h
   ·exact absurd ho (hnp n (u1 n (c0 n hu)) b hb o)
  ·refine ⟨gss.flatten, ?_, g6⟩
   subst hrr
   match ps', vs, gss, g4, (show vs.length = ps'.length by omega), g5 with
   | [p], [v], [g], _, _, h5 => simpa [resOf] using h5 0 p v g rfl rfl rfl
   | [], [], [], _, _, h5 => simpa [resOf] using RR.tuple [] #[] [] rfl rfl (fun j c g h => by simp at h)
   | p :: q :: ps', v :: u :: vs, gss, h4, hvl, h5 =>
    have : ¬ ((v :: u :: vs).length = 1) := by simp
    rw [dif_neg this]
    refine .tuple _ _ gss (by simpa using hvl) (by simpa using h4) (fun j c g hj hg => ?_)
    have hjl : j < (v :: u :: vs).length := by rw [hvl]; exact (List.getElem?_eq_some_iff.1 hj).1
    have hget : ∀ (L : List Value) (h : j < L.length), L.toArray.getD j Go.undef = L[j] := fun L h => by simp [h]
    rw [hget _ hjl]
    exact h5 j c _ g hj (List.getElem?_eq_getElem hjl) hg
 cases e with
 | normal => exact fin q
 | ret => exact fin q
 | _ => exact q.elim
end Go.Px
namespace Go.Px
set_option linter.unusedSimpArgs false
set_option linter.unusedVariables false

theorem idxL_drop {α : Type} {l : List α} {z : Int} {y : α} {ys : List α} (h0 : 0 ≤ z) (h : l.drop z.toNat = y :: ys) : idxL l z = some y ∧ l.drop (z + 1).toNat = ys := by
 have hlt : z.toNat < l.length := by
  have := congrArg List.length h
  simp only [List.length_drop, List.length_cons] at this; omega
 rw [List.drop_eq_getElem_cons hlt] at h
 injection h with h1 h2
 refine ⟨?_, ?_⟩
 ·simp [idxL, h0, hlt, h1]
 ·rw [show (z + 1).toNat = z.toNat + 1 by omega]; exact h2
theorem idxL_some {α : Type} {l : List α} {z : Int} (h0 : 0 ≤ z) (h : z < l.length) : ∃ y, idxL l z = some y ∧ y ∈ l := by
 have hlt : z.toNat < l.length := by omega
 exact ⟨l[z.toNat], by simp [idxL, h0, hlt], List.getElem_mem _⟩
theorem F0_gt : 9223372036854775808 < F0 := Nat.le_of_ble_eq_true rfl
theorem cond_some {α : Type} (c : Bool) (x y : α) : (bif c then some x else some y) = some (bif c then x else y) := by cases c <;> rfl
theorem cond_and (a b : Bool) : (bif a then b else false) = (a && b) := by cases a <;> rfl
theorem cond_or (a b : Bool) : (bif a then true else b) = (a || b) := by cases a <;> rfl

theorem int_bne (a b : Int) : (a != b) = !decide (a = b) := by by_cases h : a = b <;> simp [h]
theorem int_beq (a b : Int) : (a == b) = decide (a = b) := by by_cases h : a = b <;> simp [h]
theorem bool_bne (a b : Bool) : (a != b) = !decide (a = b) := by by_cases h : a = b <;> simp [h]
theorem ba_beq (a b : ByteArray) : (a == b) = decide (a = b) := by
 show (a.data == b.data) = _
 by_cases h : a = b
 ·subst h; simp
 ·have : a.data ≠ b.data := fun e => h (by cases a; cases b; simp at e; simp [e])
  simp [h, this]
theorem ba_bne (a b : ByteArray) : (a != b) = !decide (a = b) := by rw [bne, ba_beq]

theorem eqLoop {α : Type} [DecidableEq α] {F : List α → Int → Option (Unit ⊕ Bool)} {b : List α} (h0 : ∀ z, F [] z = some (.inl ()))
  (h1 : ∀ x xs z y, idxL b z = some y → F (x :: xs) z = if x = y then F xs (z + 1) else some (.inr false)) :
  ∀ (xs : List α) (z : Int), 0 ≤ z → xs.length = (b.drop z.toNat).length → F xs z = some (if xs = b.drop z.toNat then .inl () else .inr false)
 | [], z, hz, hl => by
  have : b.drop z.toNat = [] := List.eq_nil_of_length_eq_zero hl.symm
  rw [h0, this]; simp
 | x :: xs, z, hz, hl => by
  match hd : b.drop z.toNat with
  | [] => rw [hd] at hl; simp at hl
  | y :: ys =>
   obtain ⟨h2, h3⟩ := idxL_drop hz hd
   rw [h1 x xs z y h2]
   rw [hd] at hl
   by_cases hxy : x = y
   ·rw [if_pos hxy, eqLoop h0 h1 xs (z + 1) (by omega) (by rw [h3]; simpa using hl), h3]
    simp [hxy]
   ·rw [if_neg hxy]; simp [hxy]
theorem eqList {α : Type} [DecidableEq α] {F : List α → Int → Option (Unit ⊕ Bool)} {a b : List α} {G : Option Bool} (h0 : ∀ z, F [] z = some (.inl ()))
  (h1 : ∀ x xs z y, idxL b z = some y → F (x :: xs) z = if x = y then F xs (z + 1) else some (.inr false))
  (hG : G = bif ((a.length : Int) != (b.length : Int)) then some false else sumBind (F a 0) (fun q => some q) fun _ => some true) : G = some (decide (a = b)) := by
 rw [hG]
 by_cases hl : a.length = b.length
 ·have e : ((a.length : Int) != (b.length : Int)) = false := by simp [hl]
  rw [e, cond_false, sumBind, eqLoop h0 h1 a 0 (Int.le_refl _) (by simpa using hl)]
  by_cases hab : a = b <;> simp [hab]
 ·have e : ((a.length : Int) != (b.length : Int)) = true := by simp; omega
  have hab : a ≠ b := fun e => hl (by rw [e])
  rw [e, cond_true]; simp [hab]

theorem fillLoop {α : Type} {F : List α → Int → List α → Option (List α)} {Q : α → Prop} (h0 : ∀ z a, F [] z a = some a)
  (h1 : ∀ x xs z a y, Q x → idxL a z = some y → F (x :: xs) z a = F xs (z + 1) (setL a z x)) :
  ∀ (xs : List α) (z : Int) (a : List α), 0 ≤ z → a.length = z.toNat + xs.length → (∀ x ∈ xs, Q x) → F xs z a = some (a.take z.toNat ++ xs)
 | [], z, a, hz, hl, _ => by rw [h0]; simp at hl; simp [List.take_of_length_le (Nat.le_of_eq hl)]
 | x :: xs, z, a, hz, hl, hQ => by
  have hlt : z < a.length := by simp at hl; omega
  obtain ⟨y, hy, _⟩ := idxL_some hz hlt
  rw [h1 x xs z a y (hQ x (List.mem_cons_self ..)) hy, fillLoop h0 h1 xs (z + 1) _ (by omega) (by simp [setL] at hl ⊢; omega) (fun x hx => hQ x (List.mem_cons_of_mem _ hx))]
  congr 1
  have e : (z + 1).toNat = z.toNat + 1 := by omega
  have hn : z.toNat < a.length := by omega
  rw [e, setL, List.take_add_one, List.getElem?_set_self hn, List.take_set_of_le (Nat.le_refl _)]
  simp
theorem fillList {α : Type} {F : List α → Int → List α → Option (List α)} {Q : α → Prop} {b : List α} {zv : α} {G : Option (List α)} (h0 : ∀ z a, F [] z a = some a)
  (h1 : ∀ x xs z a y, Q x → idxL a z = some y → F (x :: xs) z a = F xs (z + 1) (setL a z x)) (hb : b.length ≤ 1048576) (hQ : ∀ x ∈ b, Q x)
  (hG : G = (makeL zv (b.length : Int)).bind fun v => Option.bind (F b 0 v) fun p => some p) : G = some b := by
 rw [hG]
 have : makeL zv (b.length : Int) = some (List.replicate b.length zv) := by
  unfold makeL
  rw [if_pos (by omega)]; simp
 rw [this, Option.bind_some, fillLoop h0 h1 b 0 _ (Int.le_refl _) (by simp) hQ]
 simp

theorem W_of {n : Int} (h : -9223372036854775808 ≤ n ∧ n ≤ 9223372036854775807) : W n = n := by
 show IntKind.i64.wrap n = n
 rw [IntKind.wrap_i64]; omega
def SzOk {α : Type} (sz : α → Int → Option Int) (Q : α → Prop) (x : α) : Prop := ∀ n, 0 ≤ n → n ≤ 1048576 → ∃ m, sz x n = some m ∧ (m < 0 ∨ (m ≤ n ∧ Q x))
theorem szLoop {α : Type} {F : List α → Int → Int → Option (Int ⊕ Int)} {sz : α → Int → Option Int} {Q : α → Prop} (h0 : ∀ z n, F [] z n = some (.inl n))
  (h1 : ∀ x xs z n, F (x :: xs) z n = (sz x n).bind fun v => bif decide (v < 0) then some (.inr (-1)) else F xs (z + 1) v) :
  ∀ (xs : List α) (z n : Int), (∀ x ∈ xs, SzOk sz Q x) → 0 ≤ n → n ≤ 1048576 → F xs z n = some (.inr (-1)) ∨ ∃ m, F xs z n = some (.inl m) ∧ 0 ≤ m ∧ m ≤ n ∧ ∀ x ∈ xs, Q x
 | [], z, n, _, hn, hn2 => .inr ⟨n, h0 z n, hn, Int.le_refl _, by simp⟩
 | x :: xs, z, n, hs, hn, hn2 => by
  obtain ⟨m, hm, hq⟩ := hs x (List.mem_cons_self ..) n hn hn2
  rw [h1, hm, Option.bind_some]
  by_cases hneg : m < 0
  ·left; simp [hneg]
  ·have hq := hq.resolve_left hneg
   have e : decide (m < 0) = false := by simpa using hneg
   rw [e, cond_false]
   rcases szLoop h0 h1 xs (z + 1) m (fun x hx => hs x (List.mem_cons_of_mem _ hx)) (by omega) (by omega) with h | ⟨k, hk, hk0, hkm, hQ⟩
   ·exact .inl h
   ·exact .inr ⟨k, hk, hk0, by omega, fun y hy => by
     rcases List.mem_cons.1 hy with rfl | hy
     ·exact hq.2
     ·exact hQ y hy⟩
theorem szList {α : Type} {F : List α → Int → Int → Option (Int ⊕ Int)} {sz : α → Int → Option Int} {G : List α → Int → Option Int} {Q : α → Prop} (b : List α) (h0 : ∀ z n, F [] z n = some (.inl n))
  (h1 : ∀ x xs z n, F (x :: xs) z n = (sz x n).bind fun v => bif decide (v < 0) then some (.inr (-1)) else F xs (z + 1) v)
  (hG : ∀ n, G b n = bif (decide ((W (n - (b.length : Int))) < 0)) then some (-1) else sumBind (F b 0 (W (n - (b.length : Int)))) (fun q => some q) fun p => some p)
  (hb : b.length ≤ 9223372036854775807) (hs : ∀ x ∈ b, SzOk sz Q x) : SzOk G (fun b => b.length ≤ 1048576 ∧ ∀ x ∈ b, Q x) b := by
 intro n hn hn2
 rw [hG, W_of (by omega)]
 by_cases hneg : n - (b.length : Int) < 0
 ·exact ⟨-1, by simp [hneg], .inl (by omega)⟩
 ·have e : decide (n - (b.length : Int) < 0) = false := by simpa using hneg
  rw [e, cond_false]
  rcases szLoop h0 h1 b 0 (n - b.length) hs (by omega) (by omega) with h | ⟨m, hm, hm0, hmn, hQ⟩
  ·exact ⟨-1, by rw [h]; rfl, .inl (by omega)⟩
  ·exact ⟨m, by rw [hm]; rfl, .inr ⟨by omega, by omega, hQ⟩⟩
theorem szFlat {α : Type} {G : List α → Int → Option Int} (b : List α) (hG : ∀ n, G b n = bif (decide ((W (n - (b.length : Int))) < 0)) then some (-1) else some (W (n - (b.length : Int)))) (hb : b.length ≤ 9223372036854775807) :
  SzOk G (fun b => b.length ≤ 1048576) b := by
 intro n hn hn2
 rw [hG, W_of (by omega)]
 by_cases hneg : n - (b.length : Int) < 0
 ·exact ⟨-1, by simp [hneg], .inl (by omega)⟩
 ·have e : decide (n - (b.length : Int) < 0) = false := by simpa using hneg
  rw [e, cond_false]
  exact ⟨_, rfl, .inr ⟨by omega, by omega⟩⟩
theorem szThen {α : Type} {sz : α → Int → Option Int} {Q : α → Prop} {x : α} (h : SzOk sz Q x) {n : Int} (h0 : 0 ≤ n) (h1 : n ≤ 1048576) {K : Int → Option Int} {R : Prop}
  (hk : ∀ m, 0 ≤ m → m ≤ n → Q x → ∃ k, K m = some k ∧ (k < 0 ∨ (k ≤ m ∧ R))) :
  ∃ k, ((sz x n).bind fun v => bif (decide (v < 0)) then some (-1) else K v) = some k ∧ (k < 0 ∨ (k ≤ n ∧ Q x ∧ R)) := by
 obtain ⟨m, hm, hq⟩ := h n h0 h1
 rw [hm, Option.bind_some]
 by_cases hneg : m < 0
 ·exact ⟨-1, by simp [hneg], .inl (by omega)⟩
 ·have hq := hq.resolve_left hneg
  have e : decide (m < 0) = false := by simpa using hneg
  rw [e, cond_false]
  obtain ⟨k, hk1, hk2⟩ := hk m (by omega) hq.1 hq.2
  exact ⟨k, hk1, hk2.imp id fun ⟨a, b⟩ => ⟨by omega, hq.2, b⟩⟩
theorem szEnd {m : Int} (h : 0 ≤ m) : ∃ k, some m = some k ∧ (k < 0 ∨ (k ≤ m ∧ True)) := ⟨m, rfl, .inr ⟨Int.le_refl _, trivial⟩⟩
theorem szStr {s : ByteArray} (hs : s.size ≤ 9223372036854775807) {n : Int} (h0 : 0 ≤ n) (h1 : n ≤ 1048576) {K : Int → Option Int} {R : Prop}
  (hk : ∀ m, 0 ≤ m → m ≤ n → s.size ≤ 1048576 → ∃ k, K m = some k ∧ (k < 0 ∨ (k ≤ m ∧ R))) :
  ∃ k, (bif (decide ((W (n - (s.size : Int))) < 0)) then some (-1) else K (W (n - (s.size : Int)))) = some k ∧ (k < 0 ∨ (k ≤ n ∧ s.size ≤ 1048576 ∧ R)) := by
 rw [W_of (by omega)]
 by_cases hneg : n - (s.size : Int) < 0
 ·exact ⟨-1, by simp [hneg], .inl (by omega)⟩
 ·have e : decide (n - (s.size : Int) < 0) = false := by simpa using hneg
  rw [e, cond_false]
  obtain ⟨k, hk1, hk2⟩ := hk (n - (s.size : Int)) (by omega) (by omega) (by omega)
  exact ⟨k, hk1, hk2.imp id fun ⟨a, b⟩ => ⟨by omega, by omega, b⟩⟩

/-! ### Arguments -/
theorem vals_nil {xs : List PV} (h : Vals [] xs) : xs = [] := by cases xs with | nil => rfl | cons _ _ => exact h.elim
theorem vals_cons {T : Ty} {Ts : List Ty} {xs : List PV} (h : Vals (T :: Ts) xs) : ∃ x ys, xs = x :: ys ∧ Val T x ∧ Vals Ts ys := by
 cases xs with
 | nil => exact h.elim
 | cons x ys => exact ⟨x, ys, rfl, h.1, h.2⟩
theorem dec_int {p : PV} (h : Val .int p) : ∃ n : Int, p = int n := by obtain ⟨n, e, _⟩ := h; exact ⟨n, e⟩
theorem dec_bool {p : PV} (h : Val .bool p) : ∃ n : Bool, p = bool n := h
theorem dec_str {p : PV} (h : Val .str p) : ∃ n : ByteArray, p = str n ∧ n.size ≤ 9223372036854775807 := h
theorem dec_slice {T : Ty} {α : Type} {f : α → PV} {B : α → Prop} (hf : ∀ p, Val T p → ∃ x, p = f x ∧ B x) {p : PV} (h : Val (.slice T) p) : ∃ l : List α, p = .slice (l.map f) ∧ l.length ≤ 9223372036854775807 ∧ ∀ x ∈ l, B x := by
 obtain ⟨l, rfl, h1, h2⟩ := h
 have : ∃ k : List α, l = k.map f ∧ ∀ x ∈ k, B x := by
  clear h1
  induction l with
  | nil => exact ⟨[], rfl, by simp⟩
  | cons x l ih =>
   obtain ⟨k, h3, h4⟩ := ih fun y hy => h2 y (List.mem_cons_of_mem _ hy)
   obtain ⟨y, h5, h6⟩ := hf x (h2 x (List.mem_cons_self ..))
   exact ⟨y :: k, by simp [h3, h5], fun z hz => by
    rcases List.mem_cons.1 hz with rfl | hz
    ·exact h6
    ·exact h4 z hz⟩
 obtain ⟨k, rfl, h4⟩ := this
 exact ⟨k, rfl, by simpa using h1, h4⟩
end Go.Px
namespace Go.Px
set_option linter.unusedSimpArgs false
set_option linter.unusedVariables false

def mkL {α : Type} (c : Nat) (up : Int → α → α) : Int → List α → List α
 | _, [] => []
 | k, x :: xs => up k x :: mkL c up (k + c) xs
def MkOk {α : Type} (f : α → Int → Option Int) (B : Nat) (x : α) : Prop := ∀ k : Int, 0 ≤ k → k + B ≤ 9223372036854775807 → ∃ k', f x k = some k' ∧ k ≤ k' ∧ k' ≤ k + B
end Go.Px
namespace Go.Px
set_option linter.unusedSimpArgs false
set_option linter.unusedVariables false
end Go.Px
