/-
  PROVED: a step hangs on what it reads alone; and two steps that do not touch each other may change places. Over any program. No condition beyond those that each theorem names.
-/
import Derived.Test.YthdejnjjdihmfaaPx16
namespace Go.Px
set_option linter.unusedSimpArgs false
set_option linter.unusedVariables false
open Go.RowKit

theorem PurL.local {m m' : Nat → PV} {ps ps' : List PV} {R : List Nat} (h : PurL m ps ps' R) (hm : ∀ n ∈ R, m' n = m n) : PurL m' ps ps' R := by
  induction h with
  | nil => exact .nil
  | plain p ps ps' R hp _ ih => exact .plain p ps ps' R hp (ih hm)
  | own n k e sz l ps ps' R h1 hk _ ih => exact .own n k e sz l ps ps' R ((hm n (by simp)).trans h1) hk (ih fun j hj => hm j (by simp [hj]))
  | lptr n off cs ps ps' R h1 _ ih => exact .lptr n off cs ps ps' R ((hm n (by simp)).trans h1) (ih fun j hj => hm j (by simp [hj]))
  | agg cs cs' ps ps' R R' _ _ ih1 ih2 => exact .agg cs cs' ps ps' R R' (ih1 fun j hj => hm j (by simp [hj])) (ih2 fun j hj => hm j (by simp [hj]))
theorem Lst.local {m m' : Nat → PV} {p : PV} {l : List PV} {R : List Nat} (h : Lst m p l R) (hm : ∀ n ∈ R, m' n = m n) : Lst m' p l R := by
  cases h with
  | pure => exact .pure l
  | nils => exact .nils
  | own n k x e sz _ h1 hk => exact .own n k x e sz l ((hm n (by simp)).trans h1) hk
theorem Cur.local {m m' : Nat → PV} {p : PV} (h : Cur m p) (hm : ∀ j k, p = .own j k → m' j = m j) : Cur m' p := by
  cases h with
  | plain _ h => exact .plain p h
  | own n k x e sz l h1 hk => exact .own n k x e sz l ((hm n k rfl).trans h1) hk
  | lptr n off => exact .lptr n off
  | agg cs => exact .agg cs

theorem AOp.local {P : Program} {σ σ' : Operand → PV} {m m' : Nat → PV} {d : Nat} {op : Op} {p : PV} {U : List (Nat × PV)} {R : List Nat} (ha : AOp P σ m d op p U R) (hσ : ∀ x ∈ op.operands, σ' x = σ x) (hm : ∀ n ∈ R, m' n = m n) : AOp P σ' m' d op p U R := by
  cases ha with
  | move x v hv => exact .move x _ ((hσ x (by simp [Op.operands])).trans hv)
  | assign x v hv => exact .assign x _ ((hσ x (by simp [Op.operands])).trans hv)
  | pick c x y b v hc hv => exact .pick c x y b _ ((hσ c (by simp [Op.operands])).trans hc) (by rw [hσ x (by simp [Op.operands]), hσ y (by simp [Op.operands])]; exact hv)
  | bin op t t' x y p q v hx hy hk hv hs => exact .bin op t t' x y p q _ ((hσ x (by simp [Op.operands, Call.operands])).trans hx) ((hσ y (by simp [Op.operands, Call.operands])).trans hy) hk hv hs
  | neqErr t t' x ms ht hx => exact .neqErr t t' x ms ht ((hσ x (by simp [Op.operands, Call.operands])).trans hx)
  | eqlAgg t t' x y ks cs ds r hf hx hy he => exact .eqlAgg t t' x y ks cs ds r hf ((hσ x (by simp [Op.operands, Call.operands])).trans hx) ((hσ y (by simp [Op.operands, Call.operands])).trans hy) he
  | neqAgg t t' x y ks cs ds r hf hx hy he => exact .neqAgg t t' x y ks cs ds r hf ((hσ x (by simp [Op.operands, Call.operands])).trans hx) ((hσ y (by simp [Op.operands, Call.operands])).trans hy) he
  | eqlNilS t t' x e sz by' p l R ht hx hl h0 => exact .eqlNilS t t' x e sz by' p l R ht ((hσ x (by simp [Op.operands, Call.operands])).trans hx) (hl.local fun n hn => hm n (by simp [hn])) h0
  | neqNilS t t' x e sz by' p l R ht hx hl h0 => exact .neqNilS t t' x e sz by' p l R ht ((hσ x (by simp [Op.operands, Call.operands])).trans hx) (hl.local fun n hn => hm n (by simp [hn])) h0
  | neqNil t t' x ms ht hx => exact .neqNil t t' x ms ht ((hσ x (by simp [Op.operands, Call.operands])).trans hx)
  | un op t x p v hx hv => exact .un op t x p _ ((hσ x (by simp [Op.operands, Call.operands])).trans hx) hv
  | conv t t' x k k' n ht hs hx => exact .conv t t' x k k' n ht hs ((hσ x (by simp [Op.operands, Call.operands])).trans hx)
  | load_l t x g sz n off y cs v ht hg hx hm' hv => exact .load_l t x g sz n off y cs _ ht hg ((hσ x (by simp [Op.operands, Call.operands])).trans hx) ((hm _ (by simp)).trans hm') hv
  | load_c t x g sz off cs v ht hg hx hv => exact .load_c t x g sz off cs _ ht hg ((hσ x (by simp [Op.operands, Call.operands])).trans hx) hv
  | load_e t x g sz n k i off y e sz' l el v ht hg hx hm' hk hi hv => exact .load_e t x g sz n k i off y e sz' l el _ ht hg ((hσ x (by simp [Op.operands, Call.operands])).trans hx) ((hm _ (by simp)).trans hm') hk hi hv
  | store_l t x y g sz n off cs p ht hx hm' hy hc hsz hfit R hR => exact .store_l t x y g sz n off cs p ht ((hσ x (by simp [Op.operands, Call.operands])).trans hx) ((hm _ (by simp)).trans hm') ((hσ y (by simp [Op.operands, Call.operands])).trans hy) (hc.local fun j k e => hm j (by simp [hR j k e])) hsz hfit R hR
  | store_e t x y g sz n k i off e sz' l el p p' R ht h0 hx hm' hk hi hy hp hsz hfit => exact .store_e t x y g sz n k i off e sz' l el p p' R ht h0 ((hσ x (by simp [Op.operands, Call.operands])).trans hx) ((hm _ (by simp)).trans hm') hk hi ((hσ y (by simp [Op.operands, Call.operands])).trans hy) (hp.local fun n hn => hm n (by simp [hn])) hsz hfit
  | nilChk x v hx hp => exact .nilChk x _ ((hσ x (by simp [Op.operands, Call.operands])).trans hx) hp
  | alloc t z hz hm' => exact .alloc t z hz ((hm _ (by simp)).trans hm')
  | box t x p R hx hc hm' hR => exact .box t x p R ((hσ x (by simp [Op.operands, Call.operands])).trans hx) (hc.local fun j k e => hm j (by simp [hR j k e])) ((hm _ (by simp)).trans hm') hR
  | buildArr t parts z cs n sz ps R hz ha hps hc hR hcs => exact .buildArr t parts z cs n sz ps R hz ha ((List.map_congr_left fun q hq => hσ _ (by simp only [Op.operands, List.mem_toArray, List.mem_map]; exact ⟨q, hq, rfl⟩)).trans hps) (fun p hp => (hc p hp).local fun j k e => hm j (hR p hp j k e)) hR hcs
  | build t parts z cs pl ps R hz hpl hps hc hR hcs => exact .build t parts z cs pl ps R hz hpl ((List.map_congr_left fun q hq => hσ _ (by simp only [Op.operands, List.mem_toArray, List.mem_map]; exact ⟨q, hq, rfl⟩)).trans hps) (fun p hp => (hc p hp).local fun j k e => hm j (hR p hp j k e)) hR hcs
  | buildSlice y t len parts e sz by' ps ps' R ht hsz0 hlen hz hzl hidx hps hp hsz hm' => exact .buildSlice y t len parts e sz by' ps ps' R ht hsz0 hlen hz hzl hidx ((List.map_congr_left fun q hq => hσ _ (by simp only [Op.operands, List.mem_toArray, List.mem_map]; exact ⟨q, hq, rfl⟩)).trans hps) (hp.local fun n hn => hm n (by simp [hn])) hsz ((hm _ (by simp)).trans hm')
  | makeSlice t x y e sz by' z el k k' n ht hsz0 hz hel hzl hp hx hy h0 hn hb hm' => exact .makeSlice t x y e sz by' z el k k' n ht hsz0 hz hel hzl hp ((hσ x (by simp [Op.operands, Call.operands])).trans hx) ((hσ y (by simp [Op.operands, Call.operands])).trans hy) h0 hn hb ((hm _ (by simp)).trans hm')
  | makeFunc f caps ps ps' R hps hp => exact .makeFunc f caps ps ps' R ((List.map_congr_left fun q hq => hσ _ (by simp [Op.operands]; simpa using hq)).trans hps) (hp.local fun n hn => hm n (by simp [hn]))
  | fieldAddr_l t x f n off o' ht hx => exact .fieldAddr_l t x f n off o' ht ((hσ x (by simp [Op.operands, Call.operands])).trans hx)
  | fieldAddr_c t x f off o' cs ht hx => exact .fieldAddr_c t x f off o' cs ht ((hσ x (by simp [Op.operands, Call.operands])).trans hx)
  | fieldAddr_e t x f n k i off o' y e sz l ht hx hm' hk => exact .fieldAddr_e t x f n k i off o' y e sz l ht ((hσ x (by simp [Op.operands, Call.operands])).trans hx) ((hm _ (by simp)).trans hm') hk
  | field t x f cs pl o' sz g ft v ht hs hg hx hv => exact .field t x f cs pl o' sz g ft _ ht hs hg ((hσ x (by simp [Op.operands, Call.operands])).trans hx) hv
  | indexAddr_s t x y e sz by' l k i el ht hx hy h0 hi hsz => exact .indexAddr_s t x y e sz by' l k i el ht ((hσ x (by simp [Op.operands, Call.operands])).trans hx) ((hσ y (by simp [Op.operands, Call.operands])).trans hy) h0 hi hsz
  | indexAddr_o t x y e sz by' n k' l k i el ht hx hm' hk hy h0 hi => exact .indexAddr_o t x y e sz by' n k' l k i el ht ((hσ x (by simp [Op.operands, Call.operands])).trans hx) ((hm _ (by simp)).trans hm') hk ((hσ y (by simp [Op.operands, Call.operands])).trans hy) h0 hi
  | indexAddr_x t x y e sz by' n k' b l k i ht hx hm' hk hy h0 hi => exact .indexAddr_x t x y e sz by' n k' b l k i ht ((hσ x (by simp [Op.operands, Call.operands])).trans hx) ((hm _ (by simp)).trans hm') hk ((hσ y (by simp [Op.operands, Call.operands])).trans hy) h0 hi
  | indexAddr_a t x y len sz n off k i ht hx hy h0 hi => exact .indexAddr_a t x y len sz n off k i ht ((hσ x (by simp [Op.operands, Call.operands])).trans hx) ((hσ y (by simp [Op.operands, Call.operands])).trans hy) h0 hi
  | indexStr t x y b k i u ht hx hy h0 hi => exact .indexStr t x y b k i u ht ((hσ x (by simp [Op.operands, Call.operands])).trans hx) ((hσ y (by simp [Op.operands, Call.operands])).trans hy) h0 hi
  | extract x i vs v hx hv => exact .extract x i vs _ ((hσ x (by simp [Op.operands, Call.operands])).trans hx) hv
  | lenStr t x b ht hx => exact .lenStr t x b ht ((hσ x (by simp [Op.operands, Call.operands])).trans hx)
  | lenLst t x p l R e sz by' ht hx hl => exact .lenLst t x p l R e sz by' ht ((hσ x (by simp [Op.operands, Call.operands])).trans hx) (hl.local fun n hn => hm n (by simp [hn]))
  | append t x y n k b e sz by' l lb z q R ht hz hzl hx hm' hk hy hq hlb hb hn => exact .append t x y n k b e sz by' l lb z q R ht hz hzl ((hσ x (by simp [Op.operands, Call.operands])).trans hx) ((hm _ (by simp)).trans hm') hk ((hσ y (by simp [Op.operands, Call.operands])).trans hy) (hq.local fun n hn => hm n (by simp [hn])) hlb hb hn
  | appendNil b t x y e sz by' lb z q R ht hsz hz hzl hx hy hq hlb hb hn hm' => exact .appendNil b t x y e sz by' lb z q R ht hsz hz hzl ((hσ x (by simp [Op.operands, Call.operands])).trans hx) ((hσ y (by simp [Op.operands, Call.operands])).trans hy) (hq.local fun n hn => hm n (by simp [hn])) hlb hb hn ((hm _ (by simp)).trans hm')
  | max2 t t' x y k a b hx hy => exact .max2 t t' x y k a b ((hσ x (by simp [Op.operands, Call.operands])).trans hx) ((hσ y (by simp [Op.operands, Call.operands])).trans hy)
  | min2 t t' x y k a b hx hy => exact .min2 t t' x y k a b ((hσ x (by simp [Op.operands, Call.operands])).trans hx) ((hσ y (by simp [Op.operands, Call.operands])).trans hy)
  | sliceStr t x b lo hi i j ht hx hlo hhi h0 h1 h2 => exact .sliceStr t x b lo hi i j ht ((hσ x (by simp [Op.operands, Call.operands])).trans hx) (by cases lo with | none => exact hlo | some o => exact hlo.imp fun k hk => (hσ o (by simp [Op.operands])).trans hk) (by cases hi with | none => exact hhi | some o => exact hhi.imp fun k hk => (hσ o (by simp [Op.operands])).trans hk) h0 h1 h2
  | sliceS t x l lo hi e sz by' i j ht hsz hx hlo hhi h0 h1 h2 => exact .sliceS t x l lo hi e sz by' i j ht hsz ((hσ x (by simp [Op.operands, Call.operands])).trans hx) (by cases lo with | none => exact hlo | some o => exact hlo.imp fun k hk => (hσ o (by simp [Op.operands])).trans hk) (by cases hi with | none => exact hhi | some o => exact hhi.imp fun k hk => (hσ o (by simp [Op.operands])).trans hk) h0 h1 h2
  | sliceO t x n k l lo hi e sz by' i j ht hx hm' hk hlo hhi h0 h1 h2 => exact .sliceO t x n k l lo hi e sz by' i j ht ((hσ x (by simp [Op.operands, Call.operands])).trans hx) ((hm _ (by simp)).trans hm') hk (by cases lo with | none => exact hlo | some o => exact hlo.imp fun k hk => (hσ o (by simp [Op.operands])).trans hk) (by cases hi with | none => exact hhi | some o => exact hhi.imp fun k hk => (hσ o (by simp [Op.operands])).trans hk) h0 h1 h2
end Go.Px
