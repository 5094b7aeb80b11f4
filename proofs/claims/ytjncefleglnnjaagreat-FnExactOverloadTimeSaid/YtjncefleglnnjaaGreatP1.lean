/-
  PROVED: facts on the definitions that say what functions of the program compute. No condition beyond those that each theorem names.
-/
import Derived.Test.YtjncefleglnnjaaGreatD1
namespace Go.Px.YtjncefleglnnjaaGreat
set_option linter.unusedSimpArgs false
set_option linter.unusedVariables false
open Go.Px
/-- From a least one to a greatest one. -/
def inR (n lo hi : Int) : Bool := decide (lo ≤ n) && decide (n ≤ hi)
theorem inR_iff {n lo hi : Int} : inR n lo hi = true ↔ lo ≤ n ∧ n ≤ hi := by simp [inR]
theorem inR_f {n lo hi : Int} : inR n lo hi = false ↔ ¬(lo ≤ n ∧ n ≤ hi) := by rw [← inR_iff]; simp
theorem s_l01In_eq (n lo hi : Int) : s_l01In n lo hi = some (inR n lo hi) := by
  unfold s_l01In inR; cases decide (lo ≤ n) <;> rfl
theorem i_within_eq (n lo hi : Int) : i_within n lo hi = some (inR n lo hi) := by
  unfold i_within inR; cases decide (lo ≤ n) <;> rfl
theorem i_isTime_eq (n : Int) : i_isTime n = some (inR n 0 60) := by simp only [i_isTime, i_within_eq, Option.bind_some]
theorem i_isAmount_eq (n : Int) : i_isAmount n = some (inR n 0 20) := by simp only [i_isAmount, i_within_eq, Option.bind_some]
theorem i_isStart_eq (n : Int) : i_isStart n = some (inR n (-2) 62) := by simp only [i_isStart, i_within_eq, Option.bind_some]
theorem hasActivity_eq (p : TProject) (n : Int) : i_Project_hasActivity p n = some (inR n 0 (W ((p.Activities.length : Int) - 1))) := by simp only [i_Project_hasActivity, i_within_eq, Option.bind_some]
theorem hasResource_eq (p : TProject) (n : Int) : i_Project_hasResource p n = some (inR n 0 (W ((p.Resources.length : Int) - 1))) := by simp only [i_Project_hasResource, i_within_eq, Option.bind_some]
theorem s_l02Max_eq (a b : Int) : s_l02Max a b = some (max a b) := by
  unfold s_l02Max
  by_cases h : b < a
  · rw [show decide (b < a) = true by simpa using h, cond_true, show max a b = a by omega]
  · rw [show decide (b < a) = false by simpa using h, cond_false, show max a b = b by omega]
theorem s_l02Min_eq (a b : Int) : s_l02Min a b = some (min a b) := by
  unfold s_l02Min
  by_cases h : a < b
  · rw [show decide (a < b) = true by simpa using h, cond_true, show min a b = a by omega]
  · rw [show decide (a < b) = false by simpa using h, cond_false, show min a b = b by omega]

/-- Index within the numbers from 0 to (number of elements) - 1. -/
theorem W_le {n : Int} (h : -9223372036854775808 ≤ n) : W n ≤ n := by
  show IntKind.i64.wrap n ≤ n
  rw [IntKind.wrap_i64]; omega
theorem idx_of_inR {α : Type} {l : List α} {i : Int} (h : inR i 0 (W ((l.length : Int) - 1)) = true) : ∃ x, idxL l i = some x ∧ x ∈ l := by
  have h := inR_iff.1 h
  have := W_le (n := (l.length : Int) - 1) (by omega)
  exact idxL_some h.1 (by omega)

/-! ### The program's functions are the reference's, where the two texts have one shape -/
theorem areAmounts_L1 : ∀ (xs : List Int) (z : Int), i_areAmounts_L1 xs z = s_l04Nums_L1 xs z
  | [], z => rfl
  | x :: xs, z => by simp only [i_areAmounts_L1, s_l04Nums_L1, i_isAmount_eq, s_l01In_eq, areAmounts_L1 xs]
theorem areAmounts_eq (l : List Int) (n : Int) : i_areAmounts l n = s_l04Nums l n := by simp only [i_areAmounts, s_l04Nums, areAmounts_L1]
theorem ModeOk_eq (m : TMode) (a b : Int) : i_ModeOk m a b = s_ModeOk m a b := by simp only [i_ModeOk, s_ModeOk, areAmounts_eq, i_within_eq, s_l01In_eq]
theorem IsName_L1 (s : ByteArray) : ∀ (n : Nat) (a : Int), i_IsName_L1 s n a = s_IsName_L1 s n a
  | 0, a => rfl
  | n + 1, a => by simp only [i_IsName_L1, s_IsName_L1, IsName_L1 s n]
theorem IsName_eq (s : ByteArray) : i_IsName s = s_IsName s := by simp only [i_IsName, s_IsName, IsName_L1, i_within_eq, s_l01In_eq]
theorem ActivityOk_L1 (a b : Int) : ∀ (xs : List TMode) (z : Int), i_ActivityOk_L1 a b xs z = s_ActivityOk_L1 a b xs z
  | [], z => rfl
  | x :: xs, z => by simp only [i_ActivityOk_L1, s_ActivityOk_L1, ModeOk_eq, ActivityOk_L1 a b xs]
theorem ActivityOk_eq (x : TActivity) (a b : Int) : i_ActivityOk x a b = s_ActivityOk x a b := by simp only [i_ActivityOk, s_ActivityOk, ActivityOk_L1, IsName_eq, i_within_eq, s_l01In_eq]
theorem ActivityIndex_L1 (nm : ByteArray) : ∀ (xs : List TActivity) (z : Int), slices_IndexFunc_Activity_L1 (fun x => i_ActivityIndex_c1 x nm) xs z = s_ActivityIndex_L1 nm xs z
  | [], z => rfl
  | x :: xs, z => by rw [slices_IndexFunc_Activity_L1, s_ActivityIndex_L1, ActivityIndex_L1 nm xs]; rfl
theorem ActivityIndex_eq (p : TProject) (nm : ByteArray) : i_ActivityIndex p nm = s_ActivityIndex p nm := by
  simp only [i_ActivityIndex, slices_IndexFunc_Activity, s_ActivityIndex, ActivityIndex_L1, Option.bind_some]
  cases h : s_ActivityIndex_L1 nm p.Activities 0 with
  | none => rfl
  | some o => cases o <;> rfl
theorem ResourceOk_L2 : ∀ (xs : List Int) (z : Int), i_ResourceOk_L2 xs z = s_ResourceOk_L2 xs z
  | [], z => rfl
  | x :: xs, z => by simp only [i_ResourceOk_L2, s_ResourceOk_L2, i_within_eq, s_l01In_eq, ResourceOk_L2 xs]
theorem ResourceOk_L1 : ∀ (xs : List (List Int)) (z : Int), i_ResourceOk_L1 xs z = s_ResourceOk_L1 xs z
  | [], z => rfl
  | x :: xs, z => by simp only [i_ResourceOk_L1, s_ResourceOk_L1, ResourceOk_L2, ResourceOk_L1 xs]

/-- A loop of tests: each test is defined, and tells what it tells. -/
theorem chkLoop {α : Type} {F : List α → Int → Option (Unit ⊕ Bool)} {b : List α} {Q : α → Prop} {c : α → Int → Option Bool} (h0 : ∀ z, F [] z = some (.inl ()))
    (h1 : ∀ x xs z, F (x :: xs) z = (c x z).bind fun e => bif e then some (.inr false) else F xs (z + 1)) (hc : ∀ x z, 0 ≤ z → idxL b z = some x → ∃ e, c x z = some e ∧ (e = false → Q x)) :
    ∀ (xs : List α) (z : Int), 0 ≤ z → b.drop z.toNat = xs → F xs z = some (.inr false) ∨ (F xs z = some (.inl ()) ∧ ∀ x ∈ xs, Q x)
  | [], z, hz, hd => .inr ⟨h0 z, by simp⟩
  | x :: xs, z, hz, hd => by
    obtain ⟨h2, h3⟩ := idxL_drop hz hd
    obtain ⟨e, he, hq⟩ := hc x z hz h2
    rw [h1, he, Option.bind_some]
    cases e with
    | true => exact .inl rfl
    | false =>
      rw [cond_false]
      rcases chkLoop h0 h1 hc xs (z + 1) (by omega) h3 with h | ⟨h, hQ⟩
      · exact .inl h
      · exact .inr ⟨h, fun y hy => by
          rcases List.mem_cons.1 hy with rfl | hy
          · exact hq rfl
          · exact hQ y hy⟩
theorem chkList {α : Type} {F : List α → Int → Option (Unit ⊕ Bool)} {Q : α → Prop} {c : α → Int → Option Bool} (b : List α) (h0 : ∀ z, F [] z = some (.inl ()))
    (h1 : ∀ x xs z, F (x :: xs) z = (c x z).bind fun e => bif e then some (.inr false) else F xs (z + 1)) (hc : ∀ x z, 0 ≤ z → idxL b z = some x → ∃ e, c x z = some e ∧ (e = false → Q x)) :
    F b 0 = some (.inr false) ∨ (F b 0 = some (.inl ()) ∧ ∀ x ∈ b, Q x) := chkLoop h0 h1 hc b 0 (Int.le_refl _) rfl
theorem idxL_lt_len {α : Type} {l : List α} {z : Int} {x : α} (h : idxL l z = some x) : z < l.length ∧ x ∈ l := by
  have h1 := idxL_spec h
  have h2 := idxL_lt h
  exact ⟨by omega, List.mem_of_getElem? h1.2⟩
theorem idxL_prev {α : Type} {l : List α} {z : Int} {x : α} (h : idxL l z = some x) (h0 : 0 < z) : ∃ y, idxL l (z - 1) = some y := by
  obtain ⟨y, hy, _⟩ := idxL_some (l := l) (z := z - 1) (by omega) (by have := (idxL_lt_len h).1; omega)
  exact ⟨y, hy⟩
/-! ### Steps -/
theorem bind_ex {α β : Type} {x : Option α} {K : α → Option β} {v : α} (h : x = some v) : x.bind K = K v := by rw [h]; rfl
def sC (b : List TStep) (x : TStep) (z : Int) : Option Bool :=
  (s_l01In x.At 0 60).bind fun v12 => (bif (!v12) then some true else (s_l01In x.Capacity 0 20).bind fun v15 => (bif (!v15) then some true else (bif (decide (0 < z)) then (idxL b (z - 1)).bind fun v18 => some (decide (x.At ≤ v18.At)) else some false)))
theorem s_StepsOk_chk (b : List TStep) : s_StepsOk_L1 b b 0 = some (.inr false) ∨ (s_StepsOk_L1 b b 0 = some (.inl ()) ∧ ∀ x ∈ b, (0 ≤ x.At ∧ x.At ≤ 60) ∧ 0 ≤ x.Capacity ∧ x.Capacity ≤ 20) := by
  refine chkList (F := s_StepsOk_L1 b) (c := sC b) b (fun _ => rfl) (fun x xs z => ?_) (fun x z hz hx => ?_)
  · simp only [s_StepsOk_L1, sC, s_l01In_eq, Option.bind_some]
  · simp only [sC, s_l01In_eq, Option.bind_some]
    by_cases h1 : inR x.At 0 60 = true
    · by_cases h2 : inR x.Capacity 0 20 = true
      · rw [h1, h2]
        simp only [Bool.not_true, cond_false, Option.bind_some]
        have hq := (⟨inR_iff.1 h1, inR_iff.1 h2⟩ : (0 ≤ x.At ∧ x.At ≤ 60) ∧ 0 ≤ x.Capacity ∧ x.Capacity ≤ 20)
        by_cases h0 : 0 < z
        · obtain ⟨y, hy⟩ := idxL_prev hx h0
          rw [show decide (0 < z) = true by simpa using h0, cond_true, hy]
          exact ⟨_, rfl, fun _ => hq⟩
        · rw [show decide (0 < z) = false by simpa using h0, cond_false]
          exact ⟨_, rfl, fun _ => hq⟩
      · rw [h1, show inR x.Capacity 0 20 = false by simpa using h2]
        exact ⟨true, rfl, fun h => by cases h⟩
    · rw [show inR x.At 0 60 = false by simpa using h1]
      exact ⟨true, rfl, fun h => by cases h⟩
theorem s_StepsOk_ok (b : List TStep) : ∃ v, s_StepsOk b = some v ∧ (v = true → b ≠ [] ∧ ∀ x ∈ b, (0 ≤ x.At ∧ x.At ≤ 60) ∧ 0 ≤ x.Capacity ∧ x.Capacity ≤ 20) := by
  rcases s_StepsOk_chk b with h | ⟨h, hQ⟩
  · exact ⟨false, by simp only [s_StepsOk, h, sumBind, Option.bind_some, Sum.elim_inr], fun h => by cases h⟩
  · simp only [s_StepsOk, h, sumBind, Option.bind_some, Sum.elim_inl, s_l01In_eq]
    cases hl : inR (b.length : Int) 1 8 with
    | false => exact ⟨false, rfl, fun h => by cases h⟩
    | true =>
      have := inR_iff.1 hl
      obtain ⟨x, hx, _⟩ := idxL_some (l := b) (z := 0) (Int.le_refl _) (by omega)
      rw [cond_true, hx]
      exact ⟨_, rfl, fun _ => ⟨fun e => by subst e; simp at this, hQ⟩⟩
theorem StepsOk_L1 (b : List TStep) : ∀ (xs : List TStep) (z : Int), 0 < z → i_StepsOk_L1 b xs z = s_StepsOk_L1 b xs z
  | [], z, _ => rfl
  | x :: xs, z, hz => by
    have h0 : (z == 0) = false := by simp; omega
    simp only [i_StepsOk_L1, s_StepsOk_L1, i_isTime_eq, i_isAmount_eq, s_l01In_eq, h0, cond_false, StepsOk_L1 b xs (z + 1) (by omega)]
theorem StepsOk_eq (b : List TStep) : i_StepsOk b = s_StepsOk b := by
  have hs := s_StepsOk_chk b
  match b with
  | [] => rfl
  | x :: xs =>
    have hi0 : idxL (x :: xs) 0 = some x := rfl
    by_cases hA : x.At = 0
    · have e : i_StepsOk_L1 (x :: xs) (x :: xs) 0 = s_StepsOk_L1 (x :: xs) (x :: xs) 0 := by
        have h1 : (x.At != 0) = false := by simp [hA]
        simp only [i_StepsOk_L1, s_StepsOk_L1, i_isTime_eq, i_isAmount_eq, s_l01In_eq, h1, StepsOk_L1 (x :: xs) xs (0 + 1) (by omega)]
        rfl
      simp only [i_StepsOk, s_StepsOk, e, i_within_eq, s_l01In_eq, hi0, Option.bind_some, hA]
      congr 1
      funext _
      cases inR ((x :: xs).length : Int) 1 8 <;> rfl
    · have h1 : (x.At != 0) = true := by simp [hA]
      have h2 : (x.At == 0) = false := by simp [hA]
      have e : i_StepsOk_L1 (x :: xs) (x :: xs) 0 = some (.inr false) := by
        simp only [i_StepsOk_L1, i_isTime_eq, i_isAmount_eq, Option.bind_some, h1]
        cases inR x.At 0 60 <;> cases inR x.Capacity 0 20 <;> rfl
      have hi : i_StepsOk (x :: xs) = some false := by simp only [i_StepsOk, e, sumBind, Option.bind_some, Sum.elim_inr]
      rw [hi]
      rcases hs with h | ⟨h, _⟩
      · simp only [s_StepsOk, h, sumBind, Option.bind_some, Sum.elim_inr]
      · simp only [s_StepsOk, h, sumBind, Option.bind_some, Sum.elim_inl, s_l01In_eq, hi0, h2]
        cases inR ((x :: xs).length : Int) 1 8 <;> rfl
theorem ResourceOk_eq (r : TResource) : i_ResourceOk r = s_ResourceOk r := by simp only [i_ResourceOk, s_ResourceOk, ResourceOk_L1, StepsOk_eq]
/-- What a valid resource is. -/
def ResF (r : TResource) : Prop := (∀ x ∈ r.Steps, (0 ≤ x.At ∧ x.At ≤ 60) ∧ 0 ≤ x.Capacity ∧ x.Capacity ≤ 20) ∧ s_StepsOk r.Steps = some true ∧ (r.Setup.length = 0 ∨ r.Setup.length = 4) ∧ ∀ row ∈ r.Setup, row.length = 4 ∧ ∀ n ∈ row, 0 ≤ n ∧ n ≤ 12
theorem s_ResourceOk_L2_ok (b : List Int) : s_ResourceOk_L2 b 0 = some (.inr false) ∨ (s_ResourceOk_L2 b 0 = some (.inl ()) ∧ ∀ n ∈ b, 0 ≤ n ∧ n ≤ 12) :=
  chkList (F := s_ResourceOk_L2) (c := fun x _ => some (!inR x 0 12)) b (fun _ => rfl) (fun x xs z => by simp only [s_ResourceOk_L2, s_l01In_eq, Option.bind_some]) (fun x z _ _ => ⟨_, rfl, fun h => inR_iff.1 (by simpa using h)⟩)
theorem s_ResourceOk_L1_ok (b : List (List Int)) : s_ResourceOk_L1 b 0 = some (.inr false) ∨ (s_ResourceOk_L1 b 0 = some (.inl ()) ∧ ∀ row ∈ b, row.length = 4 ∧ ∀ n ∈ row, 0 ≤ n ∧ n ≤ 12) := by
  have key : ∀ row : List Int, ∃ e, (∀ xs z, s_ResourceOk_L1 (row :: xs) z = bif e then some (.inr false) else s_ResourceOk_L1 xs (z + 1)) ∧ (e = false → row.length = 4 ∧ ∀ n ∈ row, 0 ≤ n ∧ n ≤ 12) := by
    intro row
    by_cases hl : row.length = 4
    · have e : ((row.length : Int) != 4) = false := by simp [hl]
      rcases s_ResourceOk_L2_ok row with h | ⟨h, hQ⟩
      · exact ⟨true, fun xs z => by simp only [s_ResourceOk_L1, e, cond_false, h, sumBind, Option.bind_some, Sum.elim_inr, cond_true], fun h => by cases h⟩
      · exact ⟨false, fun xs z => by simp only [s_ResourceOk_L1, e, cond_false, h, sumBind, Option.bind_some, Sum.elim_inl], fun _ => ⟨hl, hQ⟩⟩
    · have e : ((row.length : Int) != 4) = true := by simp; omega
      exact ⟨true, fun xs z => by simp only [s_ResourceOk_L1, e, cond_true], fun h => by cases h⟩
  exact chkList (F := s_ResourceOk_L1) (c := fun row _ => some (Classical.choose (key row))) b (fun _ => rfl) (fun x xs z => (Classical.choose_spec (key x)).1 xs z) (fun x z _ _ => ⟨_, rfl, (Classical.choose_spec (key x)).2⟩)
theorem s_ResourceOk_ok (r : TResource) : ∃ v, s_ResourceOk r = some v ∧ (v = true → ResF r) := by
  rcases s_ResourceOk_L1_ok r.Setup with h | ⟨h, hQ⟩
  · exact ⟨false, by simp only [s_ResourceOk, h, sumBind, Option.bind_some, Sum.elim_inr], fun h => by cases h⟩
  · obtain ⟨v, hv, hf⟩ := s_StepsOk_ok r.Steps
    simp only [s_ResourceOk, h, sumBind, Option.bind_some, Sum.elim_inl, hv]
    cases v with
    | false => exact ⟨false, rfl, fun h => by cases h⟩
    | true =>
      refine ⟨_, by simp only [cond_true, cond_some, Option.bind_some]; rfl, fun he => ⟨(hf rfl).2, hv, ?_, hQ⟩⟩
      by_cases h0 : r.Setup.length = 0
      · exact .inl h0
      · right
        rw [show ((r.Setup.length : Int) == 0) = false by rw [int_beq]; exact decide_eq_false (by omega), cond_false, int_beq] at he
        have := of_decide_eq_true he
        omega

/-! ### Activities -/
/-- What a valid mode is, for a number of resources and of stocks. -/
def ModeF (m : TMode) (a b : Int) : Prop := (1 ≤ m.Duration ∧ m.Duration ≤ 12) ∧ ((m.Usage.length : Int) = a ∧ ∀ n ∈ m.Usage, 0 ≤ n ∧ n ≤ 20) ∧ ((m.Consumption.length : Int) = b ∧ ∀ n ∈ m.Consumption, 0 ≤ n ∧ n ≤ 20)
theorem s_l04Nums_ok (l : List Int) (n : Int) : ∃ v, s_l04Nums l n = some v ∧ (v = true → (l.length : Int) = n ∧ ∀ k ∈ l, 0 ≤ k ∧ k ≤ 20) := by
  rcases chkList (F := s_l04Nums_L1) (c := fun x _ => some (!inR x 0 20)) (Q := fun k => 0 ≤ k ∧ k ≤ 20) l (fun _ => rfl) (fun x xs z => by simp only [s_l04Nums_L1, s_l01In_eq, Option.bind_some]) (fun x z _ _ => ⟨_, rfl, fun h => inR_iff.1 (by simpa using h)⟩) with h | ⟨h, hQ⟩
  · exact ⟨false, by simp only [s_l04Nums, h, sumBind, Option.bind_some, Sum.elim_inr], fun h => by cases h⟩
  · exact ⟨_, by simp only [s_l04Nums, h, sumBind, Option.bind_some, Sum.elim_inl]; rfl, fun he => ⟨by simpa using he, hQ⟩⟩
theorem s_ModeOk_ok (m : TMode) (a b : Int) : ∃ v, s_ModeOk m a b = some v ∧ (v = true → ModeF m a b) := by
  obtain ⟨u, hu, fu⟩ := s_l04Nums_ok m.Usage a
  obtain ⟨k, hk, fk⟩ := s_l04Nums_ok m.Consumption b
  simp only [s_ModeOk, s_l01In_eq, Option.bind_some, hu, hk]
  cases hd : inR m.Duration 1 12 with
  | false => exact ⟨false, rfl, fun h => by cases h⟩
  | true => cases u with
    | false => exact ⟨false, rfl, fun h => by cases h⟩
    | true => cases k with
      | false => exact ⟨false, rfl, fun h => by cases h⟩
      | true => exact ⟨true, rfl, fun _ => ⟨inR_iff.1 hd, fu rfl, fk rfl⟩⟩
theorem cond_two {α : Type} {c : Bool} {x y : α} {P : α → Prop} (hx : P x) (hy : P y) : P (bif c then x else y) := by cases c <;> assumption
theorem idxS_some {s : ByteArray} {z : Int} (h0 : 0 ≤ z) (h : z < s.size) : ∃ v, idxS s z = some v := by
  have hlt : z.toNat < s.size := by omega
  exact ⟨_, by unfold idxS; rw [if_pos h0, getElem?_pos s z.toNat hlt]; rfl⟩
theorem s_IsName_L1_ok (s : ByteArray) (hs : s.size ≤ 9223372036854775807) : ∀ (n : Nat) (a : Int), 0 ≤ a → a ≤ s.size → (s.size : Int) < a + n → s_IsName_L1 s n a = some (.inr false) ∨ s_IsName_L1 s n a = some (.inl ())
  | 0, a, h0, h1, h2 => by omega
  | n + 1, a, h0, h1, h2 => by
    by_cases hlt : a < s.size
    · obtain ⟨v, hv⟩ := idxS_some h0 hlt
      have ih := s_IsName_L1_ok s hs n (a + 1) (by omega) (by omega) (by omega)
      rw [← W_of (n := a + 1) (by omega)] at ih
      simp only [s_IsName_L1, show decide (a < (s.size : Int)) = true by simpa using hlt, cond_true, hv, Option.bind_some, cond_some]
      exact cond_two (P := fun (o : Option (Unit ⊕ Bool)) => o = some (.inr false) ∨ o = some (.inl ())) (.inl rfl) ih
    · right
      simp only [s_IsName_L1, show decide (a < (s.size : Int)) = false by simpa using hlt, cond_false]
theorem s_IsName_ok (s : ByteArray) (hs : s.size ≤ 9223372036854775807) : ∃ v, s_IsName s = some v := by
  rcases s_IsName_L1_ok s hs F0 0 (Int.le_refl _) (by omega) (by have := F0_gt; omega) with h | h
  · exact ⟨false, by simp only [s_IsName, h, sumBind, Option.bind_some, Sum.elim_inr]⟩
  · exact ⟨_, by simp only [s_IsName, h, sumBind, Option.bind_some, Sum.elim_inl, s_l01In_eq]; rfl⟩
/-- What a valid activity is. -/
def ActF (x : TActivity) (a b : Int) : Prop := (0 ≤ x.Family ∧ x.Family ≤ 3) ∧ (1 ≤ x.Modes.length ∧ x.Modes.length ≤ 3) ∧ ∀ m ∈ x.Modes, ModeF m a b
theorem s_ActivityOk_ok (x : TActivity) (a b : Int) (hs : x.Name.size ≤ 9223372036854775807) : ∃ v, s_ActivityOk x a b = some v ∧ (v = true → ActF x a b) := by
  rcases chkList (F := s_ActivityOk_L1 a b) (c := fun m _ => (s_ModeOk m a b).bind fun v => some (!v)) (Q := fun m => ModeF m a b) x.Modes (fun _ => rfl) (fun m xs z => by
      simp only [s_ActivityOk_L1]
      cases s_ModeOk m a b <;> rfl) (fun m z _ _ => by
      obtain ⟨v, hv, hf⟩ := s_ModeOk_ok m a b
      rw [hv]
      exact ⟨_, rfl, fun h => hf (by simpa using h)⟩) with h | ⟨h, hQ⟩
  · exact ⟨false, by simp only [s_ActivityOk, h, sumBind, Option.bind_some, Sum.elim_inr], fun h => by cases h⟩
  · obtain ⟨v, hv⟩ := s_IsName_ok x.Name hs
    simp only [s_ActivityOk, h, sumBind, Option.bind_some, Sum.elim_inl, hv, s_l01In_eq]
    cases v with
    | false => exact ⟨false, rfl, fun h => by cases h⟩
    | true =>
      cases hf : inR x.Family 0 3 with
      | false => exact ⟨false, rfl, fun h => by cases h⟩
      | true => exact ⟨_, rfl, fun he => ⟨inR_iff.1 hf, by have := inR_iff.1 he; omega, hQ⟩⟩
theorem s_ActivityIndex_ok (p : TProject) (nm : ByteArray) : ∃ v, s_ActivityIndex p nm = some v := by
  have : ∀ (xs : List TActivity) (z : Int), ∃ o, s_ActivityIndex_L1 nm xs z = some o := by
    intro xs
    induction xs with
    | nil => exact fun z => ⟨_, rfl⟩
    | cons x xs ih =>
      intro z
      obtain ⟨o, ho⟩ := ih (z + 1)
      exact ⟨_, by rw [s_ActivityIndex_L1, ho, cond_some]⟩
  obtain ⟨o, ho⟩ := this p.Activities 0
  cases o with
  | inl u => exact ⟨_, by simp only [s_ActivityIndex, ho, sumBind, Option.bind_some, Sum.elim_inl]; rfl⟩
  | inr u => exact ⟨_, by simp only [s_ActivityIndex, ho, sumBind, Option.bind_some, Sum.elim_inr]; rfl⟩

/-! ### Projects -/
theorem linkOk_c (p : TProject) (k : TLink) : i_ProjectOk_c1 k p = some (!(inR k.From 0 (W ((p.Activities.length : Int) - 1)) && (inR k.To 0 (W ((p.Activities.length : Int) - 1)) && (k.From != k.To && inR k.Lag (-60) 60)))) := by
  simp only [i_ProjectOk_c1, i_Project_linkOk, hasActivity_eq, i_within_eq, Option.bind_some, cond_some, cond_and]
theorem linkOk_s (p : TProject) (k : TLink) : ((s_l01In k.From 0 (W ((p.Activities.length : Int) - 1))).bind fun v68 => (bif (!v68) then some true else (s_l01In k.To 0 (W ((p.Activities.length : Int) - 1))).bind fun v71 => (bif (!v71) then some true else (bif (k.From == k.To) then some true else (s_l01In k.Lag (-60) 60).bind fun v74 => some (!v74))))) = i_ProjectOk_c1 k p := by
  rw [linkOk_c]
  simp only [s_l01In_eq, Option.bind_some, cond_some, int_beq, int_bne]
  cases inR k.From 0 (W ((p.Activities.length : Int) - 1)) <;> cases inR k.To 0 (W ((p.Activities.length : Int) - 1)) <;> cases inR k.Lag (-60) 60 <;> cases decide (k.From = k.To) <;> rfl
theorem links_eq (p : TProject) : ∀ (xs : List TLink) (z : Int), 0 ≤ z → ∃ o, slices_IndexFunc_Link_L1 (fun x => i_ProjectOk_c1 x p) xs z = some o ∧ ((o = .inl () ∧ s_ProjectOk_L4 p xs z = some (.inl ())) ∨ ∃ k, o = .inr k ∧ 0 ≤ k ∧ s_ProjectOk_L4 p xs z = some (.inr false))
  | [], z, hz => ⟨.inl (), rfl, .inl ⟨rfl, rfl⟩⟩
  | x :: xs, z, hz => by
    obtain ⟨o, ho, hc⟩ := links_eq p xs (z + 1) (by omega)
    have e1 : s_ProjectOk_L4 p (x :: xs) z = (i_ProjectOk_c1 x p).bind fun e => bif e then some (.inr false) else s_ProjectOk_L4 p xs (z + 1) := by
      rw [← linkOk_s]
      simp only [s_ProjectOk_L4, s_l01In_eq, Option.bind_some]
    have e2 : slices_IndexFunc_Link_L1 (fun x => i_ProjectOk_c1 x p) (x :: xs) z = (i_ProjectOk_c1 x p).bind fun e => bif e then some (.inr z) else slices_IndexFunc_Link_L1 (fun x => i_ProjectOk_c1 x p) xs (z + 1) := rfl
    rw [e1, e2, linkOk_c, Option.bind_some, Option.bind_some]
    cases hb : (!(inR x.From 0 (W ((p.Activities.length : Int) - 1)) && (inR x.To 0 (W ((p.Activities.length : Int) - 1)) && (x.From != x.To && inR x.Lag (-60) 60)))) with
    | true => exact ⟨_, rfl, .inr ⟨z, rfl, hz, rfl⟩⟩
    | false => exact ⟨o, ho, hc⟩
theorem ProjectOk_L1 (p : TProject) : ∀ (xs : List TActivity) (z : Int), i_ProjectOk_L1 p xs z = s_ProjectOk_L1 p xs z
  | [], z => rfl
  | x :: xs, z => by simp only [i_ProjectOk_L1, s_ProjectOk_L1, ActivityOk_eq, ActivityIndex_eq, ProjectOk_L1 p xs]
theorem ProjectOk_L2 : ∀ (xs : List TResource) (z : Int), i_ProjectOk_L2 xs z = s_ProjectOk_L2 xs z
  | [], z => rfl
  | x :: xs, z => by simp only [i_ProjectOk_L2, s_ProjectOk_L2, ResourceOk_eq, ProjectOk_L2 xs]
theorem ProjectOk_L3 : ∀ (xs : List Int) (z : Int), i_ProjectOk_L3 xs z = s_ProjectOk_L3 xs z
  | [], z => rfl
  | x :: xs, z => by simp only [i_ProjectOk_L3, s_ProjectOk_L3, i_within_eq, s_l01In_eq, ProjectOk_L3 xs]
theorem ProjectOk_eq (p : TProject) : i_ProjectOk p = s_ProjectOk p := by
  obtain ⟨o, ho, hc⟩ := links_eq p p.Links 0 (Int.le_refl _)
  have e : (slices_ContainsFunc_Link p.Links (fun x => i_ProjectOk_c1 x p)).bind (fun v => some (!v)) = sumBind (s_ProjectOk_L4 p p.Links 0) (fun q => some q) fun _ => some true := by
    rcases hc with ⟨rfl, h2⟩ | ⟨k, rfl, hk, h2⟩
    · simp only [slices_ContainsFunc_Link, slices_IndexFunc_Link, ho, h2, sumBind, Option.bind_some, Sum.elim_inl]; rfl
    · simp only [slices_ContainsFunc_Link, slices_IndexFunc_Link, ho, h2, sumBind, Option.bind_some, Sum.elim_inr]
      simp [hk]
  simp only [i_ProjectOk, s_ProjectOk, ProjectOk_L1, ProjectOk_L2, ProjectOk_L3, i_within_eq, s_l01In_eq, e]
/-- What a valid project is. -/
structure ProjF (p : TProject) : Prop where
  deadline : 1 ≤ p.Deadline ∧ p.Deadline ≤ 60
  nact : 1 ≤ p.Activities.length ∧ p.Activities.length ≤ 6
  nres : p.Resources.length ≤ 3
  nstk : p.Stocks.length ≤ 2
  nlnk : p.Links.length ≤ 12
  acts : ∀ x ∈ p.Activities, ActF x p.Resources.length p.Stocks.length
  ress : ∀ r ∈ p.Resources, ResF r
  stks : ∀ n ∈ p.Stocks, 0 ≤ n ∧ n ≤ 100
  lnks : ∀ k ∈ p.Links, (0 ≤ k.From ∧ k.From < p.Activities.length) ∧ (0 ≤ k.To ∧ k.To < p.Activities.length) ∧ k.From ≠ k.To ∧ -60 ≤ k.Lag ∧ k.Lag ≤ 60
theorem s_ProjectOk_ok (p : TProject) (hs : ∀ x ∈ p.Activities, x.Name.size ≤ 9223372036854775807) : ∃ v, s_ProjectOk p = some v ∧ (v = true → ProjF p) := by
  simp only [s_ProjectOk, s_l01In_eq, Option.bind_some, cond_some]
  cases hd : inR p.Deadline 1 60 with
  | false => exact ⟨false, rfl, fun h => by cases h⟩
  | true =>
  cases ha : inR (p.Activities.length : Int) 1 6 with
  | false => exact ⟨false, rfl, fun h => by cases h⟩
  | true =>
  cases hr : decide (3 < (p.Resources.length : Int)) with
  | true => exact ⟨false, rfl, fun h => by cases h⟩
  | false =>
  cases hk : decide (2 < (p.Stocks.length : Int)) with
  | true => exact ⟨false, rfl, fun h => by cases h⟩
  | false =>
  cases hl : decide (12 < (p.Links.length : Int)) with
  | true => exact ⟨false, rfl, fun h => by cases h⟩
  | false =>
  simp only [Bool.not_true, cond_false]
  have hd := inR_iff.1 hd
  have ha := inR_iff.1 ha
  have hr := of_decide_eq_false hr
  have hk := of_decide_eq_false hk
  have hl := of_decide_eq_false hl
  have k1 : ∀ x, x ∈ p.Activities → ∃ v, s_ActivityOk x p.Resources.length p.Stocks.length = some v ∧ (v = true → ActF x p.Resources.length p.Stocks.length) := fun x hx => s_ActivityOk_ok x _ _ (hs x hx)
  have l1 := chkList (F := s_ProjectOk_L1 p) (Q := fun x => ActF x p.Resources.length p.Stocks.length) (c := fun x z => (s_ActivityOk x p.Resources.length p.Stocks.length).bind fun v20 => (bif (!v20) then some true else (s_ActivityIndex p x.Name).bind fun v23 => some (v23 != z))) p.Activities (fun _ => rfl) (fun x xs z => by
      simp only [s_ProjectOk_L1]
      cases s_ActivityOk x p.Resources.length p.Stocks.length <;> rfl) (fun x z _ hx => by
      obtain ⟨v, hv, hf⟩ := k1 x (idxL_lt_len hx).2
      obtain ⟨u, hu⟩ := s_ActivityIndex_ok p x.Name
      rw [hv, hu]
      cases v with
      | false => exact ⟨true, rfl, fun h => by cases h⟩
      | true => exact ⟨_, rfl, fun _ => hf rfl⟩)
  have l2 := chkList (F := s_ProjectOk_L2) (Q := ResF) (c := fun x _ => (s_ResourceOk x).bind fun v => some (!v)) p.Resources (fun _ => rfl) (fun x xs z => by
      simp only [s_ProjectOk_L2]
      cases s_ResourceOk x <;> rfl) (fun x z _ hx => by
      obtain ⟨v, hv, hf⟩ := s_ResourceOk_ok x
      rw [hv]
      exact ⟨_, rfl, fun h => hf (by simpa using h)⟩)
  have l3 := chkList (F := s_ProjectOk_L3) (Q := fun n => 0 ≤ n ∧ n ≤ 100) (c := fun x _ => some (!inR x 0 100)) p.Stocks (fun _ => rfl) (fun x xs z => by simp only [s_ProjectOk_L3, s_l01In_eq, Option.bind_some]) (fun x z _ _ => ⟨_, rfl, fun h => inR_iff.1 (by simpa using h)⟩)
  have l4 := chkList (F := s_ProjectOk_L4 p) (Q := fun k => (0 ≤ k.From ∧ k.From < p.Activities.length) ∧ (0 ≤ k.To ∧ k.To < p.Activities.length) ∧ k.From ≠ k.To ∧ -60 ≤ k.Lag ∧ k.Lag ≤ 60) (c := fun x _ => i_ProjectOk_c1 x p) p.Links (fun _ => rfl) (fun x xs z => by
      rw [← linkOk_s]
      simp only [s_ProjectOk_L4, s_l01In_eq, Option.bind_some]) (fun x z _ _ => ⟨_, linkOk_c p x, fun h => by
      have h : (inR x.From 0 (W ((p.Activities.length : Int) - 1)) && (inR x.To 0 (W ((p.Activities.length : Int) - 1)) && (x.From != x.To && inR x.Lag (-60) 60))) = true := by simpa using h
      simp only [Bool.and_eq_true] at h
      have h1 := inR_iff.1 h.1
      have h2 := inR_iff.1 h.2.1
      have h4 := inR_iff.1 h.2.2.2
      have h3 : x.From ≠ x.To := by simpa using h.2.2.1
      rw [W_of (by omega)] at h1 h2
      exact ⟨by omega, by omega, h3, h4⟩⟩)
  rcases l1 with h | ⟨h, q1⟩
  · exact ⟨false, by simp only [h, sumBind, Option.bind_some, Sum.elim_inr], fun h => by cases h⟩
  simp only [h, sumBind, Option.bind_some, Sum.elim_inl]
  rcases l2 with h | ⟨h, q2⟩
  · exact ⟨false, by simp only [h, Option.bind_some, Sum.elim_inr], fun h => by cases h⟩
  simp only [h, Option.bind_some, Sum.elim_inl]
  rcases l3 with h | ⟨h, q3⟩
  · exact ⟨false, by simp only [h, Option.bind_some, Sum.elim_inr], fun h => by cases h⟩
  simp only [h, Option.bind_some, Sum.elim_inl]
  rcases l4 with h | ⟨h, q4⟩
  · exact ⟨false, by simp only [h, Option.bind_some, Sum.elim_inr], fun h => by cases h⟩
  simp only [h, Option.bind_some, Sum.elim_inl]
  exact ⟨true, rfl, fun _ => ⟨hd, by omega, by omega, by omega, by omega, q1, q2, q3, q4⟩⟩
theorem names_of {p : TProject} {M : Nat} (h : bTProject M p) (hM : M ≤ 9223372036854775807) : ∀ x ∈ p.Activities, x.Name.size ≤ 9223372036854775807 := by
  unfold bTProject b_l_eTActivity at h
  intro x hx
  have := h.1.2 x hx
  unfold bTActivity b_str at this
  omega

/-! ### Capacities -/
theorem capacityAt_L1 (t : Int) : ∀ (xs : List TStep) (z a : Int), i_capacityAt_L1 t xs z a = s_l03At_L1 t xs z a
  | [], z, a => rfl
  | x :: xs, z, a => by simp only [i_capacityAt_L1, s_l03At_L1, capacityAt_L1 t xs]
theorem capacityAt_eq (b : List TStep) (t : Int) : i_capacityAt b t = s_l03At b t := by simp only [i_capacityAt, s_l03At, capacityAt_L1]
theorem s_l03At_L1_ok (t : Int) : ∀ (xs : List TStep) (z a : Int), (∀ x ∈ xs, 0 ≤ x.Capacity ∧ x.Capacity ≤ 20) → 0 ≤ a ∧ a ≤ 20 → ∃ v, s_l03At_L1 t xs z a = some v ∧ 0 ≤ v ∧ v ≤ 20
  | [], z, a, _, ha => ⟨a, rfl, ha⟩
  | x :: xs, z, a, hx, ha => by
    rw [s_l03At_L1]
    have h1 := s_l03At_L1_ok t xs (z + 1) x.Capacity (fun y hy => hx y (List.mem_cons_of_mem _ hy)) (hx x (List.mem_cons_self ..))
    have h2 := s_l03At_L1_ok t xs (z + 1) a (fun y hy => hx y (List.mem_cons_of_mem _ hy)) ha
    exact cond_two (P := fun (o : Option Int) => ∃ v, o = some v ∧ 0 ≤ v ∧ v ≤ 20) h1 h2
theorem s_l03At_ok (b : List TStep) (t : Int) (hb : ∀ x ∈ b, 0 ≤ x.Capacity ∧ x.Capacity ≤ 20) : ∃ v, s_l03At b t = some v ∧ 0 ≤ v ∧ v ≤ 20 := by
  obtain ⟨v, hv, h⟩ := s_l03At_L1_ok t b 0 0 hb (by omega)
  exact ⟨v, by simp only [s_l03At, hv, Option.bind_some], h⟩
theorem TotalCapacity_L1 (b : List TStep) (y : Int) : ∀ (n : Nat) (a t : Int), i_TotalCapacity_L1 b y n a t = s_TotalCapacity_L1 b y n a t
  | 0, a, t => rfl
  | n + 1, a, t => by simp only [i_TotalCapacity_L1, s_TotalCapacity_L1, capacityAt_eq, TotalCapacity_L1 b y n]
theorem TotalCapacity_eq (b : List TStep) (x y : Int) : i_TotalCapacity b x y = s_TotalCapacity b x y := by
  obtain ⟨v, hv, _⟩ := s_StepsOk_ok b
  simp only [i_TotalCapacity, s_TotalCapacity, s_l03Span, StepsOk_eq, i_isTime_eq, s_l01In_eq, hv, Option.bind_some, TotalCapacity_L1]
  cases v <;> cases inR x 0 60 <;> cases inR y 0 60 <;> rfl
theorem s_TotalCapacity_L1_ok (b : List TStep) (hb : ∀ x ∈ b, 0 ≤ x.Capacity ∧ x.Capacity ≤ 20) (y : Int) (hy : y ≤ 60) : ∀ (n : Nat) (a t : Int), 0 ≤ t → y - t < n → 0 < n → ∃ v, s_TotalCapacity_L1 b y n a t = some v
  | 0, a, t, h0, h1, h2 => by omega
  | n + 1, a, t, h0, h1, h2 => by
    rw [s_TotalCapacity_L1]
    by_cases hlt : t < y
    · obtain ⟨v, hv, _⟩ := s_l03At_ok b t hb
      rw [show decide (t < y) = true by simpa using hlt, cond_true, hv, Option.bind_some, W_of (n := t + 1) (by omega)]
      exact s_TotalCapacity_L1_ok b hb y hy n _ (t + 1) (by omega) (by omega) (by omega)
    · rw [show decide (t < y) = false by simpa using hlt]
      exact ⟨a, rfl⟩
theorem s_TotalCapacity_ok (b : List TStep) (x y : Int) : ∃ v, s_TotalCapacity b x y = some v := by
  obtain ⟨v, hv, hf⟩ := s_StepsOk_ok b
  simp only [s_TotalCapacity, s_l03Span, s_l01In_eq, hv, Option.bind_some]
  cases v with
  | false => exact ⟨0, rfl⟩
  | true =>
    cases hx : inR x 0 60 with
    | false => exact ⟨0, rfl⟩
    | true =>
      cases hy : inR y 0 60 with
      | false => exact ⟨0, rfl⟩
      | true =>
        have hx := inR_iff.1 hx
        have hy := inR_iff.1 hy
        obtain ⟨u, hu⟩ := s_TotalCapacity_L1_ok b (fun z hz => ((hf rfl).2 z hz).2) y hy.2 F0 0 x hx.1 (by have := F0_gt; omega) (by have := F0_gt; omega)
        exact ⟨u, by simp only [cond_true, cond_false, Bool.not_true, Option.bind_some, hu]⟩
theorem core_CapacityIn (p : TProject) (res x y : Int) (hp : bTProject 1048576 p) : ∃ v, s_CapacityIn p res x y = some v ∧ i_CapacityIn p res x y = some v := by
  obtain ⟨v, hv, hf⟩ := s_ProjectOk_ok p (names_of hp (by omega))
  have e : i_CapacityIn p res x y = s_CapacityIn p res x y := by simp only [i_CapacityIn, s_CapacityIn, ProjectOk_eq, hasResource_eq, s_l01In_eq, TotalCapacity_eq]
  rw [e]
  simp only [s_CapacityIn, hv, s_l01In_eq, Option.bind_some]
  cases v with
  | false => exact ⟨0, rfl, rfl⟩
  | true =>
    cases hr : inR res 0 (W ((p.Resources.length : Int) - 1)) with
    | false => exact ⟨0, rfl, rfl⟩
    | true =>
      obtain ⟨r, hr1, hr2⟩ := idx_of_inR hr
      obtain ⟨u, hu⟩ := s_TotalCapacity_ok r.Steps x y
      exact ⟨u, by simp only [cond_true, cond_false, Bool.not_true, Option.bind_some, hr1, hu], by simp only [cond_true, cond_false, Bool.not_true, Option.bind_some, hr1, hu]⟩

/-! ### Literals and clauses -/
def sgn (a b : Int) : Int := bif decide (a < b) then -1 else bif decide (b < a) then 1 else 0
theorem s_l11Sign_eq (a b : Int) : s_l11Sign a b = some (sgn a b) := by
  unfold s_l11Sign sgn
  cases decide (a < b) <;> cases decide (b < a) <;> rfl
theorem cmp_Compare_eq (a b : Int) : cmp_Compare_int a b = some (sgn a b) := by
  simp only [cmp_Compare_int, cmp_isNaN_int, Option.bind_some, int_bne, decide_true, Bool.not_true, cond_false, sgn]
  cases decide (a < b) <;> cases decide (b < a) <;> rfl
theorem sgn_zero {a b : Int} : sgn a b = 0 ↔ a = b := by
  unfold sgn
  by_cases h1 : a < b
  · simp [h1]; omega
  · by_cases h2 : b < a
    · simp [h1, h2]; omega
    · simp [h1, h2]; omega
theorem sgn_self (a : Int) : sgn a a = 0 := sgn_zero.2 rfl
/-- The order of literals. -/
def cmpLit (a b : TLiteral) : Int := if a.Activity ≠ b.Activity then sgn a.Activity b.Activity else if a.Kind ≠ b.Kind then sgn a.Kind b.Kind else sgn a.Value b.Value
theorem s_CompareLiterals_eq (a b : TLiteral) : s_CompareLiterals a b = some (cmpLit a b) := by
  simp only [s_CompareLiterals, s_l11Sign_eq, Option.bind_some, int_bne, cmpLit]
  by_cases h1 : a.Activity = b.Activity <;> by_cases h2 : a.Kind = b.Kind <;> simp [h1, h2]
theorem i_CompareLiterals_eq (a b : TLiteral) : i_CompareLiterals a b = some (cmpLit a b) := by
  simp only [i_CompareLiterals, cmp_Compare_eq, Option.bind_some, cmp_Or_int, cmp_Or_int_L1, int_bne, cmpLit]
  by_cases h1 : a.Activity = b.Activity
  · by_cases h2 : a.Kind = b.Kind
    · by_cases h3 : a.Value = b.Value
      · simp [sgn_self, h1, h2, h3, sumBind]
      · have h4 : sgn a.Value b.Value ≠ 0 := fun e => h3 (sgn_zero.1 e)
        simp [sgn_self, h4, h1, h2, sumBind]
    · have h4 : sgn a.Kind b.Kind ≠ 0 := fun e => h2 (sgn_zero.1 e)
      simp [sgn_self, h4, h1, h2, sumBind]
  · have h4 : sgn a.Activity b.Activity ≠ 0 := fun e => h1 (sgn_zero.1 e)
    simp [h4, h1, sumBind]
theorem LiteralOk_eq (p : TProject) (l : TLiteral) : i_LiteralOk p l = s_LiteralOk p l := by simp only [i_LiteralOk, s_LiteralOk, ProjectOk_eq, hasActivity_eq, i_within_eq, s_l01In_eq]
theorem s_LiteralOk_ok (p : TProject) (hs : ∀ x ∈ p.Activities, x.Name.size ≤ 9223372036854775807) (l : TLiteral) : ∃ v, s_LiteralOk p l = some v ∧ (v = true → ProjF p ∧ 0 ≤ l.Activity ∧ l.Activity < p.Activities.length) := by
  obtain ⟨v, hv, hf⟩ := s_ProjectOk_ok p hs
  simp only [s_LiteralOk, hv, s_l01In_eq, Option.bind_some, cond_some]
  cases v with
  | false => exact ⟨false, rfl, fun h => by cases h⟩
  | true =>
    cases hr : inR l.Activity 0 (W ((p.Activities.length : Int) - 1)) with
    | false => exact ⟨false, rfl, fun h => by cases h⟩
    | true =>
      obtain ⟨a, ha, _⟩ := idx_of_inR hr
      have hq : ProjF p ∧ 0 ≤ l.Activity ∧ l.Activity < p.Activities.length := ⟨hf rfl, (idxL_spec ha).1, (idxL_lt_len ha).1⟩
      simp only [ha, Option.bind_some, Bool.not_true, cond_false, cond_true, cond_some]
      exact ⟨_, rfl, fun _ => hq⟩
theorem ClauseOk_L1 (p : TProject) (b : List TLiteral) : ∀ (xs : List TLiteral) (z : Int), i_ClauseOk_L1 p b xs z = s_ClauseOk_L1 p b xs z
  | [], z => rfl
  | x :: xs, z => by simp only [i_ClauseOk_L1, s_ClauseOk_L1, LiteralOk_eq, i_CompareLiterals_eq, s_CompareLiterals_eq, ClauseOk_L1 p b xs]
theorem ClauseOk_eq (p : TProject) (b : List TLiteral) : i_ClauseOk p b = s_ClauseOk p b := by simp only [i_ClauseOk, s_ClauseOk, ClauseOk_L1]
theorem s_ClauseOk_ok (p : TProject) (hs : ∀ x ∈ p.Activities, x.Name.size ≤ 9223372036854775807) (b : List TLiteral) : ∃ v, s_ClauseOk p b = some v ∧ (v = true → b.length ≤ 24 ∧ ∀ l ∈ b, s_LiteralOk p l = some true) := by
  rcases chkList (F := s_ClauseOk_L1 p b) (Q := fun l => s_LiteralOk p l = some true) (c := fun x z => (s_LiteralOk p x).bind fun v => (bif (!v) then some true else (bif (decide (0 < z)) then (idxL b (z - 1)).bind fun y => some (decide (0 ≤ cmpLit y x)) else some false))) b (fun _ => rfl) (fun x xs z => by
      simp only [s_ClauseOk_L1, s_CompareLiterals_eq, Option.bind_some]
      cases s_LiteralOk p x <;> rfl) (fun x z hz hx => by
      obtain ⟨v, hv, _⟩ := s_LiteralOk_ok p hs x
      rw [hv, Option.bind_some]
      cases v with
      | false => exact ⟨true, rfl, fun h => by cases h⟩
      | true =>
        by_cases h0 : 0 < z
        · obtain ⟨y, hy⟩ := idxL_prev hx h0
          rw [show decide (0 < z) = true by simpa using h0, hy]
          exact ⟨_, rfl, fun _ => rfl⟩
        · rw [show decide (0 < z) = false by simpa using h0]
          exact ⟨_, rfl, fun _ => rfl⟩) with h | ⟨h, hQ⟩
  · exact ⟨false, by simp only [s_ClauseOk, h, sumBind, Option.bind_some, Sum.elim_inr], fun h => by cases h⟩
  · exact ⟨_, by simp only [s_ClauseOk, h, sumBind, Option.bind_some, Sum.elim_inl]; rfl, fun he => ⟨by have := of_decide_eq_true he; omega, hQ⟩⟩
theorem core_ClauseOk (p : TProject) (b : List TLiteral) (hp : bTProject 1048576 p) (_ : b_l_eTLiteral 1048576 b) : ∃ v, s_ClauseOk p b = some v ∧ i_ClauseOk p b = some v := by
  obtain ⟨v, hv, _⟩ := s_ClauseOk_ok p (names_of hp (by omega)) b
  exact ⟨v, hv, by rw [ClauseOk_eq]; exact hv⟩
theorem core_LineOk (p : TProject) (b : TLine) (hp : bTProject 1048576 p) (_ : bTLine 1048576 b) : ∃ v, s_LineOk p b = some v ∧ i_LineOk p b = some v := by
  obtain ⟨v, hv, _⟩ := s_ClauseOk_ok p (names_of hp (by omega)) b.Clause
  have e : i_LineOk p b = s_LineOk p b := by simp only [i_LineOk, s_LineOk, ClauseOk_eq]
  rw [e]
  simp only [s_LineOk, hv, Option.bind_some, cond_some]
  exact ⟨_, rfl, rfl⟩

/-! ### Sets, plans -/
theorem slices_Index_L1 (n : Int) : ∀ (xs : List Int) (z : Int), 0 ≤ z → (n ∈ xs → ∃ k, slices_Index_int_L1 n xs z = some (.inr k) ∧ 0 ≤ k) ∧ (n ∉ xs → slices_Index_int_L1 n xs z = some (.inl ()))
  | [], z, hz => ⟨fun h => (by cases h), fun _ => rfl⟩
  | x :: xs, z, hz => by
    by_cases hx : n = x
    · have e : (n == x) = true := by simp [hx]
      exact ⟨fun _ => ⟨z, by simp only [slices_Index_int_L1, e, cond_true], hz⟩, fun h => absurd (by simp [hx]) h⟩
    · have e : (n == x) = false := by simp [hx]
      have ih := slices_Index_L1 n xs (z + 1) (by omega)
      simp only [slices_Index_int_L1, e, cond_false, List.mem_cons, hx, false_or]
      exact ih
theorem i_SetHas_eq (l : List Int) (n : Int) : i_SetHas l n = some (decide (n ∈ l)) := by
  have h := slices_Index_L1 n l 0 (Int.le_refl _)
  by_cases hn : n ∈ l
  · obtain ⟨k, hk, h0⟩ := h.1 hn
    simp [i_SetHas, slices_Contains_int, slices_Index_int, hk, sumBind, h0, hn]
  · simp [i_SetHas, slices_Contains_int, slices_Index_int, h.2 hn, sumBind, hn]
theorem s_SetHas_L1_eq (n : Int) : ∀ (xs : List Int) (z : Int), s_SetHas_L1 n xs z = some (if n ∈ xs then .inr true else .inl ())
  | [], z => rfl
  | x :: xs, z => by
    rw [s_SetHas_L1, s_SetHas_L1_eq n xs, int_beq]
    by_cases hx : x = n
    · simp [hx]
    · have : n ≠ x := fun e => hx e.symm
      simp [hx, this]
theorem s_SetHas_eq (l : List Int) (n : Int) : s_SetHas l n = some (decide (n ∈ l)) := by
  simp only [s_SetHas, s_SetHas_L1_eq, sumBind, Option.bind_some]
  by_cases hn : n ∈ l <;> simp [hn]
theorem SetSubset_L1 (b : List Int) : ∀ (xs : List Int) (z : Int), i_SetSubset_L1 b xs z = s_SetSubset_L1 b xs z
  | [], z => rfl
  | x :: xs, z => by simp only [i_SetSubset_L1, s_SetSubset_L1, i_SetHas_eq, s_SetHas_eq, SetSubset_L1 b xs]
theorem SetSubset_eq (a b : List Int) : i_SetSubset a b = s_SetSubset a b := by simp only [i_SetSubset, s_SetSubset, SetSubset_L1]
theorem s_SetSubset_ok (a b : List Int) : ∃ v, s_SetSubset a b = some v ∧ (v = true → ∀ n ∈ a, n ∈ b) := by
  rcases chkList (F := s_SetSubset_L1 b) (c := fun x _ => some (!decide (x ∈ b))) (Q := fun n => n ∈ b) a (fun _ => rfl) (fun x xs z => by simp only [s_SetSubset_L1, s_SetHas_eq, Option.bind_some]) (fun x z _ _ => ⟨_, rfl, fun h => by simpa using h⟩) with h | ⟨h, hQ⟩
  · exact ⟨false, by simp only [s_SetSubset, h, sumBind, Option.bind_some, Sum.elim_inr], fun h => by cases h⟩
  · exact ⟨true, by simp only [s_SetSubset, h, sumBind, Option.bind_some, Sum.elim_inl], fun _ => hQ⟩
theorem s_SetOk_ok (b : List Int) : ∃ v, s_SetOk b = some v := by
  rcases chkList (F := s_SetOk_L1 b) (Q := fun _ => True) (c := fun x z => (bif (decide (0 < z)) then (idxL b (z - 1)).bind fun v14 => some (decide (x ≤ v14)) else some false)) b (fun _ => rfl) (fun x xs z => rfl) (fun x z hz hx => by
      by_cases h0 : 0 < z
      · obtain ⟨y, hy⟩ := idxL_prev hx h0
        rw [show decide (0 < z) = true by simpa using h0, hy]
        exact ⟨_, rfl, fun _ => trivial⟩
      · rw [show decide (0 < z) = false by simpa using h0]
        exact ⟨_, rfl, fun _ => trivial⟩) with h | ⟨h, hQ⟩
  · exact ⟨false, by simp only [s_SetOk, h, sumBind, Option.bind_some, Sum.elim_inr]⟩
  · exact ⟨true, by simp only [s_SetOk, h, sumBind, Option.bind_some, Sum.elim_inl]⟩
theorem SetOk_L1 (b : List Int) (hb : b.length ≤ 1048576) : ∀ (xs : List Int) (z : Int) (n : Nat), 0 < z → b.drop z.toNat = xs → xs.length < n → i_SetOk_L1 b n z = s_SetOk_L1 b xs z
  | [], z, n, hz, hd, hn => by
    obtain _ | n := n
    · simp at hn
    have : (b.length : Int) ≤ z := by
      have := congrArg List.length hd
      simp at this; omega
    rw [i_SetOk_L1, show decide (z < (b.length : Int)) = false by simpa using this]; rfl
  | x :: xs, z, n, hz, hd, hn => by
    obtain _ | n := n
    · simp at hn
    obtain ⟨h1, h2⟩ := idxL_drop (by omega) hd
    have h3 := (idxL_lt_len h1).1
    obtain ⟨y, hy⟩ := idxL_prev h1 hz
    have ih := SetOk_L1 b hb xs (z + 1) n (by omega) h2 (by simp at hn; omega)
    rw [i_SetOk_L1, s_SetOk_L1, show decide (z < (b.length : Int)) = true by simpa using h3, cond_true, h1, Option.bind_some, W_of (n := z - 1) (by omega), hy, Option.bind_some, W_of (n := z + 1) (by omega), ih, show decide (0 < z) = true by simpa using hz, cond_true]
    rfl
theorem SetOk_eq (b : List Int) (hb : b.length ≤ 1048576) : i_SetOk b = s_SetOk b := by
  match b with
  | [] => rfl
  | x :: xs =>
    have := SetOk_L1 (x :: xs) hb xs 1 F0 (by omega) rfl (by have := F0_gt; simp at hb; omega)
    have e : s_SetOk_L1 (x :: xs) (x :: xs) 0 = s_SetOk_L1 (x :: xs) xs 1 := rfl
    simp only [i_SetOk, s_SetOk, e, this]
theorem IntRange_L1 (b : Int) : ∀ (n : Nat) (a : Int) (l : List Int), i_IntRange_L1 b n a l = s_IntRange_L1 b n a l
  | 0, a, l => rfl
  | n + 1, a, l => by simp only [i_IntRange_L1, s_IntRange_L1, IntRange_L1 b n]
theorem IntRange_eq (b : Int) : i_IntRange b = s_IntRange b := by simp only [i_IntRange, s_IntRange, i_within_eq, s_l01In_eq, IntRange_L1]
/-- The numbers from 0 to n - 1. -/
def rangeI (n : Nat) : List Int := (List.range n).map fun (i : Nat) => (i : Int)
theorem s_IntRange_L1_ok (m : Nat) (hm : m ≤ 200) : ∀ (n : Nat) (k : Nat), k ≤ m → m - k < n → s_IntRange_L1 m n k (rangeI k) = some (rangeI m)
  | 0, k, h0, h1 => by omega
  | n + 1, k, h0, h1 => by
    rw [s_IntRange_L1]
    by_cases hlt : k < m
    · have e : rangeI k ++ [(k : Int)] = rangeI (k + 1) := by simp [rangeI, List.range_succ]
      have ha : appL (rangeI k) [(k : Int)] = some (rangeI (k + 1)) := by
        unfold appL
        rw [if_pos (by simp [rangeI]; omega), e]
      rw [show decide ((k : Int) < (m : Int)) = true by simpa using hlt, cond_true, ha, Option.bind_some, W_of (n := (k : Int) + 1) (by omega)]
      exact s_IntRange_L1_ok m hm n (k + 1) (by omega) (by omega)
    · rw [show decide ((k : Int) < (m : Int)) = false by simpa using hlt, show k = m by omega]; rfl
theorem s_IntRange_eq (n : Nat) (hn : n ≤ 200) : s_IntRange n = some (rangeI n) := by
  have := s_IntRange_L1_ok n hn F0 0 (by omega) (by have := F0_gt; omega)
  have e : (rangeI 0 : List Int) = [] := rfl
  rw [e] at this
  simp only [s_IntRange, s_l01In_eq, show inR (n : Int) 0 200 = true from inR_iff.2 (by omega), Option.bind_some, Bool.not_true, cond_false]
  rw [show (0 : Int) = ((0 : Nat) : Int) from rfl, this]; rfl
theorem ScheduleForm_L1 (b : TSchedule) : ∀ (xs : List TActivity) (z : Int), i_ScheduleForm_L1 b xs z = s_ScheduleForm_L1 b xs z
  | [], z => rfl
  | x :: xs, z => by simp only [i_ScheduleForm_L1, s_ScheduleForm_L1, i_isTime_eq, i_within_eq, s_l01In_eq, ScheduleForm_L1 b xs]
theorem ScheduleForm_eq (p : TProject) (b : TSchedule) : i_ScheduleForm p b = s_ScheduleForm p b := by simp only [i_ScheduleForm, s_ScheduleForm, ProjectOk_eq, ScheduleForm_L1]
theorem s_ScheduleForm_ok (p : TProject) (hs : ∀ x ∈ p.Activities, x.Name.size ≤ 9223372036854775807) (b : TSchedule) : ∃ v, s_ScheduleForm p b = some v ∧ (v = true → ProjF p) := by
  obtain ⟨v, hv, hf⟩ := s_ProjectOk_ok p hs
  simp only [s_ScheduleForm, hv, Option.bind_some, cond_some, int_bne]
  cases v with
  | false => exact ⟨false, rfl, fun h => by cases h⟩
  | true =>
    by_cases h1 : (b.Starts.length : Int) = p.Activities.length
    · by_cases h2 : (b.Modes.length : Int) = p.Activities.length
      · rcases chkList (F := s_ScheduleForm_L1 b) (Q := fun _ => True) (c := fun x z => (idxL b.Starts z).bind fun v17 => (bif (!inR v17 0 60) then some true else (idxL b.Modes z).bind fun v21 => some (!inR v21 0 (W ((x.Modes.length : Int) - 1))))) p.Activities (fun _ => rfl) (fun x xs z => by
            simp only [s_ScheduleForm_L1, s_l01In_eq, Option.bind_some]
            cases idxL b.Starts z <;> rfl) (fun x z hz hx => by
            have hl := (idxL_lt_len hx).1
            obtain ⟨s1, hs1, _⟩ := idxL_some (l := b.Starts) hz (by omega)
            obtain ⟨s2, hs2, _⟩ := idxL_some (l := b.Modes) hz (by omega)
            rw [hs1, hs2]
            simp only [Option.bind_some, cond_some]
            exact ⟨_, rfl, fun _ => trivial⟩) with h | ⟨h, _⟩
        · exact ⟨false, by simp [h1, h2, h, sumBind], fun h => by cases h⟩
        · exact ⟨true, by simp [h1, h2, h, sumBind], fun _ => hf rfl⟩
      · exact ⟨false, by simp [h1, h2], fun h => by cases h⟩
    · exact ⟨false, by simp [h1], fun h => by cases h⟩
theorem core_PlanOk (p : TProject) (b : TPlan) (hp : bTProject 1048576 p) (hb : bTPlan 1048576 b) : ∃ v, s_PlanOk p b = some v ∧ i_PlanOk p b = some v := by
  obtain ⟨v, hv, hf⟩ := s_ScheduleForm_ok p (names_of hp (by omega)) b.Schedule
  have hd : b.Done.length ≤ 1048576 := hb.2.1
  have e : i_PlanOk p b = s_PlanOk p b := by simp only [i_PlanOk, s_PlanOk, ScheduleForm_eq, SetOk_eq b.Done hd, IntRange_eq, SetSubset_eq]
  rw [e]
  simp only [s_PlanOk, hv, Option.bind_some]
  cases v with
  | false => exact ⟨false, rfl, rfl⟩
  | true =>
    obtain ⟨u, hu⟩ := s_SetOk_ok b.Done
    have hn := (hf rfl).nact
    obtain ⟨k, hk, _⟩ := s_SetSubset_ok b.Done (rangeI p.Activities.length)
    rw [hu, s_IntRange_eq _ (by omega)]
    simp only [Option.bind_some, hk, cond_true, cond_some]
    exact ⟨_, rfl, rfl⟩
/-- A loop of tests, told by places; 'r': what it ends with where a test is true. -/
theorem chkLoopI {α ρ : Type} {F : List α → Int → Option (Unit ⊕ ρ)} {b : List α} {Q : Int → α → Prop} {c : α → Int → Option Bool} {r : ρ} (h0 : ∀ z, F [] z = some (.inl ()))
    (h1 : ∀ x xs z, F (x :: xs) z = (c x z).bind fun e => bif e then some (.inr r) else F xs (z + 1)) (hc : ∀ x z, 0 ≤ z → idxL b z = some x → ∃ e, c x z = some e ∧ (e = false → Q z x)) :
    ∀ (xs : List α) (z : Int), 0 ≤ z → b.drop z.toNat = xs → F xs z = some (.inr r) ∨ (F xs z = some (.inl ()) ∧ ∀ y x, z ≤ y → idxL b y = some x → Q y x)
  | [], z, hz, hd => .inr ⟨h0 z, fun y x hy hx => by
      have := (idxL_lt_len hx).1
      have := congrArg List.length hd
      simp at this; omega⟩
  | x :: xs, z, hz, hd => by
    obtain ⟨h2, h3⟩ := idxL_drop hz hd
    obtain ⟨e, he, hq⟩ := hc x z hz h2
    rw [h1, he, Option.bind_some]
    cases e with
    | true => exact .inl rfl
    | false =>
      rw [cond_false]
      rcases chkLoopI h0 h1 hc xs (z + 1) (by omega) h3 with h | ⟨h, hQ⟩
      · exact .inl h
      · exact .inr ⟨h, fun y x' hy hx => by
          by_cases e : y = z
          · subst e
            rw [h2] at hx; cases hx
            exact hq rfl
          · exact hQ y x' (by omega) hx⟩
theorem chkListI {α ρ : Type} {F : List α → Int → Option (Unit ⊕ ρ)} {Q : Int → α → Prop} {c : α → Int → Option Bool} {r : ρ} (b : List α) (h0 : ∀ z, F [] z = some (.inl ()))
    (h1 : ∀ x xs z, F (x :: xs) z = (c x z).bind fun e => bif e then some (.inr r) else F xs (z + 1)) (hc : ∀ x z, 0 ≤ z → idxL b z = some x → ∃ e, c x z = some e ∧ (e = false → Q z x)) :
    F b 0 = some (.inr r) ∨ (F b 0 = some (.inl ()) ∧ ∀ y x, idxL b y = some x → Q y x) :=
  (chkLoopI h0 h1 hc b 0 (Int.le_refl _) rfl).imp id fun ⟨h, hQ⟩ => ⟨h, fun y x hx => hQ y x (idxL_spec hx).1 hx⟩
theorem mem_rangeI {n : Int} {k : Nat} (h : n ∈ rangeI k) : 0 ≤ n ∧ n < k := by
  simp only [rangeI, List.mem_map, List.mem_range] at h
  obtain ⟨i, hi, rfl⟩ := h
  omega
theorem idxL_same {α β : Type} {l : List α} {k : List β} {z : Int} {x : α} (h : idxL l z = some x) (hl : l.length = k.length) : ∃ y, idxL k z = some y := by
  obtain ⟨y, hy, _⟩ := idxL_some (l := k) (idxL_spec h).1 (by have := (idxL_lt_len h).1; omega)
  exact ⟨y, hy⟩
theorem s_ModeIndexes_eq (x : TActivity) (h : x.Modes.length ≤ 200) : s_ModeIndexes x = some (rangeI x.Modes.length) := by simp only [s_ModeIndexes, s_IntRange_eq _ h, Option.bind_some]
theorem ModeIndexes_eq (x : TActivity) : i_ModeIndexes x = s_ModeIndexes x := by simp only [i_ModeIndexes, s_ModeIndexes, IntRange_eq]

/-! ### Domains -/
/-- What a domain of a project is, by form. -/
structure DomF (p : TProject) (b : TDomain) : Prop where
  proj : ProjF p
  l1 : b.MinStart.length = p.Activities.length
  l2 : b.MaxStart.length = p.Activities.length
  l3 : b.Modes.length = p.Activities.length
  at_ : ∀ a x, idxL p.Activities a = some x → ∃ m1 m2 ms, idxL b.MinStart a = some m1 ∧ idxL b.MaxStart a = some m2 ∧ idxL b.Modes a = some ms ∧ (-2 ≤ m1 ∧ m1 ≤ 62) ∧ (-2 ≤ m2 ∧ m2 ≤ 62) ∧ s_SetOk ms = some true ∧ ∀ n ∈ ms, 0 ≤ n ∧ n < x.Modes.length
/-- One round of the form's test. -/
def dfC (b : TDomain) (x : TActivity) (z : Int) : Option Bool :=
  (idxL b.MinStart z).bind fun v18 => (bif (!inR v18 (-2) 62) then some true else (idxL b.MaxStart z).bind fun v22 => (bif (!inR v22 (-2) 62) then some true else (idxL b.Modes z).bind fun v25 => (s_SetOk v25).bind fun v26 => (bif (!v26) then some true else (s_ModeIndexes x).bind fun v28 => (s_SetSubset v25 v28).bind fun v29 => some (!v29))))
theorem dfC_s (b : TDomain) (x : TActivity) (xs : List TActivity) (z : Int) : s_DomainForm_L1 b (x :: xs) z = (dfC b x z).bind fun e => bif e then some (.inr false) else s_DomainForm_L1 b xs (z + 1) := by
  simp only [s_DomainForm_L1, s_l01In_eq, Option.bind_some, dfC]
  cases idxL b.MinStart z <;> rfl
theorem DomainForm_L1 (p : TProject) (b : TDomain) (hb : ∀ ms ∈ b.Modes, ms.length ≤ 1048576) : ∀ (xs : List TActivity) (ys : List (List Int)) (z : Int), 0 ≤ z → p.Activities.drop z.toNat = xs → b.Modes.drop z.toNat = ys → xs.length = ys.length → i_DomainForm_L1 p b ys z = s_DomainForm_L1 b xs z
  | [], [], z, _, _, _, _ => rfl
  | [], _ :: _, z, _, _, _, h => by simp at h
  | _ :: _, [], z, _, _, _, h => by simp at h
  | x :: xs, y :: ys, z, hz, h1, h2, h3 => by
    obtain ⟨a1, a2⟩ := idxL_drop hz h1
    obtain ⟨b1, b2⟩ := idxL_drop hz h2
    have ih := DomainForm_L1 p b hb xs ys (z + 1) (by omega) a2 b2 (by simpa using h3)
    simp only [i_DomainForm_L1, s_DomainForm_L1, i_isStart_eq, s_l01In_eq, Option.bind_some, a1, b1, ih, ModeIndexes_eq, SetSubset_eq, SetOk_eq y (hb y (idxL_lt_len b1).2)]
theorem DomainForm_eq (p : TProject) (b : TDomain) (hb : ∀ ms ∈ b.Modes, ms.length ≤ 1048576) : i_DomainForm p b = s_DomainForm p b := by
  simp only [i_DomainForm, s_DomainForm, ProjectOk_eq, int_bne]
  by_cases h : (b.Modes.length : Int) = p.Activities.length
  · rw [DomainForm_L1 p b hb p.Activities b.Modes 0 (Int.le_refl _) rfl rfl (by omega)]
  · simp only [h, decide_false, Bool.not_false]
    cases s_ProjectOk p with
    | none => rfl
    | some v =>
      cases v
      · rfl
      · simp only [Option.bind_some, Bool.not_true, cond_false]
        cases decide ((b.MinStart.length : Int) = p.Activities.length) <;> cases decide ((b.MaxStart.length : Int) = p.Activities.length) <;> rfl
theorem dfC_ok (p : TProject) (b : TDomain) (hp : ProjF p) (l1 : b.MinStart.length = p.Activities.length) (l2 : b.MaxStart.length = p.Activities.length) (l3 : b.Modes.length = p.Activities.length) (x : TActivity) (z : Int) (hx : idxL p.Activities z = some x) :
    ∃ e, dfC b x z = some e ∧ (e = false → ∃ m1 m2 ms, idxL b.MinStart z = some m1 ∧ idxL b.MaxStart z = some m2 ∧ idxL b.Modes z = some ms ∧ (-2 ≤ m1 ∧ m1 ≤ 62) ∧ (-2 ≤ m2 ∧ m2 ≤ 62) ∧ s_SetOk ms = some true ∧ ∀ n ∈ ms, 0 ≤ n ∧ n < x.Modes.length) := by
  obtain ⟨m1, h1⟩ := idxL_same hx l1.symm
  obtain ⟨m2, h2⟩ := idxL_same hx l2.symm
  obtain ⟨ms, h3⟩ := idxL_same hx l3.symm
  have hm := (hp.acts x (idxL_lt_len hx).2).2.1
  obtain ⟨v, hv⟩ := s_SetOk_ok ms
  obtain ⟨u, hu, fu⟩ := s_SetSubset_ok ms (rangeI x.Modes.length)
  simp only [dfC, h1, h2, h3, Option.bind_some, hv, s_ModeIndexes_eq x (by omega), hu]
  cases e1 : inR m1 (-2) 62 with
  | false => exact ⟨true, rfl, fun h => by cases h⟩
  | true => cases e2 : inR m2 (-2) 62 with
    | false => exact ⟨true, rfl, fun h => by cases h⟩
    | true => cases v with
      | false => exact ⟨true, rfl, fun h => by cases h⟩
      | true => exact ⟨_, rfl, fun h => ⟨m1, m2, ms, rfl, rfl, rfl, inR_iff.1 e1, inR_iff.1 e2, hv, fun n hn => mem_rangeI (fu (by simpa using h) n hn)⟩⟩
theorem s_DomainForm_ok (p : TProject) (hs : ∀ x ∈ p.Activities, x.Name.size ≤ 9223372036854775807) (b : TDomain) : ∃ v, s_DomainForm p b = some v ∧ (v = true → DomF p b) := by
  obtain ⟨v, hv, hf⟩ := s_ProjectOk_ok p hs
  simp only [s_DomainForm, hv, Option.bind_some, cond_some, int_bne]
  cases v with
  | false => exact ⟨false, rfl, fun h => by cases h⟩
  | true =>
    by_cases h1 : (b.MinStart.length : Int) = p.Activities.length
    · by_cases h2 : (b.MaxStart.length : Int) = p.Activities.length
      · by_cases h3 : (b.Modes.length : Int) = p.Activities.length
        · rcases chkListI (F := s_DomainForm_L1 b) (c := dfC b) p.Activities (fun _ => rfl) (dfC_s b) (fun x z hz hx => dfC_ok p b (hf rfl) (by omega) (by omega) (by omega) x z hx) with h | ⟨h, hQ⟩
          · exact ⟨false, by simp [h1, h2, h3, h, sumBind], fun h => by cases h⟩
          · exact ⟨true, by simp [h1, h2, h3, h, sumBind], fun _ => ⟨hf rfl, by omega, by omega, by omega, hQ⟩⟩
        · exact ⟨false, by simp [h1, h2, h3], fun h => by cases h⟩
      · exact ⟨false, by simp [h1, h2], fun h => by cases h⟩
    · exact ⟨false, by simp [h1], fun h => by cases h⟩
theorem DomainEmpty_L1 (b : TDomain) : ∀ (xs : List Int) (z : Int), i_DomainEmpty_L1 b xs z = s_DomainEmpty_L1 b xs z
  | [], z => rfl
  | x :: xs, z => by simp only [i_DomainEmpty_L1, s_DomainEmpty_L1, DomainEmpty_L1 b xs]
theorem DomainEmpty_L2 : ∀ (xs : List (List Int)) (z : Int), 0 ≤ z → (slices_IndexFunc__int_L1 (fun x => i_DomainEmpty_c1 x) xs z = some (.inl ()) ∧ s_DomainEmpty_L2 xs z = some (.inl ()) ∧ ∀ m ∈ xs, m ≠ []) ∨ ∃ k, slices_IndexFunc__int_L1 (fun x => i_DomainEmpty_c1 x) xs z = some (.inr k) ∧ 0 ≤ k ∧ s_DomainEmpty_L2 xs z = some (.inr true)
  | [], z, hz => .inl ⟨rfl, rfl, by simp⟩
  | x :: xs, z, hz => by
    have e1 : slices_IndexFunc__int_L1 (fun x => i_DomainEmpty_c1 x) (x :: xs) z = bif ((x.length : Int) == 0) then some (.inr z) else slices_IndexFunc__int_L1 (fun x => i_DomainEmpty_c1 x) xs (z + 1) := rfl
    rw [e1, s_DomainEmpty_L2, int_beq]
    by_cases hx : (x.length : Int) = 0
    · right; exact ⟨z, by simp [hx], hz, by simp [hx]⟩
    · rw [show decide ((x.length : Int) = 0) = false by simpa using hx, cond_false, cond_false]
      rcases DomainEmpty_L2 xs (z + 1) (by omega) with ⟨h1, h2, h3⟩ | h
      · left; exact ⟨h1, h2, fun m hm => by
          rcases List.mem_cons.1 hm with rfl | hm
          · intro e; subst e; simp at hx
          · exact h3 m hm⟩
      · exact .inr h
theorem DomainEmpty_eq (b : TDomain) : i_DomainEmpty b = s_DomainEmpty b := by
  simp only [i_DomainEmpty, s_DomainEmpty, DomainEmpty_L1]
  congr 1
  funext _
  rcases DomainEmpty_L2 b.Modes 0 (Int.le_refl _) with ⟨h1, h2, _⟩ | ⟨k, h1, h0, h2⟩
  · simp [slices_ContainsFunc__int, slices_IndexFunc__int, h1, h2, sumBind]
  · simp [slices_ContainsFunc__int, slices_IndexFunc__int, h1, h2, sumBind, h0]
theorem s_DomainEmpty_ok (b : TDomain) : ∃ v, s_DomainEmpty b = some v ∧ (v = false → (∀ a m1 m2, idxL b.MinStart a = some m1 → idxL b.MaxStart a = some m2 → m1 ≤ m2) ∧ ∀ m ∈ b.Modes, m ≠ []) := by
  rcases chkListI (F := s_DomainEmpty_L1 b) (Q := fun a m1 => ∀ m2, idxL b.MaxStart a = some m2 → m1 ≤ m2) (c := fun x z => (bif (decide (z < (b.MaxStart.length : Int))) then (idxL b.MaxStart z).bind fun v14 => some (decide (v14 < x)) else some false)) b.MinStart (fun _ => rfl) (fun x xs z => rfl) (fun x z hz hx => by
      by_cases h : z < b.MaxStart.length
      · obtain ⟨y, hy, _⟩ := idxL_some hz h
        rw [show decide (z < (b.MaxStart.length : Int)) = true by simpa using h, cond_true, hy]
        exact ⟨_, rfl, fun h m2 hm => by cases hm; simpa using h⟩
      · rw [show decide (z < (b.MaxStart.length : Int)) = false by simpa using h]
        exact ⟨_, rfl, fun _ m2 hm => absurd (idxL_lt_len hm).1 h⟩) with h | ⟨h, hQ⟩
  · exact ⟨true, by simp only [s_DomainEmpty, h, sumBind, Option.bind_some, Sum.elim_inr], fun h => by cases h⟩
  · rcases DomainEmpty_L2 b.Modes 0 (Int.le_refl _) with ⟨h1, h2, h3⟩ | ⟨k, h1, h0, h2⟩
    · exact ⟨false, by simp only [s_DomainEmpty, h, h2, sumBind, Option.bind_some, Sum.elim_inl], fun _ => ⟨fun a m1 m2 a1 a2 => hQ a m1 a1 m2 a2, h3⟩⟩
    · exact ⟨true, by simp only [s_DomainEmpty, h, h2, sumBind, Option.bind_some, Sum.elim_inl, Sum.elim_inr], fun h => by cases h⟩
/-- A usable domain. -/
structure UseF (p : TProject) (b : TDomain) : Prop where
  dom : DomF p b
  le : ∀ a m1 m2, idxL b.MinStart a = some m1 → idxL b.MaxStart a = some m2 → m1 ≤ m2
  ne : ∀ m ∈ b.Modes, m ≠ []
theorem l14Ok_eq (p : TProject) (b : TDomain) (hb : ∀ ms ∈ b.Modes, ms.length ≤ 1048576) : i_isUsable p b = s_l14Ok p b := by simp only [i_isUsable, s_l14Ok, DomainForm_eq p b hb, DomainEmpty_eq]
theorem s_l14Ok_ok (p : TProject) (hs : ∀ x ∈ p.Activities, x.Name.size ≤ 9223372036854775807) (b : TDomain) : ∃ v, s_l14Ok p b = some v ∧ (v = true → UseF p b) := by
  obtain ⟨v, hv, hf⟩ := s_DomainForm_ok p hs b
  obtain ⟨u, hu, fu⟩ := s_DomainEmpty_ok b
  simp only [s_l14Ok, hv, hu, Option.bind_some]
  cases v with
  | false => exact ⟨false, rfl, fun h => by cases h⟩
  | true =>
    cases u with
    | true => exact ⟨false, rfl, fun h => by cases h⟩
    | false => exact ⟨true, rfl, fun _ => ⟨hf rfl, (fu rfl).1, (fu rfl).2⟩⟩
theorem modes_of {b : TDomain} (h : bTDomain 1048576 b) : ∀ ms ∈ b.Modes, ms.length ≤ 1048576 := by
  unfold bTDomain b_l_l_int at h
  exact fun ms hm => h.2.2.1.2 ms hm

/-! ### Durations -/
/-- The modes whose places are in a list. -/
def chosenF (ms : List Int) : List TMode → Int → List TMode
  | [], _ => []
  | x :: xs, z => if z ∈ ms then x :: chosenF ms xs (z + 1) else chosenF ms xs (z + 1)
theorem chosenF_len (ms : List Int) : ∀ (xs : List TMode) (z : Int), (chosenF ms xs z).length ≤ xs.length
  | [], z => Nat.le_refl _
  | x :: xs, z => by
    have := chosenF_len ms xs (z + 1)
    unfold chosenF
    split <;> simp <;> omega
theorem chosenF_mem (ms : List Int) : ∀ (xs : List TMode) (z : Int) (m : TMode), m ∈ chosenF ms xs z → m ∈ xs
  | [], z, m, h => by cases h
  | x :: xs, z, m, h => by
    unfold chosenF at h
    split at h
    · rcases List.mem_cons.1 h with rfl | h
      · exact List.mem_cons_self ..
      · exact List.mem_cons_of_mem _ (chosenF_mem ms xs (z + 1) m h)
    · exact List.mem_cons_of_mem _ (chosenF_mem ms xs (z + 1) m h)
theorem i_chosen_L1_eq (ms : List Int) : ∀ (xs : List TMode) (z : Int) (acc : List TMode), acc.length + xs.length ≤ 1048576 → i_chosen_L1 ms xs z acc = some (acc ++ chosenF ms xs z)
  | [], z, acc, _ => by simp [i_chosen_L1, chosenF]
  | x :: xs, z, acc, h => by
    simp at h
    rw [i_chosen_L1, i_SetHas_eq, Option.bind_some]
    by_cases hz : z ∈ ms
    · have ha : appL acc [x] = some (acc ++ [x]) := by unfold appL; rw [if_pos (by simp; omega)]
      rw [show decide (z ∈ ms) = true by simpa using hz, cond_true, ha, Option.bind_some, i_chosen_L1_eq ms xs (z + 1) _ (by simp; omega)]
      simp [chosenF, hz]
    · rw [show decide (z ∈ ms) = false by simpa using hz, cond_false, i_chosen_L1_eq ms xs (z + 1) _ (by omega)]
      simp [chosenF, hz]
theorem i_chosen_eq (x : TActivity) (ms : List Int) (h : x.Modes.length ≤ 1048576) : i_chosen x ms = some (chosenF ms x.Modes 0) := by
  simp only [i_chosen, i_chosen_L1_eq ms x.Modes 0 [] (by simpa using h), Option.bind_some, List.nil_append]
/-- The least of a number of modes: of those behind, a number at hand, and whether there is one. -/
def leastF (f : TMode → Int) : List TMode → Int → Bool → Int
  | [], a, _ => a
  | x :: xs, a, has => bif (!has || decide (f x < a)) then leastF f xs (f x) true else leastF f xs a has
theorem s_MinDuration_L1_eq (ms : List Int) : ∀ (xs : List TMode) (z a : Int) (has : Bool), s_MinDuration_L1 ms xs z a has = some (leastF TMode.Duration (chosenF ms xs z) a has)
  | [], z, a, has => rfl
  | x :: xs, z, a, has => by
    rw [s_MinDuration_L1, s_SetHas_eq, Option.bind_some, s_MinDuration_L1_eq ms xs, s_MinDuration_L1_eq ms xs]
    by_cases hz : z ∈ ms
    · simp only [hz, decide_true, cond_true, cond_some, cond_or, Option.bind_some, chosenF, if_true, leastF]
    · simp only [hz, decide_false, cond_false, cond_some, Option.bind_some, chosenF, if_false]
theorem s_MinDuration_eq (x : TActivity) (ms : List Int) : s_MinDuration x ms = some (leastF TMode.Duration (chosenF ms x.Modes 0) 0 false) := by
  simp only [s_MinDuration, s_MinDuration_L1_eq, Option.bind_some]
theorem i_MinDuration_L1_eq : ∀ (xs : List TMode) (z a : Int), 0 < z → i_MinDuration_L1 xs z a = some (leastF TMode.Duration xs a true)
  | [], z, a, _ => rfl
  | x :: xs, z, a, hz => by
    rw [i_MinDuration_L1, i_MinDuration_L1_eq xs (z + 1) _ (by omega), i_MinDuration_L1_eq xs (z + 1) _ (by omega), show (z == 0) = false by rw [int_beq]; exact decide_eq_false (by omega)]
    simp only [cond_false, Option.bind_some, cond_some, leastF, Bool.not_true, Bool.false_or]
theorem i_MinDuration_eq (x : TActivity) (ms : List Int) (h : x.Modes.length ≤ 1048576) : i_MinDuration x ms = s_MinDuration x ms := by
  rw [s_MinDuration_eq]
  simp only [i_MinDuration, i_chosen_eq x ms h, Option.bind_some]
  match chosenF ms x.Modes 0 with
  | [] => rfl
  | y :: ys =>
    simp only [i_MinDuration_L1, i_MinDuration_L1_eq ys (0 + 1) _ (by omega)]
    simp [leastF]
theorem l14Short_eq (p : TProject) (b : TDomain) (a : Int) (hm : ∀ x ∈ p.Activities, x.Modes.length ≤ 1048576) : i_Project_duration p b a = s_l14Short p b a := by
  unfold i_Project_duration s_l14Short
  cases h : idxL p.Activities a with
  | none => rfl
  | some x => simp only [Option.bind_some, i_MinDuration_eq x _ (hm x (idxL_lt_len h).2)]
theorem s_l14Short_ok {p : TProject} {b : TDomain} (h : DomF p b) {a : Int} {x : TActivity} (hx : idxL p.Activities a = some x) : ∃ v, s_l14Short p b a = some v := by
  obtain ⟨m1, m2, ms, h1, h2, h3, _⟩ := h.at_ a x hx
  exact ⟨_, by simp only [s_l14Short, hx, h3, Option.bind_some, s_MinDuration_eq]; rfl⟩
theorem mlen_of {p : TProject} (h : bTProject 1048576 p) : ∀ x ∈ p.Activities, x.Modes.length ≤ 1048576 := by
  unfold bTProject b_l_eTActivity at h
  intro x hx
  have := h.1.2 x hx
  unfold bTActivity b_l_eTMode at this
  exact this.2.1.1
theorem core_ShortestDuration (p : TProject) (b : TDomain) (a : Int) (hp : bTProject 1048576 p) (hb : bTDomain 1048576 b) : ∃ v, s_ShortestDuration p b a = some v ∧ i_ShortestDuration p b a = some v := by
  obtain ⟨v, hv, hf⟩ := s_l14Ok_ok p (names_of hp (by omega)) b
  have e : i_ShortestDuration p b a = s_ShortestDuration p b a := by simp only [i_ShortestDuration, s_ShortestDuration, l14Ok_eq p b (modes_of hb), hasActivity_eq, s_l01In_eq, l14Short_eq p b a (mlen_of hp)]
  rw [e]
  simp only [s_ShortestDuration, hv, s_l01In_eq, Option.bind_some, cond_some]
  cases v with
  | false => exact ⟨0, rfl, rfl⟩
  | true =>
    cases hr : inR a 0 (W ((p.Activities.length : Int) - 1)) with
    | false => exact ⟨0, rfl, rfl⟩
    | true =>
      obtain ⟨x, hx, _⟩ := idx_of_inR hr
      obtain ⟨u, hu⟩ := s_l14Short_ok (hf rfl).dom hx
      simp only [hu, Option.bind_some]
      exact ⟨u, rfl, rfl⟩
theorem core_CompulsoryPart (p : TProject) (b : TDomain) (a : Int) (hp : bTProject 1048576 p) (hb : bTDomain 1048576 b) : ∃ v, s_CompulsoryPart p b a = some v ∧ i_CompulsoryPart p b a = some v := by
  obtain ⟨v, hv, hf⟩ := s_l14Ok_ok p (names_of hp (by omega)) b
  simp only [i_CompulsoryPart, s_CompulsoryPart, l14Ok_eq p b (modes_of hb), hasActivity_eq, s_l01In_eq, i_Project_compulsory, l14Short_eq p b a (mlen_of hp), hv, Option.bind_some, cond_some]
  cases v with
  | false => exact ⟨_, rfl, rfl⟩
  | true =>
    cases hr : inR a 0 (W ((p.Activities.length : Int) - 1)) with
    | false => exact ⟨_, rfl, rfl⟩
    | true =>
      obtain ⟨x, hx, _⟩ := idx_of_inR hr
      obtain ⟨u, hu⟩ := s_l14Short_ok (hf rfl).dom hx
      obtain ⟨m1, m2, ms, h1, h2, h3, _⟩ := (hf rfl).dom.at_ a x hx
      simp only [hu, h1, h2, Option.bind_some, Bool.not_true, cond_false, cond_some]
      exact ⟨_, rfl, rfl⟩
theorem cond_tf (c : Bool) : (bif c then true else false) = c := by cases c <;> rfl
/-! ### Work -/
theorem s_Overlap_ok (s d x y : Int) : ∃ v, s_Overlap s d x y = some v ∧ i_Overlap s d x y = some v ∧ 0 ≤ v ∧ v ≤ 100000000 := by
  by_cases hs : inR s (-100000) 100000 = true
  · by_cases hd : inR d (-100000) 100000 = true
    · by_cases hx : inR x (-100000) 100000 = true
      · by_cases hy : inR y (-100000) 100000 = true
        · have e1 : s_Overlap_L1 [s, d, x, y] 0 = some (.inl ()) := by simp only [s_Overlap_L1, s_l01In_eq, Option.bind_some, hs, hd, hx, hy, Bool.not_true, cond_false]
          have e2 : i_Overlap_L1 [s, d, x, y] 0 = some (.inl ()) := by simp only [i_Overlap_L1, i_within_eq, Option.bind_some, hs, hd, hx, hy, Bool.not_true, cond_false]
          have hs := inR_iff.1 hs
          have hd := inR_iff.1 hd
          have hx := inR_iff.1 hx
          have hy := inR_iff.1 hy
          simp only [s_Overlap, i_Overlap, e1, e2, sumBind, Option.bind_some, Sum.elim_inl, s_l02Min_eq, s_l02Max_eq]
          by_cases h1 : d < 1
          · exact ⟨0, by simp [h1], by simp [h1], by omega, by omega⟩
          · rw [show decide (d < 1) = false by simpa using h1, cond_false, cond_false, W_of (n := s + d) (by omega), W_of (n := min (s + d) y - max s x) (by omega)]
            exact ⟨_, rfl, by rw [Int.max_comm], by omega, by omega⟩
        · refine ⟨0, ?_, ?_, by omega, by omega⟩
          · simp [s_Overlap, s_Overlap_L1, s_l01In_eq, hs, hd, hx, hy, sumBind]
          · simp [i_Overlap, i_Overlap_L1, i_within_eq, hs, hd, hx, hy, sumBind]
      · refine ⟨0, ?_, ?_, by omega, by omega⟩
        · simp [s_Overlap, s_Overlap_L1, s_l01In_eq, hs, hd, hx, sumBind]
        · simp [i_Overlap, i_Overlap_L1, i_within_eq, hs, hd, hx, sumBind]
    · refine ⟨0, ?_, ?_, by omega, by omega⟩
      · simp [s_Overlap, s_Overlap_L1, s_l01In_eq, hs, hd, sumBind]
      · simp [i_Overlap, i_Overlap_L1, i_within_eq, hs, hd, sumBind]
  · refine ⟨0, ?_, ?_, by omega, by omega⟩
    · simp [s_Overlap, s_Overlap_L1, s_l01In_eq, hs, sumBind]
    · simp [i_Overlap, i_Overlap_L1, i_within_eq, hs, sumBind]
theorem mode_at {p : TProject} {b : TDomain} (h : DomF p b) {a res : Int} {x : TActivity} (hx : idxL p.Activities a = some x) (hr : 0 ≤ res ∧ res < p.Resources.length) {ms : List Int} (hm : idxL b.Modes a = some ms) {n : Int} (hn : n ∈ ms) :
    ∃ m u, idxL x.Modes n = some m ∧ ModeF m p.Resources.length p.Stocks.length ∧ idxL m.Usage res = some u ∧ 0 ≤ u ∧ u ≤ 20 := by
  obtain ⟨m1, m2, ms', h1, h2, h3, _, _, _, h4⟩ := h.at_ a x hx
  rw [hm] at h3; cases h3
  have hk := h4 n hn
  obtain ⟨m, e1, e2⟩ := idxL_some hk.1 hk.2
  have hf := (h.proj.acts x (idxL_lt_len hx).2).2.2 m e2
  obtain ⟨u, e3, e4⟩ := idxL_some (l := m.Usage) hr.1 (by have := hf.2.1.1; omega)
  exact ⟨m, u, e1, hf, e3, hf.2.1.2 u e4⟩
theorem l15Work_L1 {p : TProject} {b : TDomain} (h : DomF p b) {a res : Int} (x y : Int) {ac : TActivity} (hx : idxL p.Activities a = some ac) (hr : 0 ≤ res ∧ res < p.Resources.length) {ms : List Int} (hm : idxL b.Modes a = some ms) :
    ∀ (xs : List Int) (z c : Int) (f : Bool), (∀ n ∈ xs, n ∈ ms) → (f = true → 0 ≤ c) → ∃ v, i_Project_minWork_L1 p b a res x y xs z c f = some v ∧ s_l15Work_L1 p b a res x y xs z (bif f then c else -1) = some (if f = false ∧ xs = [] then -1 else v) ∧ (f = true ∨ xs ≠ [] → 0 ≤ v) ∧ (f = false → xs = [] → v = c)
  | [], z, c, f, _, hc => ⟨c, rfl, by cases f <;> simp [s_l15Work_L1], fun h => by simp at h; exact hc h, fun _ _ => rfl⟩
  | n :: xs, z, c, f, hn, hc => by
    obtain ⟨m, u, e1, hf, e2, hu⟩ := mode_at h hx hr hm (hn n (List.mem_cons_self ..))
    obtain ⟨m1, m2, ms', h1, h2, h3, _⟩ := h.at_ a ac hx
    obtain ⟨o1, s1, i1, b1⟩ := s_Overlap_ok m1 m.Duration x y
    obtain ⟨o2, s2, i2, b2⟩ := s_Overlap_ok m2 m.Duration x y
    have hw : W (u * min o1 o2) = min o1 o2 * u ∧ W (min o1 o2 * u) = min o1 o2 * u ∧ 0 ≤ min o1 o2 * u := by
      have k1 : 0 ≤ min o1 o2 := by omega
      have k2 : min o1 o2 ≤ 100000000 := by omega
      have k3 : min o1 o2 * u ≤ 100000000 * 20 := Int.mul_le_mul k2 hu.2 hu.1 (by omega)
      have k4 : 0 ≤ min o1 o2 * u := Int.mul_nonneg k1 hu.1
      rw [Int.mul_comm u, W_of (by omega)]; exact ⟨rfl, rfl, k4⟩
    simp only [i_Project_minWork_L1, s_l15Work_L1, hx, e1, h1, h2, e2, s1, s2, i1, i2, Option.bind_some, s_l02Min_eq, hw.1, hw.2.1, cond_some]
    cases f with
    | false =>
      obtain ⟨v, v1, v2, v3, _⟩ := l15Work_L1 h x y hx hr hm xs (z + 1) (min o1 o2 * u) true (fun k hk => hn k (List.mem_cons_of_mem _ hk)) (fun _ => hw.2.2)
      refine ⟨v, v1, ?_, fun _ => v3 (.inl rfl), fun _ h => by cases h⟩
      simpa using v2
    | true =>
      have hc0 := hc rfl
      have e0 : decide (c < 0) = false := decide_eq_false (by omega)
      simp only [cond_true, e0, cond_false, Bool.not_true]
      by_cases hlt : min o1 o2 * u < c
      · rw [show decide (min o1 o2 * u < c) = true by simpa using hlt, cond_true, cond_true]
        obtain ⟨v, v1, v2, v3, _⟩ := l15Work_L1 h x y hx hr hm xs (z + 1) (min o1 o2 * u) true (fun k hk => hn k (List.mem_cons_of_mem _ hk)) (fun _ => hw.2.2)
        exact ⟨v, v1, by simpa using v2, fun _ => v3 (.inl rfl), fun h => by cases h⟩
      · rw [show decide (min o1 o2 * u < c) = false by simpa using hlt, cond_false, cond_false]
        obtain ⟨v, v1, v2, v3, _⟩ := l15Work_L1 h x y hx hr hm xs (z + 1) c true (fun k hk => hn k (List.mem_cons_of_mem _ hk)) (fun _ => hc0)
        exact ⟨v, v1, by simpa using v2, fun _ => v3 (.inl rfl), fun h => by cases h⟩
theorem l15Work_ok {p : TProject} {b : TDomain} (h : DomF p b) {a res : Int} (x y : Int) {ac : TActivity} (hx : idxL p.Activities a = some ac) (hr : 0 ≤ res ∧ res < p.Resources.length) : ∃ v, s_l15Work p b a res x y = some v ∧ i_Project_minWork p b a res x y = some v ∧ 0 ≤ v := by
  obtain ⟨m1, m2, ms, h1, h2, h3, _⟩ := h.at_ a ac hx
  obtain ⟨v, v1, v2, v3, v4⟩ := l15Work_L1 h x y hx hr h3 ms 0 0 false (fun _ h => h) (fun h => by cases h)
  simp only [cond_false] at v2
  simp only [s_l15Work, i_Project_minWork, h3, Option.bind_some, v1, v2, s_l02Max_eq]
  by_cases hm : ms = []
  · have := v4 rfl hm
    subst this
    exact ⟨0, by simp [hm]; decide, rfl, Int.le_refl _⟩
  · have h0 := v3 (.inr hm)
    exact ⟨v, by simp [hm]; omega, rfl, h0⟩
theorem core_MinWorkIn (p : TProject) (b : TDomain) (a res x y : Int) (hp : bTProject 1048576 p) (hb : bTDomain 1048576 b) : ∃ v, s_MinWorkIn p b a res x y = some v ∧ i_MinWorkIn p b a res x y = some v := by
  obtain ⟨v, hv, hf⟩ := s_l14Ok_ok p (names_of hp (by omega)) b
  simp only [i_MinWorkIn, s_MinWorkIn, l14Ok_eq p b (modes_of hb), hasActivity_eq, hasResource_eq, s_l01In_eq, hv, Option.bind_some, cond_some]
  cases v with
  | false => exact ⟨0, rfl, rfl⟩
  | true =>
    cases hr : inR a 0 (W ((p.Activities.length : Int) - 1)) with
    | false => exact ⟨0, rfl, rfl⟩
    | true =>
      cases hq : inR res 0 (W ((p.Resources.length : Int) - 1)) with
      | false => exact ⟨0, rfl, rfl⟩
      | true =>
        obtain ⟨ac, hx, _⟩ := idx_of_inR hr
        obtain ⟨r, hr1, _⟩ := idx_of_inR hq
        obtain ⟨u, u1, u2, _⟩ := l15Work_ok (hf rfl).dom x y hx ⟨(idxL_spec hr1).1, (idxL_lt_len hr1).1⟩
        simp only [u1, u2, Option.bind_some]
        exact ⟨u, rfl, rfl⟩
theorem totalWork_L1 {p : TProject} {b : TDomain} (h : DomF p b) {res : Int} (x y : Int) (hr : 0 ≤ res ∧ res < p.Resources.length) : ∀ (xs : List TActivity) (z c : Int), 0 ≤ z → p.Activities.drop z.toNat = xs → ∃ v, s_TotalWorkIn_L1 p b res x y xs z c = some v ∧ i_Project_totalWork_L1 p b res x y xs z c = some v
  | [], z, c, hz, hd => ⟨c, rfl, rfl⟩
  | ac :: xs, z, c, hz, hd => by
    obtain ⟨h1, h2⟩ := idxL_drop hz hd
    obtain ⟨u, u1, u2, _⟩ := l15Work_ok h x y h1 hr
    simp only [s_TotalWorkIn_L1, i_Project_totalWork_L1, u1, u2, Option.bind_some]
    exact totalWork_L1 h x y hr xs (z + 1) _ (by omega) h2
theorem core_TotalWorkIn (p : TProject) (b : TDomain) (res x y : Int) (hp : bTProject 1048576 p) (hb : bTDomain 1048576 b) : ∃ v, s_TotalWorkIn p b res x y = some v ∧ i_TotalWorkIn p b res x y = some v := by
  obtain ⟨v, hv, hf⟩ := s_l14Ok_ok p (names_of hp (by omega)) b
  simp only [i_TotalWorkIn, s_TotalWorkIn, l14Ok_eq p b (modes_of hb), hasResource_eq, s_l01In_eq, hv, Option.bind_some, cond_some]
  cases v with
  | false => exact ⟨0, rfl, rfl⟩
  | true =>
    cases hq : inR res 0 (W ((p.Resources.length : Int) - 1)) with
    | false => exact ⟨0, rfl, rfl⟩
    | true =>
      obtain ⟨r, hr1, _⟩ := idx_of_inR hq
      obtain ⟨u, u1, u2⟩ := totalWork_L1 (hf rfl).dom x y ⟨(idxL_spec hr1).1, (idxL_lt_len hr1).1⟩ p.Activities 0 0 (Int.le_refl _) rfl
      simp only [i_Project_totalWork, u1, u2, Option.bind_some]
      exact ⟨u, rfl, rfl⟩

/-! ### The choice of a mode -/
theorem ClampedSum_L1 : ∀ (xs : List Int) (z a : Int), i_ClampedSum_L1 xs z a = s_ClampedSum_L1 xs z a
  | [], z, a => rfl
  | x :: xs, z, a => by
    simp only [i_ClampedSum_L1, s_ClampedSum_L1, s_l02Min_eq, s_l02Max_eq, Option.bind_some, ClampedSum_L1 xs]
    rw [show min (max x (-100000)) 100000 = max (-100000) (min 100000 x) by omega]
theorem ClampedSum_eq (l : List Int) : i_ClampedSum l = s_ClampedSum l := by simp only [i_ClampedSum, s_ClampedSum, ClampedSum_L1]
theorem s_ClampedSum_ok (l : List Int) : ∃ v, s_ClampedSum l = some v := by
  have : ∀ (xs : List Int) (z a : Int), ∃ v, s_ClampedSum_L1 xs z a = some v := by
    intro xs
    induction xs with
    | nil => exact fun z a => ⟨_, rfl⟩
    | cons x xs ih =>
      intro z a
      simp only [s_ClampedSum_L1, s_l02Min_eq, s_l02Max_eq, Option.bind_some]
      exact ih _ _
  obtain ⟨v, hv⟩ := this l 0 0
  exact ⟨v, by simp only [s_ClampedSum, hv, Option.bind_some]⟩
/-- What a mode costs. -/
noncomputable def modeCost (lean : Bool) (m : TMode) : Int := bif lean then W ((s_ClampedSum m.Usage).getD 0 + (s_ClampedSum m.Consumption).getD 0) else m.Duration
theorem sum_getD {l : List Int} : s_ClampedSum l = some ((s_ClampedSum l).getD 0) := by
  obtain ⟨v, hv⟩ := s_ClampedSum_ok l
  rw [hv]; rfl
theorem ChooseMode_L1 (lean : Bool) (ac : TActivity) : ∀ (xs : List TMode) (z k : Int) (m : TMode), 0 < z → ac.Modes.drop z.toNat = xs → idxL ac.Modes k = some m → ∃ v, s_ChooseMode_L1 lean ac xs z k = some v ∧ i_ChooseMode_L1 lean xs z k (modeCost lean m) = some v
  | [], z, k, m, hz, hd, hk => ⟨k, rfl, rfl⟩
  | x :: xs, z, k, m, hz, hd, hk => by
    obtain ⟨h1, h2⟩ := idxL_drop (by omega) hd
    have e0 : (z == 0) = false := by rw [int_beq]; exact decide_eq_false (by omega)
    have es : s_ChooseMode_L1 lean ac (x :: xs) z k = bif decide (modeCost lean x < modeCost lean m) then s_ChooseMode_L1 lean ac xs (z + 1) z else s_ChooseMode_L1 lean ac xs (z + 1) k := by
      rw [s_ChooseMode_L1, hk, Option.bind_some]
      cases lean with
      | false => rfl
      | true =>
        rw [sum_getD (l := x.Usage), sum_getD (l := x.Consumption), sum_getD (l := m.Usage), sum_getD (l := m.Consumption)]
        simp only [cond_true, Option.bind_some, cond_some, modeCost, Option.getD_some, cond_tf]
        rfl
    have ei : i_ChooseMode_L1 lean (x :: xs) z k (modeCost lean m) = bif decide (modeCost lean x < modeCost lean m) then i_ChooseMode_L1 lean xs (z + 1) z (modeCost lean x) else i_ChooseMode_L1 lean xs (z + 1) k (modeCost lean m) := by
      rw [i_ChooseMode_L1, e0]
      have e : (bif lean then (i_ClampedSum x.Usage).bind fun v25 => (i_ClampedSum x.Consumption).bind fun v26 => some (W (v25 + v26)) else some x.Duration) = some (modeCost lean x) := by
        cases lean with
        | false => rfl
        | true =>
          rw [ClampedSum_eq, ClampedSum_eq, sum_getD (l := x.Usage), sum_getD (l := x.Consumption)]
          simp only [cond_true, Option.bind_some, modeCost, Option.getD_some]
      rw [e]; rfl
    rw [es, ei]
    by_cases hlt : modeCost lean x < modeCost lean m
    · rw [show decide (modeCost lean x < modeCost lean m) = true by simpa using hlt, cond_true, cond_true]
      exact ChooseMode_L1 lean ac xs (z + 1) z x (by omega) h2 h1
    · rw [show decide (modeCost lean x < modeCost lean m) = false by simpa using hlt, cond_false, cond_false]
      exact ChooseMode_L1 lean ac xs (z + 1) k m (by omega) h2 hk
theorem ChooseMode_mid (lean : Bool) (ac : TActivity) : ∃ v, s_ChooseMode_L1 lean ac ac.Modes 0 0 = some v ∧ i_ChooseMode_L1 lean ac.Modes 0 0 0 = some v := by
  match hm : ac.Modes with
  | [] => exact ⟨0, rfl, rfl⟩
  | x :: xs =>
    have hx : idxL ac.Modes 0 = some x := by rw [hm]; rfl
    obtain ⟨v, v1, v2⟩ := ChooseMode_L1 lean ac xs 1 0 x (by omega) (by rw [hm]; rfl) hx
    refine ⟨v, ?_, ?_⟩
    · rw [s_ChooseMode_L1, hx, Option.bind_some]
      cases lean with
      | false => simpa using v1
      | true =>
        rw [sum_getD (l := x.Usage), sum_getD (l := x.Consumption)]
        simp only [cond_true, Option.bind_some, Int.lt_irrefl, decide_false, cond_false]
        exact v1
    · rw [i_ChooseMode_L1]
      have e : (bif lean then (i_ClampedSum x.Usage).bind fun v25 => (i_ClampedSum x.Consumption).bind fun v26 => some (W (v25 + v26)) else some x.Duration) = some (modeCost lean x) := by
        cases lean with
        | false => rfl
        | true =>
          rw [ClampedSum_eq, ClampedSum_eq, sum_getD (l := x.Usage), sum_getD (l := x.Consumption)]
          simp only [cond_true, Option.bind_some, modeCost, Option.getD_some]
      rw [e]
      exact v2
theorem core_ChooseMode (p : TProject) (a : Int) (lean : Bool) (hp : bTProject 1048576 p) : ∃ v, s_ChooseMode p a lean = some v ∧ i_ChooseMode p a lean = some v := by
  obtain ⟨v, hv, hf⟩ := s_ProjectOk_ok p (names_of hp (by omega))
  simp only [s_ChooseMode, i_ChooseMode, ProjectOk_eq, hv, hasActivity_eq, s_l01In_eq, Option.bind_some]
  cases v with
  | false => exact ⟨0, rfl, rfl⟩
  | true =>
    cases hr : inR a 0 (W ((p.Activities.length : Int) - 1)) with
    | false => exact ⟨0, rfl, rfl⟩
    | true =>
      obtain ⟨ac, hx, _⟩ := idx_of_inR hr
      obtain ⟨u, u1, u2⟩ := ChooseMode_mid lean ac
      simp only [hx, Option.bind_some, u1, u2, cond_true, cond_false, Bool.not_true]
      exact ⟨u, rfl, rfl⟩
/-! ### Equality -/
theorem eqLoop0 {α : Type} [DecidableEq α] {F : List α → Int → Option (Unit ⊕ Bool)} {a b : List α} (h0 : ∀ z, F [] z = some (.inl ()))
    (h1 : ∀ x xs z y, idxL b z = some y → F (x :: xs) z = if x = y then F xs (z + 1) else some (.inr false)) (hl : a.length = b.length) : F a 0 = some (if a = b then .inl () else .inr false) := by
  have := eqLoop h0 h1 a 0 (Int.le_refl _) (by simpa using hl)
  simpa using this
theorem if_dec {p : Prop} [Decidable p] {α : Type} (a b : α) : (bif (!decide p) then a else b) = if p then b else a := by by_cases h : p <;> simp [h]
theorem s_SetEqual_eq (a b : List Int) : s_SetEqual a b = some (decide (a = b)) := eqList (F := s_SetEqual_L1 b) (fun _ => rfl) (fun x xs z y h => by simp only [s_SetEqual_L1, h, Option.bind_some, int_bne, if_dec]) rfl
theorem slices_Equal_int_eq (a b : List Int) : slices_Equal_int a b = some (decide (a = b)) := eqList (F := slices_Equal_int_L1 b) (fun _ => rfl) (fun x xs z y h => by simp only [slices_Equal_int_L1, h, Option.bind_some, int_bne, if_dec]) rfl
theorem s_StepsEqual_eq (a b : List TStep) : s_StepsEqual a b = some (decide (a = b)) := eqList (F := s_StepsEqual_L1 b) (fun _ => rfl) (fun x xs z y h => by simp only [s_StepsEqual_L1, h, Option.bind_some, TStep_beq, if_dec]) rfl
theorem slices_Equal_Step_eq (a b : List TStep) : slices_Equal_Step a b = some (decide (a = b)) := eqList (F := slices_Equal_Step_L1 b) (fun _ => rfl) (fun x xs z y h => by simp only [slices_Equal_Step_L1, h, Option.bind_some, TStep_beq, if_dec]) rfl
theorem slices_Equal_Link_eq (a b : List TLink) : slices_Equal_Link a b = some (decide (a = b)) := eqList (F := slices_Equal_Link_L1 b) (fun _ => rfl) (fun x xs z y h => by simp only [slices_Equal_Link_L1, h, Option.bind_some, TLink_beq, if_dec]) rfl
theorem slices_Equal_Literal_eq (a b : List TLiteral) : slices_Equal_Literal a b = some (decide (a = b)) := eqList (F := slices_Equal_Literal_L1 b) (fun _ => rfl) (fun x xs z y h => by simp only [slices_Equal_Literal_L1, h, Option.bind_some, TLiteral_beq, if_dec]) rfl
theorem s_ClauseEqual_eq (a b : List TLiteral) : s_ClauseEqual a b = some (decide (a = b)) := eqList (F := s_ClauseEqual_L1 b) (fun _ => rfl) (fun x xs z y h => by simp only [s_ClauseEqual_L1, h, Option.bind_some, TLiteral_beq, if_dec]) rfl
theorem slices_EqualFunc__int_eq (a b : List (List Int)) (g : List Int → List Int → Option Bool) (hg : ∀ x y, g x y = some (decide (x = y))) : slices_EqualFunc__int a b g = some (decide (a = b)) :=
  eqList (F := slices_EqualFunc__int_L1 b g) (fun _ => rfl) (fun x xs z y h => by simp only [slices_EqualFunc__int_L1, h, Option.bind_some, hg, if_dec]) rfl
theorem slices_EqualFunc_Mode_eq (a b : List TMode) (g : TMode → TMode → Option Bool) (hg : ∀ x y, g x y = some (decide (x = y))) : slices_EqualFunc_Mode a b g = some (decide (a = b)) :=
  eqList (F := slices_EqualFunc_Mode_L1 b g) (fun _ => rfl) (fun x xs z y h => by simp only [slices_EqualFunc_Mode_L1, h, Option.bind_some, hg, if_dec]) rfl
theorem slices_EqualFunc_Activity_eq (a b : List TActivity) (g : TActivity → TActivity → Option Bool) (hg : ∀ x y, g x y = some (decide (x = y))) : slices_EqualFunc_Activity a b g = some (decide (a = b)) :=
  eqList (F := slices_EqualFunc_Activity_L1 b g) (fun _ => rfl) (fun x xs z y h => by simp only [slices_EqualFunc_Activity_L1, h, Option.bind_some, hg, if_dec]) rfl
theorem slices_EqualFunc_Resource_eq (a b : List TResource) (g : TResource → TResource → Option Bool) (hg : ∀ x y, g x y = some (decide (x = y))) : slices_EqualFunc_Resource a b g = some (decide (a = b)) :=
  eqList (F := slices_EqualFunc_Resource_L1 b g) (fun _ => rfl) (fun x xs z y h => by simp only [slices_EqualFunc_Resource_L1, h, Option.bind_some, hg, if_dec]) rfl
theorem slices_EqualFunc_Line_eq (a b : List TLine) (g : TLine → TLine → Option Bool) (hg : ∀ x y, g x y = some (decide (x = y))) : slices_EqualFunc_Line a b g = some (decide (a = b)) :=
  eqList (F := slices_EqualFunc_Line_L1 b g) (fun _ => rfl) (fun x xs z y h => by simp only [slices_EqualFunc_Line_L1, h, Option.bind_some, hg, if_dec]) rfl
theorem i_sameMode_eq (a b : TMode) : i_sameMode a b = some (decide (a = b)) := by
  obtain ⟨a0, a1, a2⟩ := a
  obtain ⟨b0, b1, b2⟩ := b
  simp only [i_sameMode, slices_Equal_int_eq, Option.bind_some, cond_some, cond_and, int_beq, TMode.mk.injEq, Bool.decide_and]
theorem i_ActivityEqual_eq (a b : TActivity) : i_ActivityEqual a b = some (decide (a = b)) := by
  obtain ⟨a0, a1, a2⟩ := a
  obtain ⟨b0, b1, b2⟩ := b
  simp only [i_ActivityEqual, slices_EqualFunc_Mode_eq _ _ _ i_sameMode_eq, Option.bind_some, cond_some, cond_and, int_beq, ba_beq, TActivity.mk.injEq, Bool.decide_and]
theorem i_sameResource_eq (a b : TResource) : i_sameResource a b = some (decide (a = b)) := by
  obtain ⟨a0, a1⟩ := a
  obtain ⟨b0, b1⟩ := b
  simp only [i_sameResource, slices_Equal_Step_eq, slices_EqualFunc__int_eq _ _ _ slices_Equal_int_eq, Option.bind_some, cond_some, cond_and, TResource.mk.injEq, Bool.decide_and]
theorem i_ProjectEqual_eq (a b : TProject) : i_ProjectEqual a b = some (decide (a = b)) := by
  obtain ⟨a0, a1, a2, a3, a4⟩ := a
  obtain ⟨b0, b1, b2, b3, b4⟩ := b
  simp only [i_ProjectEqual, slices_EqualFunc_Activity_eq _ _ _ i_ActivityEqual_eq, slices_EqualFunc_Resource_eq _ _ _ i_sameResource_eq, slices_Equal_Link_eq, slices_Equal_int_eq, Option.bind_some, cond_some, cond_and, int_beq, TProject.mk.injEq, Bool.decide_and]
theorem i_DomainEqual_eq (a b : TDomain) : i_DomainEqual a b = some (decide (a = b)) := by
  obtain ⟨a0, a1, a2⟩ := a
  obtain ⟨b0, b1, b2⟩ := b
  rw [i_DomainEqual, slices_EqualFunc__int_eq _ _ _ slices_Equal_int_eq]
  simp only [slices_Equal_int_eq, Option.bind_some, cond_some, cond_and, TDomain.mk.injEq, Bool.decide_and]
theorem i_LineEqual_eq (a b : TLine) : i_LineEqual a b = some (decide (a = b)) := by
  obtain ⟨a0, a1, a2⟩ := a
  obtain ⟨b0, b1, b2⟩ := b
  have e := TRule_beq a1 b1
  simp only [i_LineEqual, slices_Equal_Literal_eq, Option.bind_some, cond_some, cond_and, int_beq, TLine.mk.injEq, Bool.decide_and] at e ⊢
  rw [e]
theorem s_LineEqual_eq (a b : TLine) : s_LineEqual a b = some (decide (a = b)) := by
  rw [← i_LineEqual_eq]
  simp only [i_LineEqual, s_LineEqual, slices_Equal_Literal_eq, s_ClauseEqual_eq]
theorem len_ne {α : Type} {a b : List α} (h : a.length ≠ b.length) : a ≠ b := fun e => h (by rw [e])
theorem len_bne {α : Type} (a b : List α) : ((a.length : Int) != (b.length : Int)) = !decide (a.length = b.length) := by
  rw [int_bne]; congr 1
  by_cases h : a.length = b.length
  · simp [h]
  · simp only [h, decide_false]; exact decide_eq_false (by omega)
theorem s_ActivityEqual_eq (a b : TActivity) : s_ActivityEqual a b = some (decide (a = b)) := by
  obtain ⟨a0, a1, a2⟩ := a
  obtain ⟨b0, b1, b2⟩ := b
  simp only [s_ActivityEqual, len_bne]
  simp only [ba_bne, int_bne, TActivity.mk.injEq, Option.bind_some, cond_some]
  by_cases h0 : a0 = b0
  · by_cases h1 : a1 = b1
    · by_cases h2 : a2.length = b2.length
      · rw [eqLoop0 (F := s_ActivityEqual_L1 ⟨b0, b1, b2⟩) (a := a2) (b := b2) (fun _ => rfl) (fun x xs z y h => by
          obtain ⟨x0, x1, x2⟩ := x
          obtain ⟨y0, y1, y2⟩ := y
          simp only [s_ActivityEqual_L1, h, Option.bind_some, int_bne, s_SetEqual_eq, cond_some, TMode.mk.injEq]
          by_cases e0 : x0 = y0 <;> by_cases e1 : x1 = y1 <;> by_cases e2 : x2 = y2 <;> simp [e0, e1, e2]) h2]
        by_cases h3 : a2 = b2 <;> simp [h0, h1, h2, h3, sumBind]
      · have := len_ne h2
        simp [h0, h1, h2, this]
    · simp [h0, h1]
  · simp [h0]
theorem s_ProjectEqual_eq (a b : TProject) : s_ProjectEqual a b = some (decide (a = b)) := by
  obtain ⟨a0, a1, a2, a3, a4⟩ := a
  obtain ⟨b0, b1, b2, b3, b4⟩ := b
  simp only [s_ProjectEqual, len_bne]
  simp only [int_bne, s_SetEqual_eq, TProject.mk.injEq, Option.bind_some, cond_some]
  by_cases h0 : a0 = b0
  · by_cases h1 : a1.length = b1.length
    · by_cases h2 : a2.length = b2.length
      · by_cases h3 : a3.length = b3.length
        · by_cases h4 : a4 = b4
          · rw [eqLoop0 (F := s_ProjectEqual_L1 ⟨b0, b1, b2, b3, b4⟩) (a := a1) (b := b1) (fun _ => rfl) (fun x xs z y h => by simp only [s_ProjectEqual_L1, h, Option.bind_some, s_ActivityEqual_eq, if_dec]) h1,
              eqLoop0 (F := s_ProjectEqual_L2 ⟨b0, b1, b2, b3, b4⟩) (a := a2) (b := b2) (fun _ => rfl) (fun x xs z y h => by simp only [s_ProjectEqual_L2, h, Option.bind_some, TLink_beq, if_dec]) h2,
              eqLoop0 (F := s_ProjectEqual_L3 ⟨b0, b1, b2, b3, b4⟩) (a := a3) (b := b3) (fun _ => rfl) (fun x xs z y h => by
                obtain ⟨x0, x1⟩ := x
                obtain ⟨y0, y1⟩ := y
                simp only [s_ProjectEqual_L3, h, Option.bind_some, s_StepsEqual_eq, len_bne, cond_some, TResource.mk.injEq]
                by_cases e0 : x0 = y0
                · by_cases e1 : x1.length = y1.length
                  · rw [eqLoop0 (F := s_ProjectEqual_L4 ⟨y0, y1⟩) (a := x1) (b := y1) (fun _ => rfl) (fun u us z v h => by simp only [s_ProjectEqual_L4, h, Option.bind_some, s_SetEqual_eq, if_dec]) e1]
                    by_cases e2 : x1 = y1 <;> simp [e0, e1, e2, sumBind]
                  · have := len_ne e1
                    simp [e0, e1, this]
                · simp [e0]) h3]
            by_cases g1 : a1 = b1 <;> by_cases g2 : a2 = b2 <;> by_cases g3 : a3 = b3 <;> simp [h0, h1, h2, h3, h4, g1, g2, g3, sumBind]
          · simp [h0, h1, h2, h3, h4]
        · have := len_ne h3
          simp [h0, h1, h2, h3, this]
      · have := len_ne h2
        simp [h0, h1, h2, this]
    · have := len_ne h1
      simp [h0, h1, this]
  · simp [h0]
theorem s_DomainEqual_eq (a b : TDomain) : s_DomainEqual a b = some (decide (a = b)) := by
  obtain ⟨a0, a1, a2⟩ := a
  obtain ⟨b0, b1, b2⟩ := b
  simp only [s_DomainEqual, s_SetEqual_eq, len_bne, TDomain.mk.injEq, Option.bind_some, cond_some]
  by_cases h0 : a0 = b0
  · by_cases h1 : a1 = b1
    · by_cases h2 : a2.length = b2.length
      · rw [eqLoop0 (F := s_DomainEqual_L1 ⟨b0, b1, b2⟩) (a := a2) (b := b2) (fun _ => rfl) (fun x xs z y h => by simp only [s_DomainEqual_L1, h, Option.bind_some, s_SetEqual_eq, if_dec]) h2]
        by_cases h3 : a2 = b2 <;> simp [h0, h1, h2, h3, sumBind]
      · have := len_ne h2
        simp [h0, h1, h2, this]
    · simp [h0, h1]
  · simp [h0]
theorem s_LogEqual_eq (a b : TLog) : s_LogEqual a b = some (decide (a = b)) := by
  obtain ⟨a0, a1, a2, a3⟩ := a
  obtain ⟨b0, b1, b2, b3⟩ := b
  simp only [s_LogEqual, s_ProjectEqual_eq, s_DomainEqual_eq, s_ClauseEqual_eq, len_bne, TLog.mk.injEq, Option.bind_some, cond_some]
  by_cases h0 : a0 = b0
  · by_cases h1 : a1 = b1
    · by_cases h2 : a2 = b2
      · by_cases h3 : a3.length = b3.length
        · rw [eqLoop0 (F := s_LogEqual_L1 ⟨b0, b1, b2, b3⟩) (a := a3) (b := b3) (fun _ => rfl) (fun x xs z y h => by simp only [s_LogEqual_L1, h, Option.bind_some, s_LineEqual_eq, if_dec]) h3]
          by_cases h4 : a3 = b3 <;> simp [h0, h1, h2, h3, h4, sumBind]
        · have := len_ne h3
          simp [h0, h1, h2, h3, this]
      · simp [h0, h1, h2]
    · simp [h0, h1]
  · simp [h0]
theorem i_LogEqual_eq (a b : TLog) : i_LogEqual a b = some (decide (a = b)) := by
  obtain ⟨a0, a1, a2, a3⟩ := a
  obtain ⟨b0, b1, b2, b3⟩ := b
  simp only [i_LogEqual, i_ProjectEqual_eq, i_DomainEqual_eq, slices_Equal_Literal_eq, slices_EqualFunc_Line_eq _ _ _ i_LineEqual_eq, Option.bind_some, cond_some, cond_and, TLog.mk.injEq, Bool.decide_and]
theorem core_LogEqual (a b : TLog) (_ : bTLog 1048576 a) (_ : bTLog 1048576 b) : ∃ v, s_LogEqual a b = some v ∧ i_LogEqual a b = some v := ⟨_, s_LogEqual_eq a b, i_LogEqual_eq a b⟩
/-! ### The least amount over a number of modes -/
/-- The amount at a place of a list, where there is one. -/
def eltO (l : List Int) (k : Int) : Option Int := bif inR k 0 (W ((l.length : Int) - 1)) then idxL l k else none
theorem i_element_eq (l : List Int) (k : Int) : i_element l k = some (match eltO l k with | some v => (v, true) | none => (0, false)) := by
  simp only [i_element, i_within_eq, Option.bind_some, eltO]
  cases h : inR k 0 (W ((l.length : Int) - 1)) with
  | false => rfl
  | true =>
    obtain ⟨x, hx, _⟩ := idx_of_inR h
    simp [hx]
/-- The least of what some modes give; 0 at once where one of them gives nothing. -/
def leastO (f : TMode → Option Int) : List TMode → Int → Bool → Int ⊕ Int
  | [], a, _ => .inl a
  | x :: xs, a, has => match f x with
    | none => .inr 0
    | some v => bif (!has || decide (v < a)) then leastO f xs v true else leastO f xs a true
/-- What a mode gives: an amount of a list, by itself or times the duration. -/
def amtO (k : Int) (cons work : Bool) (x : TMode) : Option Int := (eltO (bif cons then x.Consumption else x.Usage) k).map fun v => bif work then W (v * x.Duration) else v
theorem s_l04Least_L1_eq (ms : List Int) (k : Int) (b3 b4 : Bool) : ∀ (xs : List TMode) (z a : Int) (has : Bool), s_l04Least_L1 ms k b3 b4 xs z a has = some (leastO (amtO k b3 b4) (chosenF ms xs z) a has)
  | [], z, a, has => rfl
  | x :: xs, z, a, has => by
    rw [s_l04Least_L1, s_SetHas_eq, Option.bind_some]
    by_cases hz : z ∈ ms
    · simp only [hz, decide_true, Bool.not_true, cond_false, cond_some, Option.bind_some, s_l01In_eq, chosenF, if_true, leastO, amtO, eltO, s_l04Least_L1_eq ms k b3 b4 xs]
      cases h : inR k 0 (W (((bif b3 then x.Consumption else x.Usage).length : Int) - 1)) with
      | false => rfl
      | true =>
        obtain ⟨v, hv, _⟩ := idx_of_inR h
        simp only [hv, Bool.not_true, cond_false, cond_true, Option.bind_some, Option.map_some]
        cases has <;> simp only [Bool.not_false, Bool.not_true, cond_true, cond_false, Bool.true_or, Bool.false_or, Option.bind_some] <;> first | rfl | exact cond_some _ _ _
    · simp only [hz, decide_false, Bool.not_false, cond_true, chosenF, if_false, s_l04Least_L1_eq ms k b3 b4 xs]
theorem s_l04Least_eq (x : TActivity) (ms : List Int) (k : Int) (b3 b4 : Bool) : s_l04Least x ms k b3 b4 = some (Sum.elim id id (leastO (amtO k b3 b4) (chosenF ms x.Modes 0) 0 false)) := by
  simp only [s_l04Least, s_l04Least_L1_eq, sumBind, Option.bind_some]
  cases leastO (amtO k b3 b4) (chosenF ms x.Modes 0) 0 false <;> rfl
theorem i_leastOf_L1_eq {g : TMode → Option (Int × Bool)} {f : TMode → Option Int} (hg : ∀ x, ∃ w, g x = some (match f x with | some v => (v, true) | none => (w, false))) : ∀ (xs : List TMode) (z a : Int), 0 ≤ z → i_leastOf_L1 g xs z a = some (leastO f xs a (decide (0 < z)))
  | [], z, a, _ => rfl
  | x :: xs, z, a, hz => by
    obtain ⟨w, hw⟩ := hg x
    rw [i_leastOf_L1, hw, Option.bind_some, i_leastOf_L1_eq hg xs (z + 1) _ (by omega), i_leastOf_L1_eq hg xs (z + 1) _ (by omega), leastO]
    cases hf : f x with
    | none => rfl
    | some v =>
      simp only [Bool.not_true, cond_false, cond_some, Option.bind_some, int_beq, show decide (0 < z + 1) = true from decide_eq_true (by omega)]
      by_cases h0 : z = 0
      · subst h0; rfl
      · rw [show decide (z = 0) = false by simpa using h0, show decide (0 < z) = true from decide_eq_true (by omega)]
        simp only [cond_false, Bool.not_true, Bool.false_or, Option.bind_some]
theorem i_leastOf_eq {g : TMode → Option (Int × Bool)} {f : TMode → Option Int} (hg : ∀ x, ∃ w, g x = some (match f x with | some v => (v, true) | none => (w, false))) (xs : List TMode) : i_leastOf xs g = some (Sum.elim id id (leastO f xs 0 false)) := by
  simp only [i_leastOf, i_leastOf_L1_eq hg xs 0 0 (Int.le_refl _), sumBind, Option.bind_some]
  rw [show decide ((0 : Int) < 0) = false from rfl]
  cases leastO f xs 0 false <;> rfl
theorem MinUsage_eq (x : TActivity) (ms : List Int) (k : Int) (h : x.Modes.length ≤ 1048576) : i_MinUsage x ms k = s_MinUsage x ms k := by
  simp only [i_MinUsage, s_MinUsage, s_l04Least_eq, i_chosen_eq x ms h, Option.bind_some]
  rw [i_leastOf_eq (f := amtO k false false)]
  · rfl
  · intro m
    refine ⟨0, ?_⟩
    simp only [i_MinUsage_c1, i_element_eq, amtO, Option.bind_some, cond_false]
    cases eltO m.Usage k <;> rfl
theorem MinWork_eq (x : TActivity) (ms : List Int) (k : Int) (h : x.Modes.length ≤ 1048576) : i_MinWork x ms k = s_MinWork x ms k := by
  simp only [i_MinWork, s_MinWork, s_l04Least_eq, i_chosen_eq x ms h, Option.bind_some]
  rw [i_leastOf_eq (f := amtO k false true)]
  · rfl
  · intro m
    refine ⟨W (m.Duration * 0), ?_⟩
    simp only [i_MinWork_c1, i_element_eq, amtO, Option.bind_some, cond_false, cond_true]
    cases eltO m.Usage k with
    | none => rfl
    | some v => simp only [Option.map_some, Int.mul_comm]
theorem s_MinUsage_ok (x : TActivity) (ms : List Int) (k : Int) : ∃ v, s_MinUsage x ms k = some v := ⟨_, by simp only [s_MinUsage, s_l04Least_eq, Option.bind_some]; rfl⟩
/-! ### What an activity needs of a resource -/
theorem need_eq (p : TProject) (b : TDomain) (res a : Int) (hm : ∀ x ∈ p.Activities, x.Modes.length ≤ 1048576) :
    ((idxL p.Activities a).bind fun v8 => (idxL b.Modes a).bind fun v9 => (i_MinUsage v8 v9 res).bind fun v10 => some v10) = s_l14Need p b res a := by
  unfold s_l14Need
  cases h : idxL p.Activities a with
  | none => rfl
  | some x => simp only [Option.bind_some, MinUsage_eq x _ res (hm x (idxL_lt_len h).2)]
theorem RequiredUsage_eq (p : TProject) (b : TDomain) (res a : Int) (hp : bTProject 1048576 p) (hb : bTDomain 1048576 b) : i_RequiredUsage p b res a = s_RequiredUsage p b res a := by
  have e := need_eq p b res a (mlen_of hp)
  simp only [i_RequiredUsage, s_RequiredUsage, e, l14Ok_eq p b (modes_of hb), hasActivity_eq, hasResource_eq, s_l01In_eq]
  cases s_l14Need p b res a <;> rfl
theorem s_l14Need_ok {p : TProject} {b : TDomain} (h : DomF p b) {a : Int} {x : TActivity} (hx : idxL p.Activities a = some x) (res : Int) : ∃ v, s_l14Need p b res a = some v := by
  obtain ⟨m1, m2, ms, h1, h2, h3, _⟩ := h.at_ a x hx
  obtain ⟨v, hv⟩ := s_MinUsage_ok x ms res
  exact ⟨v, by simp only [s_l14Need, hx, h3, Option.bind_some, hv]⟩
theorem core_RequiredUsage (p : TProject) (b : TDomain) (res a : Int) (hp : bTProject 1048576 p) (hb : bTDomain 1048576 b) : ∃ v, s_RequiredUsage p b res a = some v ∧ i_RequiredUsage p b res a = some v := by
  rw [RequiredUsage_eq p b res a hp hb]
  obtain ⟨v, hv, hf⟩ := s_l14Ok_ok p (names_of hp (by omega)) b
  simp only [s_RequiredUsage, s_l01In_eq, hv, Option.bind_some, cond_some]
  cases v with
  | false => exact ⟨0, rfl, rfl⟩
  | true =>
    cases hr : inR a 0 (W ((p.Activities.length : Int) - 1)) with
    | false => exact ⟨0, rfl, rfl⟩
    | true =>
      cases hq : inR res 0 (W ((p.Resources.length : Int) - 1)) with
      | false => exact ⟨0, rfl, rfl⟩
      | true =>
        obtain ⟨ac, hx, _⟩ := idx_of_inR hr
        obtain ⟨u, u1⟩ := s_l14Need_ok (hf rfl).dom hx res
        simp only [u1, Option.bind_some]
        exact ⟨u, rfl, rfl⟩
/-! ### Use by all activities at a time -/
theorem compulsory_L1 {p : TProject} {b : TDomain} (h : DomF p b) (hm : ∀ x ∈ p.Activities, x.Modes.length ≤ 1048576) (res t : Int) : ∀ (xs : List TActivity) (z c : Int), 0 ≤ z → p.Activities.drop z.toNat = xs → ∃ v, s_l14Use_L1 p b res t xs z c = some v ∧ i_Project_compulsoryUsage_L1 p b res t xs z c = some v
  | [], z, c, hz, hd => ⟨c, rfl, rfl⟩
  | ac :: xs, z, c, hz, hd => by
    obtain ⟨h1, h2⟩ := idxL_drop hz hd
    obtain ⟨m1, m2, ms, k1, k2, k3, _⟩ := h.at_ z ac h1
    obtain ⟨u, u1⟩ := s_l14Short_ok h h1
    obtain ⟨n, n1⟩ := s_MinUsage_ok ac ms res
    have ih := fun c => compulsory_L1 h hm res t xs (z + 1) c (by omega) h2
    simp only [s_l14Use_L1, i_Project_compulsoryUsage_L1, i_Project_compulsory, l14Short_eq p b z hm, k1, k2, k3, u1, s_l14Need, h1, n1, MinUsage_eq ac ms res (hm ac (idxL_lt_len h1).2), Option.bind_some, cond_some]
    cases hc : (bif decide (m2 ≤ t) then decide (t < W (m1 + u)) else false) with
    | false => exact ih c
    | true => exact ih _
theorem s_l14Use_ok {p : TProject} {b : TDomain} (h : DomF p b) (hm : ∀ x ∈ p.Activities, x.Modes.length ≤ 1048576) (res t : Int) : ∃ v, s_l14Use p b res t = some v ∧ i_Project_compulsoryUsage p b res t = some v := by
  obtain ⟨v, v1, v2⟩ := compulsory_L1 h hm res t p.Activities 0 0 (Int.le_refl _) rfl
  exact ⟨v, by simp only [s_l14Use, v1, Option.bind_some], by simp only [i_Project_compulsoryUsage, v2, Option.bind_some]⟩
theorem core_CompulsoryUsage (p : TProject) (b : TDomain) (res t : Int) (hp : bTProject 1048576 p) (hb : bTDomain 1048576 b) : ∃ v, s_CompulsoryUsage p b res t = some v ∧ i_CompulsoryUsage p b res t = some v := by
  obtain ⟨v, hv, hf⟩ := s_l14Ok_ok p (names_of hp (by omega)) b
  simp only [i_CompulsoryUsage, s_CompulsoryUsage, l14Ok_eq p b (modes_of hb), hasResource_eq, s_l01In_eq, hv, Option.bind_some, cond_some]
  cases v with
  | false => exact ⟨0, rfl, rfl⟩
  | true =>
    cases hq : inR res 0 (W ((p.Resources.length : Int) - 1)) with
    | false => exact ⟨0, rfl, rfl⟩
    | true =>
      obtain ⟨u, u1, u2⟩ := s_l14Use_ok (hf rfl).dom (mlen_of hp) res t
      simp only [u1, u2, Option.bind_some]
      exact ⟨u, rfl, rfl⟩
/-! ### Pairs on a machine -/
theorem usable_proj {p : TProject} {b : TDomain} (hs : ∀ x ∈ p.Activities, x.Name.size ≤ 9223372036854775807) (h : s_l14Ok p b = some true) : s_ProjectOk p = some true := by
  obtain ⟨v, hv, _⟩ := s_ProjectOk_ok p hs
  cases v with
  | true => exact hv
  | false => simp [s_l14Ok, s_DomainForm, hv] at h
theorem IsMachine_eq (p : TProject) (r : Int) : i_IsMachine p r = s_IsMachine p r := by simp only [i_IsMachine, s_IsMachine, hasResource_eq, s_l01In_eq]
theorem s_IsMachine_ok (p : TProject) (r : Int) : ∃ v, s_IsMachine p r = some v ∧ (v = true → ∃ rs, idxL p.Resources r = some rs ∧ 0 < rs.Setup.length) := by
  simp only [s_IsMachine, s_l01In_eq, Option.bind_some]
  cases hq : inR r 0 (W ((p.Resources.length : Int) - 1)) with
  | false => exact ⟨false, rfl, fun h => by cases h⟩
  | true =>
    obtain ⟨rs, hr, _⟩ := idx_of_inR hq
    simp only [hr, Option.bind_some, cond_true]
    exact ⟨_, rfl, fun h => ⟨rs, rfl, by simpa using h⟩⟩
/-- What holds of a pair of activities on a machine of a usable domain. -/
structure PairF (p : TProject) (b : TDomain) (r x y : Int) : Prop where
  use : UseF p b
  ok : s_l14Ok p b = some true
  mach : s_IsMachine p r = some true
  inx : inR x 0 (W ((p.Activities.length : Int) - 1)) = true
  iny : inR y 0 (W ((p.Activities.length : Int) - 1)) = true
  ne : x ≠ y
theorem PairF.sym {p : TProject} {b : TDomain} {r x y : Int} (h : PairF p b r x y) : PairF p b r y x := ⟨h.use, h.ok, h.mach, h.iny, h.inx, fun e => h.ne e.symm⟩
theorem pair_ok (p : TProject) (b : TDomain) (r x y : Int) (hp : bTProject 1048576 p) (hb : bTDomain 1048576 b) : ∃ v, s_l16Ok p b r x y = some v ∧ i_arePair p b r x y = some v ∧ (v = true → PairF p b r x y) := by
  obtain ⟨v, hv, hf⟩ := s_l14Ok_ok p (names_of hp (by omega)) b
  obtain ⟨m, hm, hg⟩ := s_IsMachine_ok p r
  simp only [s_l16Ok, i_arePair, i_onMachine, l14Ok_eq p b (modes_of hb), IsMachine_eq, hasActivity_eq, s_l01In_eq, hv, hm, Option.bind_some]
  cases v with
  | false => exact ⟨false, rfl, rfl, fun h => by cases h⟩
  | true =>
    cases m with
    | false => exact ⟨false, rfl, rfl, fun h => by cases h⟩
    | true =>
      cases hx : inR x 0 (W ((p.Activities.length : Int) - 1)) with
      | false => exact ⟨false, rfl, rfl, fun h => by cases h⟩
      | true =>
        cases hy : inR y 0 (W ((p.Activities.length : Int) - 1)) with
        | false => exact ⟨false, rfl, rfl, fun h => by cases h⟩
        | true => exact ⟨_, rfl, rfl, fun h => ⟨hf rfl, hv, hm, hx, hy, by intro e; subst e; simp at h⟩⟩
theorem setup_ok {p : TProject} {b : TDomain} {r x y : Int} (h : PairF p b r x y) (hs : ∀ x ∈ p.Activities, x.Name.size ≤ 9223372036854775807) : ∃ rs ax ay row v, idxL p.Resources r = some rs ∧ idxL p.Activities x = some ax ∧ idxL p.Activities y = some ay ∧ idxL rs.Setup ax.Family = some row ∧ idxL row ay.Family = some v ∧ i_SetupTime p r x y = some v := by
  obtain ⟨m, hm, hg⟩ := s_IsMachine_ok p r
  have e := h.mach
  rw [hm] at e; cases e
  obtain ⟨rs, hr, hl⟩ := hg rfl
  obtain ⟨ax, hx, mx⟩ := idx_of_inR h.inx
  obtain ⟨ay, hy, my⟩ := idx_of_inR h.iny
  have fr := h.use.dom.proj.ress rs (idxL_lt_len hr).2
  have l4 : rs.Setup.length = 4 := by have := fr.2.2.1; omega
  have fx := (h.use.dom.proj.acts ax mx).1
  have fy := (h.use.dom.proj.acts ay my).1
  obtain ⟨row, k1, k2⟩ := idxL_some (l := rs.Setup) fx.1 (by omega)
  obtain ⟨v, k3, _⟩ := idxL_some (l := row) fy.1 (by have := (fr.2.2.2 row k2).1; omega)
  refine ⟨rs, ax, ay, row, v, hr, hx, hy, k1, k3, ?_⟩
  simp only [i_SetupTime, IsMachine_eq, h.mach, ProjectOk_eq, usable_proj hs h.ok, hasActivity_eq, h.inx, h.iny, hr, hx, hy, k1, k3, Option.bind_some, Bool.not_true, cond_false]
theorem after_ok {p : TProject} {b : TDomain} {r x y : Int} (h : PairF p b r x y) (hp : bTProject 1048576 p) : ∃ v, s_l16After p b r x y = some v ∧ i_Project_after p b r x y = some v := by
  obtain ⟨rs, ax, ay, row, v, h1, h2, h3, h4, h5, h6⟩ := setup_ok h (names_of hp (by omega))
  obtain ⟨u, hu⟩ := s_l14Short_ok h.use.dom h2
  obtain ⟨m1, m2, ms, k1, k2, k3, _⟩ := h.use.dom.at_ x ax h2
  simp only [s_l16After, i_Project_after, l14Short_eq p b x (mlen_of hp), hu, k1, h1, h2, h3, h4, h5, h6, Option.bind_some]
  exact ⟨_, rfl, rfl⟩
theorem canPrecede_ok (p : TProject) (b : TDomain) (r x y : Int) (hp : bTProject 1048576 p) (hb : bTDomain 1048576 b) : ∃ v, s_CanPrecede p b r x y = some v ∧ i_CanPrecede p b r x y = some v := by
  obtain ⟨v, hv, hw, hf⟩ := pair_ok p b r x y hp hb
  simp only [s_CanPrecede, i_CanPrecede, hv, hw, Option.bind_some]
  cases v with
  | false => exact ⟨false, rfl, rfl⟩
  | true =>
    obtain ⟨u, u1, u2⟩ := after_ok (hf rfl) hp
    obtain ⟨ay, hy, _⟩ := idx_of_inR (hf rfl).iny
    obtain ⟨m1, m2, ms, k1, k2, k3, _⟩ := (hf rfl).use.dom.at_ y ay hy
    simp only [u1, u2, k2, Option.bind_some, cond_true]
    exact ⟨_, rfl, rfl⟩
theorem core_CanPrecede (p : TProject) (b : TDomain) (r x y : Int) (hp : bTProject 1048576 p) (hb : bTDomain 1048576 b) : ∃ v, s_CanPrecede p b r x y = some v ∧ i_CanPrecede p b r x y = some v := canPrecede_ok p b r x y hp hb
theorem req_need {p : TProject} {b : TDomain} {r x : Int} (hp : bTProject 1048576 p) (hb : bTDomain 1048576 b) (h : s_l14Ok p b = some true) (hm : s_IsMachine p r = some true) (hx : inR x 0 (W ((p.Activities.length : Int) - 1)) = true) : i_RequiredUsage p b r x = s_l14Need p b r x := by
  have hr : inR r 0 (W ((p.Resources.length : Int) - 1)) = true := by
    cases hr : inR r 0 (W ((p.Resources.length : Int) - 1)) with
    | true => rfl
    | false => simp [s_IsMachine, s_l01In_eq, hr] at hm
  rw [RequiredUsage_eq p b r x hp hb]
  simp only [s_RequiredUsage, h, s_l01In_eq, hx, hr, Option.bind_some, Bool.not_true, cond_false]
  cases s_l14Need p b r x <;> rfl
theorem bothUse_ok (p : TProject) (b : TDomain) (r x y : Int) (hp : bTProject 1048576 p) (hb : bTDomain 1048576 b) : ∃ v, s_BothUse p b r x y = some v ∧ i_BothUse p b r x y = some v ∧ (v = true → PairF p b r x y) := by
  obtain ⟨v, hv, hw, hf⟩ := pair_ok p b r x y hp hb
  simp only [s_BothUse, i_BothUse, hv, hw, Option.bind_some]
  cases v with
  | false => exact ⟨false, rfl, rfl, fun h => by cases h⟩
  | true =>
    have f := hf rfl
    obtain ⟨ax, hx, _⟩ := idx_of_inR f.inx
    obtain ⟨ay, hy, _⟩ := idx_of_inR f.iny
    obtain ⟨n1, e1⟩ := s_l14Need_ok f.use.dom hx r
    obtain ⟨n2, e2⟩ := s_l14Need_ok f.use.dom hy r
    simp only [req_need hp hb f.ok f.mach f.inx, req_need hp hb f.ok f.mach f.iny, e1, e2, Option.bind_some, cond_true]
    exact ⟨bif decide (0 < n1) then decide (0 < n2) else false, by cases decide (0 < n1) <;> rfl, by cases decide (0 < n1) <;> rfl, fun _ => f⟩
theorem core_BothUse (p : TProject) (b : TDomain) (r x y : Int) (hp : bTProject 1048576 p) (hb : bTDomain 1048576 b) : ∃ v, s_BothUse p b r x y = some v ∧ i_BothUse p b r x y = some v := by
  obtain ⟨v, h1, h2, _⟩ := bothUse_ok p b r x y hp hb
  exact ⟨v, h1, h2⟩
theorem mustPrecede_ok (p : TProject) (b : TDomain) (r x y : Int) (hp : bTProject 1048576 p) (hb : bTDomain 1048576 b) : ∃ v, s_MustPrecede p b r x y = some v ∧ i_MustPrecede p b r x y = some v ∧ (v = true → PairF p b r x y) := by
  obtain ⟨v, h1, h2, hf⟩ := bothUse_ok p b r x y hp hb
  obtain ⟨u, h3, h4⟩ := canPrecede_ok p b r x y hp hb
  obtain ⟨w, h5, h6⟩ := canPrecede_ok p b r y x hp hb
  simp only [s_MustPrecede, i_MustPrecede, h1, h2, h3, h4, h5, h6, Option.bind_some]
  cases v with
  | false => exact ⟨false, rfl, rfl, fun h => by cases h⟩
  | true => cases u <;> exact ⟨_, rfl, rfl, fun _ => hf rfl⟩
theorem core_MustPrecede (p : TProject) (b : TDomain) (r x y : Int) (hp : bTProject 1048576 p) (hb : bTDomain 1048576 b) : ∃ v, s_MustPrecede p b r x y = some v ∧ i_MustPrecede p b r x y = some v := by
  obtain ⟨v, h1, h2, _⟩ := mustPrecede_ok p b r x y hp hb
  exact ⟨v, h1, h2⟩
theorem core_PairConflict (p : TProject) (b : TDomain) (r x y : Int) (hp : bTProject 1048576 p) (hb : bTDomain 1048576 b) : ∃ v, s_PairConflict p b r x y = some v ∧ i_PairConflict p b r x y = some v := by
  obtain ⟨v, h1, h2, hf⟩ := bothUse_ok p b r x y hp hb
  obtain ⟨u, h3, h4⟩ := canPrecede_ok p b r x y hp hb
  obtain ⟨w, h5, h6⟩ := canPrecede_ok p b r y x hp hb
  simp only [s_PairConflict, i_PairConflict, h1, h2, h3, h4, h5, h6, Option.bind_some]
  cases v with
  | false => exact ⟨false, rfl, rfl⟩
  | true => cases u <;> exact ⟨_, rfl, rfl⟩
theorem core_EarliestAfter (p : TProject) (b : TDomain) (r x y : Int) (hp : bTProject 1048576 p) (hb : bTDomain 1048576 b) : ∃ v, s_EarliestAfter p b r x y = some v ∧ i_EarliestAfter p b r x y = some v := by
  obtain ⟨v, h1, h2, hf⟩ := mustPrecede_ok p b r x y hp hb
  simp only [s_EarliestAfter, i_EarliestAfter, h1, h2, Option.bind_some]
  cases v with
  | false => exact ⟨0, rfl, rfl⟩
  | true =>
    obtain ⟨u, u1, u2⟩ := after_ok (hf rfl) hp
    simp only [u1, u2, Option.bind_some]
    exact ⟨u, rfl, rfl⟩
/-! ### Work over a stretch of time -/
theorem over_L1 {p : TProject} {b : TDomain} (h : DomF p b) {res : Int} (x y : Int) (hr : 0 ≤ res ∧ res < p.Resources.length) : ∀ (xs : List TActivity) (z c : Int), 0 ≤ z → p.Activities.drop z.toNat = xs → ∃ v, s_l15Over_L1 p b res x y xs z c = some v ∧ i_Project_totalWork_L1 p b res x y xs z c = some v
  | [], z, c, hz, hd => ⟨c, rfl, rfl⟩
  | ac :: xs, z, c, hz, hd => by
    obtain ⟨h1, h2⟩ := idxL_drop hz hd
    obtain ⟨u, u1, u2, _⟩ := l15Work_ok h x y h1 hr
    simp only [s_l15Over_L1, i_Project_totalWork_L1, u1, u2, Option.bind_some]
    exact over_L1 h x y hr xs (z + 1) _ (by omega) h2
theorem core_IsOverworked (p : TProject) (b : TDomain) (res x y : Int) (hp : bTProject 1048576 p) (hb : bTDomain 1048576 b) : ∃ v, s_IsOverworked p b res x y = some v ∧ i_IsOverworked p b res x y = some v := by
  obtain ⟨v, hv, hf⟩ := s_l14Ok_ok p (names_of hp (by omega)) b
  simp only [s_IsOverworked, i_IsOverworked, l14Ok_eq p b (modes_of hb), hasResource_eq, i_isTime_eq, s_l01In_eq, hv, Option.bind_some, cond_some]
  cases h1 : inR x 0 60 with
  | false => exact ⟨false, rfl, by cases v <;> cases inR res 0 (W ((p.Resources.length : Int) - 1)) <;> rfl⟩
  | true => cases h2 : inR y 0 60 with
    | false => exact ⟨false, rfl, by cases v <;> cases inR res 0 (W ((p.Resources.length : Int) - 1)) <;> rfl⟩
    | true => cases h3 : decide (y ≤ x) with
      | true => exact ⟨false, rfl, by cases v <;> cases inR res 0 (W ((p.Resources.length : Int) - 1)) <;> rfl⟩
      | false => cases v with
        | false => exact ⟨false, rfl, rfl⟩
        | true => cases hq : inR res 0 (W ((p.Resources.length : Int) - 1)) with
          | false => exact ⟨false, rfl, rfl⟩
          | true =>
            obtain ⟨r, hr1, _⟩ := idx_of_inR hq
            obtain ⟨u, u1, u2⟩ := over_L1 (hf rfl).dom x y ⟨(idxL_spec hr1).1, (idxL_lt_len hr1).1⟩ p.Activities 0 0 (Int.le_refl _) rfl
            obtain ⟨c, hc⟩ := s_TotalCapacity_ok r.Steps x y
            simp only [i_Project_totalWork, s_l15Over, u1, u2, hr1, hc, TotalCapacity_eq, Option.bind_some, Bool.not_true, cond_false, cond_true]
            exact ⟨_, rfl, rfl⟩
theorem work_none {p : TProject} {b : TDomain} {res y : Int} (h : ∀ t, s_CompulsoryUsage p b res t = some 0) : ∀ (n : Nat) (t : Int), 0 ≤ t → y ≤ 60 → y - t < n → 0 < n → s_CompulsoryWork_L1 p b res y n 0 t = some 0
  | 0, t, _, _, _, hn => by omega
  | n + 1, t, ht, hy, hd, _ => by
    rw [s_CompulsoryWork_L1]
    by_cases hlt : t < y
    · rw [show decide (t < y) = true by simpa using hlt, cond_true, h, Option.bind_some, show W (0 + 0) = 0 from rfl, W_of (n := t + 1) (by omega)]
      exact work_none h n (t + 1) (by omega) hy (by omega) (by omega)
    · rw [show decide (t < y) = false by simpa using hlt, cond_false]
theorem work_some {p : TProject} {b : TDomain} {res y : Int} (h : ∀ t, ∃ v, s_CompulsoryUsage p b res t = some v ∧ i_Project_compulsoryUsage p b res t = some v) : ∀ (n : Nat) (c t : Int), 0 ≤ t → y ≤ 60 → y - t < n → 0 < n → ∃ v, s_CompulsoryWork_L1 p b res y n c t = some v ∧ i_CompulsoryWork_L1 p b res y n c t = some v
  | 0, c, t, _, _, _, hn => by omega
  | n + 1, c, t, ht, hy, hd, _ => by
    rw [s_CompulsoryWork_L1, i_CompulsoryWork_L1]
    by_cases hlt : t < y
    · obtain ⟨v, v1, v2⟩ := h t
      rw [show decide (t < y) = true by simpa using hlt, cond_true, cond_true, v1, v2, Option.bind_some, Option.bind_some, W_of (n := t + 1) (by omega)]
      exact work_some h n _ (t + 1) (by omega) hy (by omega) (by omega)
    · rw [show decide (t < y) = false by simpa using hlt]
      exact ⟨c, rfl, rfl⟩
theorem core_CompulsoryWork (p : TProject) (b : TDomain) (res x y : Int) (hp : bTProject 1048576 p) (hb : bTDomain 1048576 b) : ∃ v, s_CompulsoryWork p b res x y = some v ∧ i_CompulsoryWork p b res x y = some v := by
  obtain ⟨v, hv, hf⟩ := s_l14Ok_ok p (names_of hp (by omega)) b
  simp only [s_CompulsoryWork, i_CompulsoryWork, l14Ok_eq p b (modes_of hb), hasResource_eq, i_isTime_eq, s_l01In_eq, hv, Option.bind_some, cond_some]
  cases h1 : inR x 0 60 with
  | false => exact ⟨0, rfl, by cases v <;> cases inR res 0 (W ((p.Resources.length : Int) - 1)) <;> rfl⟩
  | true => cases h2 : inR y 0 60 with
    | false => exact ⟨0, rfl, by cases v <;> cases inR res 0 (W ((p.Resources.length : Int) - 1)) <;> rfl⟩
    | true =>
      have g1 := inR_iff.1 h1
      have g2 := inR_iff.1 h2
      have hF : 60 < F0 := by unfold F0; omega
      have none_ : (∀ t, s_CompulsoryUsage p b res t = some 0) → s_CompulsoryWork_L1 p b res y F0 0 x = some 0 := fun h => work_none h F0 x (by omega) (by omega) (by omega) (by omega)
      cases v with
      | false =>
        have := none_ (fun t => by simp [s_CompulsoryUsage, hv])
        exact ⟨0, by simp [this], rfl⟩
      | true => cases hq : inR res 0 (W ((p.Resources.length : Int) - 1)) with
        | false =>
          have := none_ (fun t => by simp [s_CompulsoryUsage, hv, s_l01In_eq, hq])
          exact ⟨0, by simp [this], rfl⟩
        | true =>
          obtain ⟨u, u1, u2⟩ := work_some (p := p) (b := b) (res := res) (y := y) (fun t => by
            obtain ⟨w, w1, w2⟩ := s_l14Use_ok (hf rfl).dom (mlen_of hp) res t
            exact ⟨w, by simp only [s_CompulsoryUsage, hv, s_l01In_eq, hq, w1, Option.bind_some, Bool.not_true, cond_false, cond_some], w2⟩) F0 0 x (by omega) (by omega) (by omega) (by omega)
          simp only [u1, u2, Option.bind_some, Bool.not_true, cond_false]
          exact ⟨u, rfl, rfl⟩
theorem overload_L1 {p : TProject} {b : TDomain} (h : DomF p b) (hm : ∀ x ∈ p.Activities, x.Modes.length ≤ 1048576) {res : Int} {r : TResource} (hr : idxL p.Resources res = some r) (hc : ∀ x ∈ r.Steps, 0 ≤ x.Capacity ∧ x.Capacity ≤ 20) : ∀ (n : Nat) (t : Int), 0 ≤ t → 61 - t < n → 0 < n → ∃ v, s_OverloadTime_L1 p b res n t = some v ∧ i_OverloadTime_L1 p b res n t = some v
  | 0, t, _, _, hn => by omega
  | n + 1, t, ht, hd, _ => by
    rw [s_OverloadTime_L1, i_OverloadTime_L1]
    by_cases hlt : t ≤ 60
    · obtain ⟨v, v1, v2⟩ := s_l14Use_ok h hm res t
      obtain ⟨c, c1, _⟩ := s_l03At_ok r.Steps t hc
      rw [show decide (t ≤ 60) = true by simpa using hlt, show decide (t < 61) = true from decide_eq_true (by omega)]
      simp only [cond_true, v1, v2, hr, c1, capacityAt_eq, Option.bind_some]
      cases decide (c < v) with
      | true => exact ⟨_, rfl, rfl⟩
      | false =>
        rw [W_of (n := t + 1) (by omega)]
        exact overload_L1 h hm hr hc n (t + 1) (by omega) (by omega) (by omega)
    · rw [show decide (t ≤ 60) = false by simpa using hlt, show decide (t < 61) = false from decide_eq_false (by omega)]
      exact ⟨_, rfl, rfl⟩
theorem core_OverloadTime (p : TProject) (b : TDomain) (res : Int) (hp : bTProject 1048576 p) (hb : bTDomain 1048576 b) : ∃ v, s_OverloadTime p b res = some v ∧ i_OverloadTime p b res = some v := by
  obtain ⟨v, hv, hf⟩ := s_l14Ok_ok p (names_of hp (by omega)) b
  simp only [s_OverloadTime, i_OverloadTime, l14Ok_eq p b (modes_of hb), hasResource_eq, s_l01In_eq, hv, Option.bind_some, cond_some]
  cases v with
  | false => exact ⟨_, rfl, rfl⟩
  | true => cases hq : inR res 0 (W ((p.Resources.length : Int) - 1)) with
    | false => exact ⟨_, rfl, rfl⟩
    | true =>
      obtain ⟨r, hr1, hm⟩ := idx_of_inR hq
      have fr := (hf rfl).dom.proj.ress r hm
      obtain ⟨u, u1, u2⟩ := overload_L1 (hf rfl).dom (mlen_of hp) hr1 (fun x hx => (fr.1 x hx).2) F0 0 (by omega) (by unfold F0; omega) (by unfold F0; omega)
      simp only [u1, u2, Bool.not_true, cond_false]
      cases u <;> exact ⟨_, rfl, rfl⟩
end Go.Px.YtjncefleglnnjaaGreat
