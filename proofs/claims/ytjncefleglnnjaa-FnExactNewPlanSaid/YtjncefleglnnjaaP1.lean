/-
  PROVED: facts on the definitions that say what functions of the program compute. No condition beyond those that each theorem names.
-/
import Derived.Test.YtjncefleglnnjaaD1
namespace Go.Px.Ytjncefleglnnjaa
set_option linter.unusedSimpArgs false
set_option linter.unusedVariables false
open Go.Px
/-- From a least one to a greatest one. -/
def inR (n lo hi : Int) : Bool := decide (lo ≤ n) && decide (n ≤ hi)
theorem inR_iff {n lo hi : Int} : inR n lo hi = true ↔ lo ≤ n ∧ n ≤ hi := by simp [inR]
theorem inR_f {n lo hi : Int} : inR n lo hi = false ↔ ¬(lo ≤ n ∧ n ≤ hi) := by rw [← inR_iff]; simp
theorem s_l01In_eq (n lo hi : Int) : s_l01In n lo hi = some (inR n lo hi) := by
  unfold s_l01In inR; cases decide (lo ≤ n) <;> rfl
theorem i_within_eq (n lo hi : Int) : i_within n lo hi = some (inR n lo hi) := by
  unfold i_within inR; cases decide (lo ≤ n) <;> rfl
theorem i_isTime_eq (n : Int) : i_isTime n = some (inR n 0 60) := by simp only [i_isTime, i_within_eq, Option.bind_some]
theorem i_isAmount_eq (n : Int) : i_isAmount n = some (inR n 0 20) := by simp only [i_isAmount, i_within_eq, Option.bind_some]
theorem i_isStart_eq (n : Int) : i_isStart n = some (inR n (-2) 62) := by simp only [i_isStart, i_within_eq, Option.bind_some]
theorem hasActivity_eq (p : TProject) (n : Int) : i_Project_hasActivity p n = some (inR n 0 (W ((p.Activities.length : Int) - 1))) := by simp only [i_Project_hasActivity, i_within_eq, Option.bind_some]
theorem hasResource_eq (p : TProject) (n : Int) : i_Project_hasResource p n = some (inR n 0 (W ((p.Resources.length : Int) - 1))) := by simp only [i_Project_hasResource, i_within_eq, Option.bind_some]
theorem s_l02Max_eq (a b : Int) : s_l02Max a b = some (max a b) := by
  unfold s_l02Max
  by_cases h : b < a
  · rw [show decide (b < a) = true by simpa using h, cond_true, show max a b = a by omega]
  · rw [show decide (b < a) = false by simpa using h, cond_false, show max a b = b by omega]
theorem s_l02Min_eq (a b : Int) : s_l02Min a b = some (min a b) := by
  unfold s_l02Min
  by_cases h : a < b
  · rw [show decide (a < b) = true by simpa using h, cond_true, show min a b = a by omega]
  · rw [show decide (a < b) = false by simpa using h, cond_false, show min a b = b by omega]

/-- Index within the numbers from 0 to (number of elements) - 1. -/
theorem W_le {n : Int} (h : -9223372036854775808 ≤ n) : W n ≤ n := by
  show IntKind.i64.wrap n ≤ n
  rw [IntKind.wrap_i64]; omega
theorem idx_of_inR {α : Type} {l : List α} {i : Int} (h : inR i 0 (W ((l.length : Int) - 1)) = true) : ∃ x, idxL l i = some x ∧ x ∈ l := by
  have h := inR_iff.1 h
  have := W_le (n := (l.length : Int) - 1) (by omega)
  exact idxL_some h.1 (by omega)

/-! ### The program's functions are the reference's, where the two texts have one shape -/
theorem areAmounts_L1 : ∀ (xs : List Int) (z : Int), i_areAmounts_L1 xs z = s_l04Nums_L1 xs z
  | [], z => rfl
  | x :: xs, z => by simp only [i_areAmounts_L1, s_l04Nums_L1, i_isAmount_eq, s_l01In_eq, areAmounts_L1 xs]
theorem areAmounts_eq (l : List Int) (n : Int) : i_areAmounts l n = s_l04Nums l n := by simp only [i_areAmounts, s_l04Nums, areAmounts_L1]
theorem ModeOk_eq (m : TMode) (a b : Int) : i_ModeOk m a b = s_ModeOk m a b := by simp only [i_ModeOk, s_ModeOk, areAmounts_eq, i_within_eq, s_l01In_eq]
theorem IsName_L1 (s : ByteArray) : ∀ (n : Nat) (a : Int), i_IsName_L1 s n a = s_IsName_L1 s n a
  | 0, a => rfl
  | n + 1, a => by simp only [i_IsName_L1, s_IsName_L1, IsName_L1 s n]
theorem IsName_eq (s : ByteArray) : i_IsName s = s_IsName s := by simp only [i_IsName, s_IsName, IsName_L1, i_within_eq, s_l01In_eq]
theorem ActivityOk_L1 (a b : Int) : ∀ (xs : List TMode) (z : Int), i_ActivityOk_L1 a b xs z = s_ActivityOk_L1 a b xs z
  | [], z => rfl
  | x :: xs, z => by simp only [i_ActivityOk_L1, s_ActivityOk_L1, ModeOk_eq, ActivityOk_L1 a b xs]
theorem ActivityOk_eq (x : TActivity) (a b : Int) : i_ActivityOk x a b = s_ActivityOk x a b := by simp only [i_ActivityOk, s_ActivityOk, ActivityOk_L1, IsName_eq, i_within_eq, s_l01In_eq]
theorem ActivityIndex_L1 (nm : ByteArray) : ∀ (xs : List TActivity) (z : Int), slices_IndexFunc_Activity_L1 (fun x => i_ActivityIndex_c1 x nm) xs z = s_ActivityIndex_L1 nm xs z
  | [], z => rfl
  | x :: xs, z => by rw [slices_IndexFunc_Activity_L1, s_ActivityIndex_L1, ActivityIndex_L1 nm xs]; rfl
theorem ActivityIndex_eq (p : TProject) (nm : ByteArray) : i_ActivityIndex p nm = s_ActivityIndex p nm := by
  simp only [i_ActivityIndex, slices_IndexFunc_Activity, s_ActivityIndex, ActivityIndex_L1, Option.bind_some]
  cases h : s_ActivityIndex_L1 nm p.Activities 0 with
  | none => rfl
  | some o => cases o <;> rfl
theorem ResourceOk_L2 : ∀ (xs : List Int) (z : Int), i_ResourceOk_L2 xs z = s_ResourceOk_L2 xs z
  | [], z => rfl
  | x :: xs, z => by simp only [i_ResourceOk_L2, s_ResourceOk_L2, i_within_eq, s_l01In_eq, ResourceOk_L2 xs]
theorem ResourceOk_L1 : ∀ (xs : List (List Int)) (z : Int), i_ResourceOk_L1 xs z = s_ResourceOk_L1 xs z
  | [], z => rfl
  | x :: xs, z => by simp only [i_ResourceOk_L1, s_ResourceOk_L1, ResourceOk_L2, ResourceOk_L1 xs]

/-- A loop of tests: each test is defined, and tells what it tells. -/
theorem chkLoop {α : Type} {F : List α → Int → Option (Unit ⊕ Bool)} {b : List α} {Q : α → Prop} {c : α → Int → Option Bool} (h0 : ∀ z, F [] z = some (.inl ()))
    (h1 : ∀ x xs z, F (x :: xs) z = (c x z).bind fun e => bif e then some (.inr false) else F xs (z + 1)) (hc : ∀ x z, 0 ≤ z → idxL b z = some x → ∃ e, c x z = some e ∧ (e = false → Q x)) :
    ∀ (xs : List α) (z : Int), 0 ≤ z → b.drop z.toNat = xs → F xs z = some (.inr false) ∨ (F xs z = some (.inl ()) ∧ ∀ x ∈ xs, Q x)
  | [], z, hz, hd => .inr ⟨h0 z, by simp⟩
  | x :: xs, z, hz, hd => by
    obtain ⟨h2, h3⟩ := idxL_drop hz hd
    obtain ⟨e, he, hq⟩ := hc x z hz h2
    rw [h1, he, Option.bind_some]
    cases e with
    | true => exact .inl rfl
    | false =>
      rw [cond_false]
      rcases chkLoop h0 h1 hc xs (z + 1) (by omega) h3 with h | ⟨h, hQ⟩
      · exact .inl h
      · exact .inr ⟨h, fun y hy => by
          rcases List.mem_cons.1 hy with rfl | hy
          · exact hq rfl
          · exact hQ y hy⟩
theorem chkList {α : Type} {F : List α → Int → Option (Unit ⊕ Bool)} {Q : α → Prop} {c : α → Int → Option Bool} (b : List α) (h0 : ∀ z, F [] z = some (.inl ()))
    (h1 : ∀ x xs z, F (x :: xs) z = (c x z).bind fun e => bif e then some (.inr false) else F xs (z + 1)) (hc : ∀ x z, 0 ≤ z → idxL b z = some x → ∃ e, c x z = some e ∧ (e = false → Q x)) :
    F b 0 = some (.inr false) ∨ (F b 0 = some (.inl ()) ∧ ∀ x ∈ b, Q x) := chkLoop h0 h1 hc b 0 (Int.le_refl _) rfl
theorem idxL_lt_len {α : Type} {l : List α} {z : Int} {x : α} (h : idxL l z = some x) : z < l.length ∧ x ∈ l := by
  have h1 := idxL_spec h
  have h2 := idxL_lt h
  exact ⟨by omega, List.mem_of_getElem? h1.2⟩
theorem idxL_prev {α : Type} {l : List α} {z : Int} {x : α} (h : idxL l z = some x) (h0 : 0 < z) : ∃ y, idxL l (z - 1) = some y := by
  obtain ⟨y, hy, _⟩ := idxL_some (l := l) (z := z - 1) (by omega) (by have := (idxL_lt_len h).1; omega)
  exact ⟨y, hy⟩
/-! ### Steps -/
theorem bind_ex {α β : Type} {x : Option α} {K : α → Option β} {v : α} (h : x = some v) : x.bind K = K v := by rw [h]; rfl
def sC (b : List TStep) (x : TStep) (z : Int) : Option Bool :=
  (s_l01In x.At 0 60).bind fun v12 => (bif (!v12) then some true else (s_l01In x.Capacity 0 20).bind fun v15 => (bif (!v15) then some true else (bif (decide (0 < z)) then (idxL b (z - 1)).bind fun v18 => some (decide (x.At ≤ v18.At)) else some false)))
theorem s_StepsOk_chk (b : List TStep) : s_StepsOk_L1 b b 0 = some (.inr false) ∨ (s_StepsOk_L1 b b 0 = some (.inl ()) ∧ ∀ x ∈ b, (0 ≤ x.At ∧ x.At ≤ 60) ∧ 0 ≤ x.Capacity ∧ x.Capacity ≤ 20) := by
  refine chkList (F := s_StepsOk_L1 b) (c := sC b) b (fun _ => rfl) (fun x xs z => ?_) (fun x z hz hx => ?_)
  · simp only [s_StepsOk_L1, sC, s_l01In_eq, Option.bind_some]
  · simp only [sC, s_l01In_eq, Option.bind_some]
    by_cases h1 : inR x.At 0 60 = true
    · by_cases h2 : inR x.Capacity 0 20 = true
      · rw [h1, h2]
        simp only [Bool.not_true, cond_false, Option.bind_some]
        have hq := (⟨inR_iff.1 h1, inR_iff.1 h2⟩ : (0 ≤ x.At ∧ x.At ≤ 60) ∧ 0 ≤ x.Capacity ∧ x.Capacity ≤ 20)
        by_cases h0 : 0 < z
        · obtain ⟨y, hy⟩ := idxL_prev hx h0
          rw [show decide (0 < z) = true by simpa using h0, cond_true, hy]
          exact ⟨_, rfl, fun _ => hq⟩
        · rw [show decide (0 < z) = false by simpa using h0, cond_false]
          exact ⟨_, rfl, fun _ => hq⟩
      · rw [h1, show inR x.Capacity 0 20 = false by simpa using h2]
        exact ⟨true, rfl, fun h => by cases h⟩
    · rw [show inR x.At 0 60 = false by simpa using h1]
      exact ⟨true, rfl, fun h => by cases h⟩
theorem s_StepsOk_ok (b : List TStep) : ∃ v, s_StepsOk b = some v ∧ (v = true → b ≠ [] ∧ ∀ x ∈ b, (0 ≤ x.At ∧ x.At ≤ 60) ∧ 0 ≤ x.Capacity ∧ x.Capacity ≤ 20) := by
  rcases s_StepsOk_chk b with h | ⟨h, hQ⟩
  · exact ⟨false, by simp only [s_StepsOk, h, sumBind, Option.bind_some, Sum.elim_inr], fun h => by cases h⟩
  · simp only [s_StepsOk, h, sumBind, Option.bind_some, Sum.elim_inl, s_l01In_eq]
    cases hl : inR (b.length : Int) 1 8 with
    | false => exact ⟨false, rfl, fun h => by cases h⟩
    | true =>
      have := inR_iff.1 hl
      obtain ⟨x, hx, _⟩ := idxL_some (l := b) (z := 0) (Int.le_refl _) (by omega)
      rw [cond_true, hx]
      exact ⟨_, rfl, fun _ => ⟨fun e => by subst e; simp at this, hQ⟩⟩
theorem StepsOk_L1 (b : List TStep) : ∀ (xs : List TStep) (z : Int), 0 < z → i_StepsOk_L1 b xs z = s_StepsOk_L1 b xs z
  | [], z, _ => rfl
  | x :: xs, z, hz => by
    have h0 : (z == 0) = false := by simp; omega
    simp only [i_StepsOk_L1, s_StepsOk_L1, i_isTime_eq, i_isAmount_eq, s_l01In_eq, h0, cond_false, StepsOk_L1 b xs (z + 1) (by omega)]
theorem StepsOk_eq (b : List TStep) : i_StepsOk b = s_StepsOk b := by
  have hs := s_StepsOk_chk b
  match b with
  | [] => rfl
  | x :: xs =>
    have hi0 : idxL (x :: xs) 0 = some x := rfl
    by_cases hA : x.At = 0
    · have e : i_StepsOk_L1 (x :: xs) (x :: xs) 0 = s_StepsOk_L1 (x :: xs) (x :: xs) 0 := by
        have h1 : (x.At != 0) = false := by simp [hA]
        simp only [i_StepsOk_L1, s_StepsOk_L1, i_isTime_eq, i_isAmount_eq, s_l01In_eq, h1, StepsOk_L1 (x :: xs) xs (0 + 1) (by omega)]
        rfl
      simp only [i_StepsOk, s_StepsOk, e, i_within_eq, s_l01In_eq, hi0, Option.bind_some, hA]
      congr 1
      funext _
      cases inR ((x :: xs).length : Int) 1 8 <;> rfl
    · have h1 : (x.At != 0) = true := by simp [hA]
      have h2 : (x.At == 0) = false := by simp [hA]
      have e : i_StepsOk_L1 (x :: xs) (x :: xs) 0 = some (.inr false) := by
        simp only [i_StepsOk_L1, i_isTime_eq, i_isAmount_eq, Option.bind_some, h1]
        cases inR x.At 0 60 <;> cases inR x.Capacity 0 20 <;> rfl
      have hi : i_StepsOk (x :: xs) = some false := by simp only [i_StepsOk, e, sumBind, Option.bind_some, Sum.elim_inr]
      rw [hi]
      rcases hs with h | ⟨h, _⟩
      · simp only [s_StepsOk, h, sumBind, Option.bind_some, Sum.elim_inr]
      · simp only [s_StepsOk, h, sumBind, Option.bind_some, Sum.elim_inl, s_l01In_eq, hi0, h2]
        cases inR ((x :: xs).length : Int) 1 8 <;> rfl
theorem ResourceOk_eq (r : TResource) : i_ResourceOk r = s_ResourceOk r := by simp only [i_ResourceOk, s_ResourceOk, ResourceOk_L1, StepsOk_eq]
/-- What a valid resource is. -/
def ResF (r : TResource) : Prop := (∀ x ∈ r.Steps, (0 ≤ x.At ∧ x.At ≤ 60) ∧ 0 ≤ x.Capacity ∧ x.Capacity ≤ 20) ∧ s_StepsOk r.Steps = some true ∧ (r.Setup.length = 0 ∨ r.Setup.length = 4) ∧ ∀ row ∈ r.Setup, row.length = 4 ∧ ∀ n ∈ row, 0 ≤ n ∧ n ≤ 12
theorem s_ResourceOk_L2_ok (b : List Int) : s_ResourceOk_L2 b 0 = some (.inr false) ∨ (s_ResourceOk_L2 b 0 = some (.inl ()) ∧ ∀ n ∈ b, 0 ≤ n ∧ n ≤ 12) :=
  chkList (F := s_ResourceOk_L2) (c := fun x _ => some (!inR x 0 12)) b (fun _ => rfl) (fun x xs z => by simp only [s_ResourceOk_L2, s_l01In_eq, Option.bind_some]) (fun x z _ _ => ⟨_, rfl, fun h => inR_iff.1 (by simpa using h)⟩)
theorem s_ResourceOk_L1_ok (b : List (List Int)) : s_ResourceOk_L1 b 0 = some (.inr false) ∨ (s_ResourceOk_L1 b 0 = some (.inl ()) ∧ ∀ row ∈ b, row.length = 4 ∧ ∀ n ∈ row, 0 ≤ n ∧ n ≤ 12) := by
  have key : ∀ row : List Int, ∃ e, (∀ xs z, s_ResourceOk_L1 (row :: xs) z = bif e then some (.inr false) else s_ResourceOk_L1 xs (z + 1)) ∧ (e = false → row.length = 4 ∧ ∀ n ∈ row, 0 ≤ n ∧ n ≤ 12) := by
    intro row
    by_cases hl : row.length = 4
    · have e : ((row.length : Int) != 4) = false := by simp [hl]
      rcases s_ResourceOk_L2_ok row with h | ⟨h, hQ⟩
      · exact ⟨true, fun xs z => by simp only [s_ResourceOk_L1, e, cond_false, h, sumBind, Option.bind_some, Sum.elim_inr, cond_true], fun h => by cases h⟩
      · exact ⟨false, fun xs z => by simp only [s_ResourceOk_L1, e, cond_false, h, sumBind, Option.bind_some, Sum.elim_inl], fun _ => ⟨hl, hQ⟩⟩
    · have e : ((row.length : Int) != 4) = true := by simp; omega
      exact ⟨true, fun xs z => by simp only [s_ResourceOk_L1, e, cond_true], fun h => by cases h⟩
  exact chkList (F := s_ResourceOk_L1) (c := fun row _ => some (Classical.choose (key row))) b (fun _ => rfl) (fun x xs z => (Classical.choose_spec (key x)).1 xs z) (fun x z _ _ => ⟨_, rfl, (Classical.choose_spec (key x)).2⟩)
theorem s_ResourceOk_ok (r : TResource) : ∃ v, s_ResourceOk r = some v ∧ (v = true → ResF r) := by
  rcases s_ResourceOk_L1_ok r.Setup with h | ⟨h, hQ⟩
  · exact ⟨false, by simp only [s_ResourceOk, h, sumBind, Option.bind_some, Sum.elim_inr], fun h => by cases h⟩
  · obtain ⟨v, hv, hf⟩ := s_StepsOk_ok r.Steps
    simp only [s_ResourceOk, h, sumBind, Option.bind_some, Sum.elim_inl, hv]
    cases v with
    | false => exact ⟨false, rfl, fun h => by cases h⟩
    | true =>
      refine ⟨_, by simp only [cond_true, cond_some, Option.bind_some]; rfl, fun he => ⟨(hf rfl).2, hv, ?_, hQ⟩⟩
      by_cases h0 : r.Setup.length = 0
      · exact .inl h0
      · right
        rw [show ((r.Setup.length : Int) == 0) = false by rw [int_beq]; exact decide_eq_false (by omega), cond_false, int_beq] at he
        have := of_decide_eq_true he
        omega

/-! ### Activities -/
/-- What a valid mode is, for a number of resources and of stocks. -/
def ModeF (m : TMode) (a b : Int) : Prop := (1 ≤ m.Duration ∧ m.Duration ≤ 12) ∧ ((m.Usage.length : Int) = a ∧ ∀ n ∈ m.Usage, 0 ≤ n ∧ n ≤ 20) ∧ ((m.Consumption.length : Int) = b ∧ ∀ n ∈ m.Consumption, 0 ≤ n ∧ n ≤ 20)
theorem s_l04Nums_ok (l : List Int) (n : Int) : ∃ v, s_l04Nums l n = some v ∧ (v = true → (l.length : Int) = n ∧ ∀ k ∈ l, 0 ≤ k ∧ k ≤ 20) := by
  rcases chkList (F := s_l04Nums_L1) (c := fun x _ => some (!inR x 0 20)) (Q := fun k => 0 ≤ k ∧ k ≤ 20) l (fun _ => rfl) (fun x xs z => by simp only [s_l04Nums_L1, s_l01In_eq, Option.bind_some]) (fun x z _ _ => ⟨_, rfl, fun h => inR_iff.1 (by simpa using h)⟩) with h | ⟨h, hQ⟩
  · exact ⟨false, by simp only [s_l04Nums, h, sumBind, Option.bind_some, Sum.elim_inr], fun h => by cases h⟩
  · exact ⟨_, by simp only [s_l04Nums, h, sumBind, Option.bind_some, Sum.elim_inl]; rfl, fun he => ⟨by simpa using he, hQ⟩⟩
theorem s_ModeOk_ok (m : TMode) (a b : Int) : ∃ v, s_ModeOk m a b = some v ∧ (v = true → ModeF m a b) := by
  obtain ⟨u, hu, fu⟩ := s_l04Nums_ok m.Usage a
  obtain ⟨k, hk, fk⟩ := s_l04Nums_ok m.Consumption b
  simp only [s_ModeOk, s_l01In_eq, Option.bind_some, hu, hk]
  cases hd : inR m.Duration 1 12 with
  | false => exact ⟨false, rfl, fun h => by cases h⟩
  | true => cases u with
    | false => exact ⟨false, rfl, fun h => by cases h⟩
    | true => cases k with
      | false => exact ⟨false, rfl, fun h => by cases h⟩
      | true => exact ⟨true, rfl, fun _ => ⟨inR_iff.1 hd, fu rfl, fk rfl⟩⟩
theorem cond_two {α : Type} {c : Bool} {x y : α} {P : α → Prop} (hx : P x) (hy : P y) : P (bif c then x else y) := by cases c <;> assumption
theorem idxS_some {s : ByteArray} {z : Int} (h0 : 0 ≤ z) (h : z < s.size) : ∃ v, idxS s z = some v := by
  have hlt : z.toNat < s.size := by omega
  exact ⟨_, by unfold idxS; rw [if_pos h0, getElem?_pos s z.toNat hlt]; rfl⟩
theorem s_IsName_L1_ok (s : ByteArray) (hs : s.size ≤ 9223372036854775807) : ∀ (n : Nat) (a : Int), 0 ≤ a → a ≤ s.size → (s.size : Int) < a + n → s_IsName_L1 s n a = some (.inr false) ∨ s_IsName_L1 s n a = some (.inl ())
  | 0, a, h0, h1, h2 => by omega
  | n + 1, a, h0, h1, h2 => by
    by_cases hlt : a < s.size
    · obtain ⟨v, hv⟩ := idxS_some h0 hlt
      have ih := s_IsName_L1_ok s hs n (a + 1) (by omega) (by omega) (by omega)
      rw [← W_of (n := a + 1) (by omega)] at ih
      simp only [s_IsName_L1, show decide (a < (s.size : Int)) = true by simpa using hlt, cond_true, hv, Option.bind_some, cond_some]
      exact cond_two (P := fun (o : Option (Unit ⊕ Bool)) => o = some (.inr false) ∨ o = some (.inl ())) (.inl rfl) ih
    · right
      simp only [s_IsName_L1, show decide (a < (s.size : Int)) = false by simpa using hlt, cond_false]
theorem s_IsName_ok (s : ByteArray) (hs : s.size ≤ 9223372036854775807) : ∃ v, s_IsName s = some v := by
  rcases s_IsName_L1_ok s hs F0 0 (Int.le_refl _) (by omega) (by have := F0_gt; omega) with h | h
  · exact ⟨false, by simp only [s_IsName, h, sumBind, Option.bind_some, Sum.elim_inr]⟩
  · exact ⟨_, by simp only [s_IsName, h, sumBind, Option.bind_some, Sum.elim_inl, s_l01In_eq]; rfl⟩
/-- What a valid activity is. -/
def ActF (x : TActivity) (a b : Int) : Prop := (0 ≤ x.Family ∧ x.Family ≤ 3) ∧ (1 ≤ x.Modes.length ∧ x.Modes.length ≤ 3) ∧ ∀ m ∈ x.Modes, ModeF m a b
theorem s_ActivityOk_ok (x : TActivity) (a b : Int) (hs : x.Name.size ≤ 9223372036854775807) : ∃ v, s_ActivityOk x a b = some v ∧ (v = true → ActF x a b) := by
  rcases chkList (F := s_ActivityOk_L1 a b) (c := fun m _ => (s_ModeOk m a b).bind fun v => some (!v)) (Q := fun m => ModeF m a b) x.Modes (fun _ => rfl) (fun m xs z => by
      simp only [s_ActivityOk_L1]
      cases s_ModeOk m a b <;> rfl) (fun m z _ _ => by
      obtain ⟨v, hv, hf⟩ := s_ModeOk_ok m a b
      rw [hv]
      exact ⟨_, rfl, fun h => hf (by simpa using h)⟩) with h | ⟨h, hQ⟩
  · exact ⟨false, by simp only [s_ActivityOk, h, sumBind, Option.bind_some, Sum.elim_inr], fun h => by cases h⟩
  · obtain ⟨v, hv⟩ := s_IsName_ok x.Name hs
    simp only [s_ActivityOk, h, sumBind, Option.bind_some, Sum.elim_inl, hv, s_l01In_eq]
    cases v with
    | false => exact ⟨false, rfl, fun h => by cases h⟩
    | true =>
      cases hf : inR x.Family 0 3 with
      | false => exact ⟨false, rfl, fun h => by cases h⟩
      | true => exact ⟨_, rfl, fun he => ⟨inR_iff.1 hf, by have := inR_iff.1 he; omega, hQ⟩⟩
theorem s_ActivityIndex_ok (p : TProject) (nm : ByteArray) : ∃ v, s_ActivityIndex p nm = some v := by
  have : ∀ (xs : List TActivity) (z : Int), ∃ o, s_ActivityIndex_L1 nm xs z = some o := by
    intro xs
    induction xs with
    | nil => exact fun z => ⟨_, rfl⟩
    | cons x xs ih =>
      intro z
      obtain ⟨o, ho⟩ := ih (z + 1)
      exact ⟨_, by rw [s_ActivityIndex_L1, ho, cond_some]⟩
  obtain ⟨o, ho⟩ := this p.Activities 0
  cases o with
  | inl u => exact ⟨_, by simp only [s_ActivityIndex, ho, sumBind, Option.bind_some, Sum.elim_inl]; rfl⟩
  | inr u => exact ⟨_, by simp only [s_ActivityIndex, ho, sumBind, Option.bind_some, Sum.elim_inr]; rfl⟩

/-! ### Projects -/
theorem linkOk_c (p : TProject) (k : TLink) : i_ProjectOk_c1 k p = some (!(inR k.From 0 (W ((p.Activities.length : Int) - 1)) && (inR k.To 0 (W ((p.Activities.length : Int) - 1)) && (k.From != k.To && inR k.Lag (-60) 60)))) := by
  simp only [i_ProjectOk_c1, i_Project_linkOk, hasActivity_eq, i_within_eq, Option.bind_some, cond_some, cond_and]
theorem linkOk_s (p : TProject) (k : TLink) : ((s_l01In k.From 0 (W ((p.Activities.length : Int) - 1))).bind fun v68 => (bif (!v68) then some true else (s_l01In k.To 0 (W ((p.Activities.length : Int) - 1))).bind fun v71 => (bif (!v71) then some true else (bif (k.From == k.To) then some true else (s_l01In k.Lag (-60) 60).bind fun v74 => some (!v74))))) = i_ProjectOk_c1 k p := by
  rw [linkOk_c]
  simp only [s_l01In_eq, Option.bind_some, cond_some, int_beq, int_bne]
  cases inR k.From 0 (W ((p.Activities.length : Int) - 1)) <;> cases inR k.To 0 (W ((p.Activities.length : Int) - 1)) <;> cases inR k.Lag (-60) 60 <;> cases decide (k.From = k.To) <;> rfl
theorem links_eq (p : TProject) : ∀ (xs : List TLink) (z : Int), 0 ≤ z → ∃ o, slices_IndexFunc_Link_L1 (fun x => i_ProjectOk_c1 x p) xs z = some o ∧ ((o = .inl () ∧ s_ProjectOk_L4 p xs z = some (.inl ())) ∨ ∃ k, o = .inr k ∧ 0 ≤ k ∧ s_ProjectOk_L4 p xs z = some (.inr false))
  | [], z, hz => ⟨.inl (), rfl, .inl ⟨rfl, rfl⟩⟩
  | x :: xs, z, hz => by
    obtain ⟨o, ho, hc⟩ := links_eq p xs (z + 1) (by omega)
    have e1 : s_ProjectOk_L4 p (x :: xs) z = (i_ProjectOk_c1 x p).bind fun e => bif e then some (.inr false) else s_ProjectOk_L4 p xs (z + 1) := by
      rw [← linkOk_s]
      simp only [s_ProjectOk_L4, s_l01In_eq, Option.bind_some]
    have e2 : slices_IndexFunc_Link_L1 (fun x => i_ProjectOk_c1 x p) (x :: xs) z = (i_ProjectOk_c1 x p).bind fun e => bif e then some (.inr z) else slices_IndexFunc_Link_L1 (fun x => i_ProjectOk_c1 x p) xs (z + 1) := rfl
    rw [e1, e2, linkOk_c, Option.bind_some, Option.bind_some]
    cases hb : (!(inR x.From 0 (W ((p.Activities.length : Int) - 1)) && (inR x.To 0 (W ((p.Activities.length : Int) - 1)) && (x.From != x.To && inR x.Lag (-60) 60)))) with
    | true => exact ⟨_, rfl, .inr ⟨z, rfl, hz, rfl⟩⟩
    | false => exact ⟨o, ho, hc⟩
theorem ProjectOk_L1 (p : TProject) : ∀ (xs : List TActivity) (z : Int), i_ProjectOk_L1 p xs z = s_ProjectOk_L1 p xs z
  | [], z => rfl
  | x :: xs, z => by simp only [i_ProjectOk_L1, s_ProjectOk_L1, ActivityOk_eq, ActivityIndex_eq, ProjectOk_L1 p xs]
theorem ProjectOk_L2 : ∀ (xs : List TResource) (z : Int), i_ProjectOk_L2 xs z = s_ProjectOk_L2 xs z
  | [], z => rfl
  | x :: xs, z => by simp only [i_ProjectOk_L2, s_ProjectOk_L2, ResourceOk_eq, ProjectOk_L2 xs]
theorem ProjectOk_L3 : ∀ (xs : List Int) (z : Int), i_ProjectOk_L3 xs z = s_ProjectOk_L3 xs z
  | [], z => rfl
  | x :: xs, z => by simp only [i_ProjectOk_L3, s_ProjectOk_L3, i_within_eq, s_l01In_eq, ProjectOk_L3 xs]
theorem ProjectOk_eq (p : TProject) : i_ProjectOk p = s_ProjectOk p := by
  obtain ⟨o, ho, hc⟩ := links_eq p p.Links 0 (Int.le_refl _)
  have e : (slices_ContainsFunc_Link p.Links (fun x => i_ProjectOk_c1 x p)).bind (fun v => some (!v)) = sumBind (s_ProjectOk_L4 p p.Links 0) (fun q => some q) fun _ => some true := by
    rcases hc with ⟨rfl, h2⟩ | ⟨k, rfl, hk, h2⟩
    · simp only [slices_ContainsFunc_Link, slices_IndexFunc_Link, ho, h2, sumBind, Option.bind_some, Sum.elim_inl]; rfl
    · simp only [slices_ContainsFunc_Link, slices_IndexFunc_Link, ho, h2, sumBind, Option.bind_some, Sum.elim_inr]
      simp [hk]
  simp only [i_ProjectOk, s_ProjectOk, ProjectOk_L1, ProjectOk_L2, ProjectOk_L3, i_within_eq, s_l01In_eq, e]
/-- What a valid project is. -/
structure ProjF (p : TProject) : Prop where
  deadline : 1 ≤ p.Deadline ∧ p.Deadline ≤ 60
  nact : 1 ≤ p.Activities.length ∧ p.Activities.length ≤ 6
  nres : p.Resources.length ≤ 3
  nstk : p.Stocks.length ≤ 2
  nlnk : p.Links.length ≤ 12
  acts : ∀ x ∈ p.Activities, ActF x p.Resources.length p.Stocks.length
  ress : ∀ r ∈ p.Resources, ResF r
  stks : ∀ n ∈ p.Stocks, 0 ≤ n ∧ n ≤ 100
  lnks : ∀ k ∈ p.Links, (0 ≤ k.From ∧ k.From < p.Activities.length) ∧ (0 ≤ k.To ∧ k.To < p.Activities.length) ∧ k.From ≠ k.To ∧ -60 ≤ k.Lag ∧ k.Lag ≤ 60
theorem s_ProjectOk_ok (p : TProject) (hs : ∀ x ∈ p.Activities, x.Name.size ≤ 9223372036854775807) : ∃ v, s_ProjectOk p = some v ∧ (v = true → ProjF p) := by
  simp only [s_ProjectOk, s_l01In_eq, Option.bind_some, cond_some]
  cases hd : inR p.Deadline 1 60 with
  | false => exact ⟨false, rfl, fun h => by cases h⟩
  | true =>
  cases ha : inR (p.Activities.length : Int) 1 6 with
  | false => exact ⟨false, rfl, fun h => by cases h⟩
  | true =>
  cases hr : decide (3 < (p.Resources.length : Int)) with
  | true => exact ⟨false, rfl, fun h => by cases h⟩
  | false =>
  cases hk : decide (2 < (p.Stocks.length : Int)) with
  | true => exact ⟨false, rfl, fun h => by cases h⟩
  | false =>
  cases hl : decide (12 < (p.Links.length : Int)) with
  | true => exact ⟨false, rfl, fun h => by cases h⟩
  | false =>
  simp only [Bool.not_true, cond_false]
  have hd := inR_iff.1 hd
  have ha := inR_iff.1 ha
  have hr := of_decide_eq_false hr
  have hk := of_decide_eq_false hk
  have hl := of_decide_eq_false hl
  have k1 : ∀ x, x ∈ p.Activities → ∃ v, s_ActivityOk x p.Resources.length p.Stocks.length = some v ∧ (v = true → ActF x p.Resources.length p.Stocks.length) := fun x hx => s_ActivityOk_ok x _ _ (hs x hx)
  have l1 := chkList (F := s_ProjectOk_L1 p) (Q := fun x => ActF x p.Resources.length p.Stocks.length) (c := fun x z => (s_ActivityOk x p.Resources.length p.Stocks.length).bind fun v20 => (bif (!v20) then some true else (s_ActivityIndex p x.Name).bind fun v23 => some (v23 != z))) p.Activities (fun _ => rfl) (fun x xs z => by
      simp only [s_ProjectOk_L1]
      cases s_ActivityOk x p.Resources.length p.Stocks.length <;> rfl) (fun x z _ hx => by
      obtain ⟨v, hv, hf⟩ := k1 x (idxL_lt_len hx).2
      obtain ⟨u, hu⟩ := s_ActivityIndex_ok p x.Name
      rw [hv, hu]
      cases v with
      | false => exact ⟨true, rfl, fun h => by cases h⟩
      | true => exact ⟨_, rfl, fun _ => hf rfl⟩)
  have l2 := chkList (F := s_ProjectOk_L2) (Q := ResF) (c := fun x _ => (s_ResourceOk x).bind fun v => some (!v)) p.Resources (fun _ => rfl) (fun x xs z => by
      simp only [s_ProjectOk_L2]
      cases s_ResourceOk x <;> rfl) (fun x z _ hx => by
      obtain ⟨v, hv, hf⟩ := s_ResourceOk_ok x
      rw [hv]
      exact ⟨_, rfl, fun h => hf (by simpa using h)⟩)
  have l3 := chkList (F := s_ProjectOk_L3) (Q := fun n => 0 ≤ n ∧ n ≤ 100) (c := fun x _ => some (!inR x 0 100)) p.Stocks (fun _ => rfl) (fun x xs z => by simp only [s_ProjectOk_L3, s_l01In_eq, Option.bind_some]) (fun x z _ _ => ⟨_, rfl, fun h => inR_iff.1 (by simpa using h)⟩)
  have l4 := chkList (F := s_ProjectOk_L4 p) (Q := fun k => (0 ≤ k.From ∧ k.From < p.Activities.length) ∧ (0 ≤ k.To ∧ k.To < p.Activities.length) ∧ k.From ≠ k.To ∧ -60 ≤ k.Lag ∧ k.Lag ≤ 60) (c := fun x _ => i_ProjectOk_c1 x p) p.Links (fun _ => rfl) (fun x xs z => by
      rw [← linkOk_s]
      simp only [s_ProjectOk_L4, s_l01In_eq, Option.bind_some]) (fun x z _ _ => ⟨_, linkOk_c p x, fun h => by
      have h : (inR x.From 0 (W ((p.Activities.length : Int) - 1)) && (inR x.To 0 (W ((p.Activities.length : Int) - 1)) && (x.From != x.To && inR x.Lag (-60) 60))) = true := by simpa using h
      simp only [Bool.and_eq_true] at h
      have h1 := inR_iff.1 h.1
      have h2 := inR_iff.1 h.2.1
      have h4 := inR_iff.1 h.2.2.2
      have h3 : x.From ≠ x.To := by simpa using h.2.2.1
      rw [W_of (by omega)] at h1 h2
      exact ⟨by omega, by omega, h3, h4⟩⟩)
  rcases l1 with h | ⟨h, q1⟩
  · exact ⟨false, by simp only [h, sumBind, Option.bind_some, Sum.elim_inr], fun h => by cases h⟩
  simp only [h, sumBind, Option.bind_some, Sum.elim_inl]
  rcases l2 with h | ⟨h, q2⟩
  · exact ⟨false, by simp only [h, Option.bind_some, Sum.elim_inr], fun h => by cases h⟩
  simp only [h, Option.bind_some, Sum.elim_inl]
  rcases l3 with h | ⟨h, q3⟩
  · exact ⟨false, by simp only [h, Option.bind_some, Sum.elim_inr], fun h => by cases h⟩
  simp only [h, Option.bind_some, Sum.elim_inl]
  rcases l4 with h | ⟨h, q4⟩
  · exact ⟨false, by simp only [h, Option.bind_some, Sum.elim_inr], fun h => by cases h⟩
  simp only [h, Option.bind_some, Sum.elim_inl]
  exact ⟨true, rfl, fun _ => ⟨hd, by omega, by omega, by omega, by omega, q1, q2, q3, q4⟩⟩
theorem appL_ok {α : Type} {a b : List α} (h : a.length + b.length ≤ 1099511627776) : appL a b = some (a ++ b) := by
  unfold appL; rw [if_pos h]
theorem np_L1 : ∀ (l : List TActivity) (z : Int) (m : Nat), m + l.length ≤ 1048576 → i_NewPlan_L1 l z (List.replicate m 0) (List.replicate m 0) = some (List.replicate (m + l.length) 0, List.replicate (m + l.length) 0)
  | [], z, m, _ => rfl
  | x :: xs, z, m, h => by
    simp only [List.length_cons] at h ⊢
    simp only [i_NewPlan_L1]
    rw [appL_ok (by simp; omega), Option.bind_some, Option.bind_some, show List.replicate m (0 : Int) ++ [0] = List.replicate (m + 1) 0 from by rw [← List.replicate_append_replicate]; rfl]
    rw [np_L1 xs (z + 1) (m + 1) (by omega), show m + 1 + xs.length = m + (xs.length + 1) by omega]
theorem core_NewPlan (p : TProject) (h : bTProject 1048576 p) : ∃ v, s_NewPlan p = some v ∧ i_NewPlan p = some v ∧ bTPlan 1048576 v := by
  have hact : p.Activities.length ≤ 1048576 := h.1.1
  have hsz : ∀ x ∈ p.Activities, x.Name.size ≤ 9223372036854775807 := fun x hx => by
    have h1 := (h.1.2 x hx).1
    have h2 : x.Name.size ≤ 1048576 := h1
    omega
  obtain ⟨v, hv, _⟩ := s_ProjectOk_ok p hsz
  unfold s_NewPlan i_NewPlan
  rw [ProjectOk_eq, hv, Option.bind_some, Option.bind_some]
  cases v
  · exact ⟨_, rfl, rfl, ⟨Nat.zero_le _, Nat.zero_le _, trivial⟩, Nat.zero_le _, trivial⟩
  · have hm : makeL (0 : Int) (p.Activities.length : Int) = some (List.replicate p.Activities.length 0) := by
      unfold makeL; rw [if_pos (by omega)]; simp
    simp only [Bool.not_true, cond_false, hm, Option.bind_some]
    have := np_L1 p.Activities 0 0 (by omega)
    simp only [List.replicate_zero, Nat.zero_add] at this
    rw [this]
    refine ⟨_, rfl, rfl, ⟨?_, ?_, trivial⟩, Nat.zero_le _, trivial⟩ <;> (show (List.replicate p.Activities.length (0 : Int)).length ≤ 1048576; simpa using hact)
end Go.Px.Ytjncefleglnnjaa
