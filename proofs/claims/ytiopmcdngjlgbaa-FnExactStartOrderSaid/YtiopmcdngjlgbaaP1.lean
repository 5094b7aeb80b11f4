/-
  PROVED: facts on the definitions that say what functions of the program compute. No condition beyond those that each theorem names.
-/
import Derived.Test.YtiopmcdngjlgbaaD1
namespace Go.Px.Ytiopmcdngjlgbaa
set_option linter.unusedSimpArgs false
set_option linter.unusedVariables false
open Go.Px
/-! ### Places in a list that is put together -/
theorem ixA {α : Type} (P : List α) (x : α) (S : List α) {i : Int} (h : i = P.length) : idxL (P ++ x :: S) i = some x := by
 rw [h]
 refine idxL_ofNat ?_
 rw [List.getElem?_append_right (Nat.le_refl _), Nat.sub_self]; rfl
theorem stA {α : Type} (P : List α) (x y : α) (S : List α) {i : Int} (h : i = P.length) : setL (P ++ x :: S) i y = P ++ y :: S := by
 rw [h]
 unfold setL
 rw [Int.toNat_natCast, List.set_append_right _ _ (Nat.le_refl _), Nat.sub_self]; rfl
/-! ### Ranges swapped, and turned -/
theorem sr_L1 (g : Nat) (A B C : List Int) (k : Nat) (hz : A.length + B.length + 2 * k < 4611686018427387904) : ∀ (X2 Y2 X1 Y1 : List Int) (fuel : Nat), X2.length = Y2.length → X1.length = Y1.length → X1.length + X2.length = k → X2.length < fuel →
  slices_swapRangeCmpFunc_int_L1 (A.length : Int) ((A.length + k + B.length : Nat) : Int) (k : Int) fuel (X1.length : Int) (A ++ (Y1 ++ X2) ++ B ++ (X1 ++ Y2) ++ C) = some (A ++ (Y1 ++ Y2) ++ B ++ (X1 ++ X2) ++ C)
 | [], Y2, X1, Y1, 0, _, _, _, h => absurd h (Nat.not_lt_zero _)
 | [], Y2, X1, Y1, fuel + 1, h1, h2, h3, _ => by
  have : Y2 = [] := List.eq_nil_of_length_eq_zero (by simpa using h1.symm)
  subst this
  rw [slices_swapRangeCmpFunc_int_L1, decide_eq_false (by simp at h3; omega), cond_false]
 | x :: X2, [], X1, Y1, fuel, h1, _, _, _ => by simp at h1
 | x :: X2, y :: Y2, X1, Y1, 0, _, _, _, h => absurd h (Nat.not_lt_zero _)
 | x :: X2, y :: Y2, X1, Y1, fuel + 1, h1, h2, h3, hf => by
  simp only [List.length_cons] at h1 h3 hf
  have w1 : W ((A.length + k + B.length : Nat) + (X1.length : Int)) = ((A.length + k + B.length + X1.length : Nat) : Int) := by rw [W_of ⟨by omega, by omega⟩]; omega
  have w2 : W ((A.length : Int) + (X1.length : Int)) = ((A.length + X1.length : Nat) : Int) := by rw [W_of ⟨by omega, by omega⟩]; omega
  have w3 : W ((X1.length : Int) + 1) = ((X1 ++ [x]).length : Int) := by rw [W_of ⟨by omega, by omega⟩]; simp
  have e1 : A ++ (Y1 ++ x :: X2) ++ B ++ (X1 ++ y :: Y2) ++ C = (A ++ Y1) ++ x :: (X2 ++ B ++ X1 ++ y :: (Y2 ++ C)) := by simp
  have e2 : A ++ (Y1 ++ x :: X2) ++ B ++ (X1 ++ y :: Y2) ++ C = (A ++ Y1 ++ x :: (X2 ++ B ++ X1)) ++ y :: (Y2 ++ C) := by simp
  have e3 : (A ++ Y1) ++ y :: (X2 ++ B ++ X1 ++ y :: (Y2 ++ C)) = (A ++ Y1 ++ y :: (X2 ++ B ++ X1)) ++ y :: (Y2 ++ C) := by simp
  have l1 : ((A.length + X1.length : Nat) : Int) = ((A ++ Y1).length : Int) := by simp; omega
  have l2 : ((A.length + k + B.length + X1.length : Nat) : Int) = ((A ++ Y1 ++ x :: (X2 ++ B ++ X1)).length : Int) := by simp; omega
  have l3 : ((A.length + k + B.length + X1.length : Nat) : Int) = ((A ++ Y1 ++ y :: (X2 ++ B ++ X1)).length : Int) := by simp; omega
  rw [slices_swapRangeCmpFunc_int_L1, decide_eq_true (by omega), cond_true, w1, w2, w3]
  rw [show idxL (A ++ (Y1 ++ x :: X2) ++ B ++ (X1 ++ y :: Y2) ++ C) ((A.length + k + B.length + X1.length : Nat) : Int) = some y by rw [e2]; exact ixA _ _ _ l2, Option.bind_some]
  rw [show idxL (A ++ (Y1 ++ x :: X2) ++ B ++ (X1 ++ y :: Y2) ++ C) ((A.length + X1.length : Nat) : Int) = some x by rw [e1]; exact ixA _ _ _ l1, Option.bind_some]
  rw [show setL (A ++ (Y1 ++ x :: X2) ++ B ++ (X1 ++ y :: Y2) ++ C) ((A.length + X1.length : Nat) : Int) y = (A ++ Y1) ++ y :: (X2 ++ B ++ X1 ++ y :: (Y2 ++ C)) by rw [e1]; exact stA _ _ _ _ l1]
  rw [e3, ixA _ _ _ l3, Option.bind_some, stA _ _ _ _ l3]
  have ih := sr_L1 g A B C k hz X2 Y2 (X1 ++ [x]) (Y1 ++ [y]) fuel (by omega) (by simp; omega) (by simp; omega) (by omega)
  have e4 : A ++ Y1 ++ y :: (X2 ++ B ++ X1) ++ x :: (Y2 ++ C) = A ++ (Y1 ++ [y] ++ X2) ++ B ++ (X1 ++ [x] ++ Y2) ++ C := by simp
  rw [e4, ih]
  simp
theorem swapRange (A B C X Y : List Int) (g : Int → Int → Option Int) {p q k : Int} (hl : X.length = Y.length) (hz : A.length + B.length + 2 * X.length < 4611686018427387904) (hp : p = A.length) (hq : q = ((A.length + X.length + B.length : Nat) : Int)) (hk : k = X.length) :
  slices_swapRangeCmpFunc_int (A ++ X ++ B ++ Y ++ C) p q k g = some (A ++ Y ++ B ++ X ++ C) := by
 unfold slices_swapRangeCmpFunc_int
 have := sr_L1 0 A B C X.length hz X Y [] [] F0 hl rfl (by simp) (by have := F0_gt; omega)
 simp only [List.nil_append, List.length_nil] at this
 rw [hp, hq, hk, show (0 : Int) = ((0 : Nat) : Int) from rfl, this, Option.bind_some]
theorem rot_L1 (m : Nat) (g : Int → Int → Option Int) : ∀ (fuel : Nat) (A X Y C : List Int), X.length + Y.length < fuel → 1 ≤ X.length → 1 ≤ Y.length → A.length + X.length = m → m + Y.length + C.length < 1000000000000000000 →
  ∃ A' X' Y' C', slices_rotateCmpFunc_int_L1 (m : Int) g fuel (X.length : Int) (Y.length : Int) (A ++ X ++ Y ++ C) = some ((X'.length : Int), A' ++ X' ++ Y' ++ C') ∧ X'.length = Y'.length ∧ A'.length + X'.length = m ∧ m + Y'.length + C'.length < 1000000000000000000 ∧ A' ++ Y' ++ X' ++ C' = A ++ Y ++ X ++ C
 | 0, _, _, _, _, h, _, _, _, _ => absurd h (Nat.not_lt_zero _)
 | fuel + 1, A, X, Y, C, hf, hx, hy, hm, hz => by
  rw [slices_rotateCmpFunc_int_L1]
  by_cases he : X.length = Y.length
  ·refine ⟨A, X, Y, C, ?_, he, hm, hz, rfl⟩
   have : ((X.length : Int) != (Y.length : Int)) = false := by rw [he]; simp
   rw [this, cond_false]
  ·have hne : ((X.length : Int) != (Y.length : Int)) = true := by
    rw [int_bne]; simp; omega
   rw [hne, cond_true]
   by_cases hlt : Y.length < X.length
   ·rw [decide_eq_true (by omega : (Y.length : Int) < (X.length : Int)), cond_true]
    have hX : X.take Y.length ++ X.drop Y.length = X := List.take_append_drop _ _
    have l1 : (X.take Y.length).length = Y.length := by simp; omega
    have l2 : (X.drop Y.length).length = X.length - Y.length := by simp
    have hs := swapRange A (X.drop Y.length) C (X.take Y.length) Y g (p := W ((m : Int) - (X.length : Int))) (q := (m : Int)) (k := (Y.length : Int)) l1 (by omega) (by rw [W_of ⟨by omega, by omega⟩]; omega) (by omega) (by omega)
    have ed : A ++ X ++ Y ++ C = A ++ X.take Y.length ++ X.drop Y.length ++ Y ++ C := by
     rw [List.append_assoc A (X.take Y.length), hX]
    rw [ed, hs, Option.bind_some]
    obtain ⟨A', X', Y', C', r1, r2, r3, r4, r5⟩ := rot_L1 m g fuel (A ++ Y) (X.drop Y.length) (X.take Y.length) C (by omega) (by omega) (by omega) (by simp; omega) (by omega)
    refine ⟨A', X', Y', C', ?_, r2, r3, r4, ?_⟩
    ·rw [← r1, l1]
     have : W ((X.length : Int) - (Y.length : Int)) = ((X.drop Y.length).length : Int) := by rw [W_of ⟨by omega, by omega⟩, l2]; omega
     rw [this]
    ·rw [r5, List.append_assoc (A ++ Y), hX]
   ·rw [decide_eq_false (by omega : ¬ (Y.length : Int) < (X.length : Int)), cond_false]
    have hY : Y.take (Y.length - X.length) ++ Y.drop (Y.length - X.length) = Y := List.take_append_drop _ _
    have l1 : (Y.take (Y.length - X.length)).length = Y.length - X.length := by simp
    have l2 : (Y.drop (Y.length - X.length)).length = X.length := by simp; omega
    have hs := swapRange A (Y.take (Y.length - X.length)) C X (Y.drop (Y.length - X.length)) g (p := W ((m : Int) - (X.length : Int))) (q := W ((W ((m : Int) + (Y.length : Int))) - (X.length : Int))) (k := (X.length : Int)) l2.symm (by omega) (by rw [W_of ⟨by omega, by omega⟩]; omega) (by rw [W_of (n := (m : Int) + (Y.length : Int)) ⟨by omega, by omega⟩, W_of ⟨by omega, by omega⟩]; omega) rfl
    have ed : A ++ X ++ Y ++ C = A ++ X ++ Y.take (Y.length - X.length) ++ Y.drop (Y.length - X.length) ++ C := by
     rw [List.append_assoc (A ++ X) (Y.take _), hY]
    rw [ed, hs, Option.bind_some]
    obtain ⟨A', X', Y', C', r1, r2, r3, r4, r5⟩ := rot_L1 m g fuel A (Y.drop (Y.length - X.length)) (Y.take (Y.length - X.length)) (X ++ C) (by omega) (by omega) (by omega) (by omega) (by simp; omega)
    refine ⟨A', X', Y', C', ?_, r2, r3, r4, ?_⟩
    ·rw [← r1, l2]
     have : W ((Y.length : Int) - (X.length : Int)) = ((Y.take (Y.length - X.length)).length : Int) := by rw [W_of ⟨by omega, by omega⟩, l1]; omega
     rw [this]
     congr 1
     simp
    ·rw [r5, List.append_assoc A (Y.take _), hY]
     simp
theorem rotate_ok (A X Y C : List Int) (g : Int → Int → Option Int) {a m b : Int} (hx : 1 ≤ X.length) (hy : 1 ≤ Y.length) (ha : a = A.length) (hm : m = ((A.length + X.length : Nat) : Int)) (hb : b = ((A.length + X.length + Y.length : Nat) : Int)) (hz : A.length + X.length + Y.length + C.length < 1000000000000000000) :
  slices_rotateCmpFunc_int (A ++ X ++ Y ++ C) a m b g = some (A ++ Y ++ X ++ C) := by
 unfold slices_rotateCmpFunc_int
 obtain ⟨A', X', Y', C', r1, r2, r3, r4, r5⟩ := rot_L1 (A.length + X.length) g F0 A X Y C (by have := F0_gt; omega) hx hy rfl (by omega)
 have w1 : W (m - a) = (X.length : Int) := by rw [hm, ha, W_of ⟨by omega, by omega⟩]; omega
 have w2 : W (b - m) = (Y.length : Int) := by rw [hm, hb, W_of ⟨by omega, by omega⟩]; omega
 rw [w1, w2, hm, r1, Option.bind_some]
 have hs := swapRange A' [] C' X' Y' g (p := W (((A.length + X.length : Nat) : Int) - (X'.length : Int))) (q := ((A.length + X.length : Nat) : Int)) (k := (X'.length : Int)) r2 (by simp; omega) (by rw [W_of ⟨by omega, by omega⟩]; omega) (by simp; omega) rfl
 simp only [List.append_nil] at hs
 simp only [hs, Option.bind_some, r5]
/-! ### Halves, and the search for a border -/
theorem half_eq (i j : Nat) (h : i + j < 4611686018427387904) : IntKind.i64.wrap (Int.fdiv (IntKind.u64.wrap (W ((i : Int) + (j : Int)))) (2 ^ min (Int.toNat 1) (IntKind.bits .u64))) = (((i + j) / 2 : Nat) : Int) := by
 have e1 : W ((i : Int) + (j : Int)) = ((i + j : Nat) : Int) := by rw [W_of ⟨by omega, by omega⟩]; omega
 have e2 : IntKind.u64.wrap ((i + j : Nat) : Int) = ((i + j : Nat) : Int) := by
  show ((i + j : Nat) : Int) % 18446744073709551616 = _
  omega
 have e3 : ((2 : Int) ^ min (Int.toNat 1) (IntKind.bits .u64)) = 2 := rfl
 have e4 : Int.fdiv ((i + j : Nat) : Int) 2 = (((i + j) / 2 : Nat) : Int) := by
  rw [Int.fdiv_eq_ediv_of_nonneg _ (by omega)]; omega
 rw [e1, e2, e3, e4]
 exact W_of ⟨by omega, by omega⟩
open Classical in
theorem bsearch (loop : Nat → Int → Int → Option Int) (P : Nat → Prop) (i0 j0 : Nat) (hmono : ∀ h h', i0 ≤ h' → h' ≤ h → h < j0 → P h → P h')
  (hstep : ∀ (fuel i j : Nat), i0 ≤ i → i < j → j ≤ j0 → loop (fuel + 1) (i : Int) (j : Int) = if P ((i + j) / 2) then loop fuel ((((i + j) / 2 + 1 : Nat)) : Int) (j : Int) else loop fuel (i : Int) (((i + j) / 2 : Nat) : Int))
  (hend : ∀ (fuel i : Nat), loop (fuel + 1) (i : Int) (i : Int) = some (i : Int)) :
  ∀ (fuel i j : Nat), j - i < fuel → i0 ≤ i → i ≤ j → j ≤ j0 → (∀ h, i0 ≤ h → h < i → P h) → (∀ h, j ≤ h → h < j0 → ¬ P h) → ∃ t : Nat, loop fuel (i : Int) (j : Int) = some (t : Int) ∧ i0 ≤ t ∧ t ≤ j0 ∧ (∀ h, i0 ≤ h → h < t → P h) ∧ (∀ h, t ≤ h → h < j0 → ¬ P h)
 | 0, i, j, h, _, _, _, _, _ => absurd h (Nat.not_lt_zero _)
 | fuel + 1, i, j, hf, hi, hij, hj, h1, h2 => by
  by_cases h : i < j
  ·rw [hstep fuel i j hi h hj]
   by_cases hp : P ((i + j) / 2)
   ·rw [if_pos hp]
    exact bsearch loop P i0 j0 hmono hstep hend fuel _ j (by omega) (by omega) (by omega) hj (fun q hq1 hq2 => hmono _ q hq1 (by omega) (by omega) hp) h2
   ·rw [if_neg hp]
    exact bsearch loop P i0 j0 hmono hstep hend fuel i _ (by omega) hi (by omega) (by omega) h1 (fun q hq1 hq2 hq => hp (hmono q _ (by omega) hq1 hq2 hq))
  ·have : i = j := by omega
   subst this
   exact ⟨i, hend fuel i, hi, hj, h1, h2⟩
/-! ### One word moved through others -/
theorem up_L2 (C : List Int) (x : Int) (p : Nat) : ∀ (R1 A : List Int) (fuel : Nat), A.length + R1.length + 1 = p → p + C.length < 4611686018427387904 → R1.length < fuel →
  slices_symMergeCmpFunc_int_L2 (p : Int) fuel (A.length : Int) (A ++ x :: (R1 ++ C)) = some (A ++ R1 ++ x :: C)
 | [], A, 0, _, _, h => absurd h (Nat.not_lt_zero _)
 | [], A, fuel + 1, hp, hz, _ => by
  simp only [List.length_nil] at hp
  rw [slices_symMergeCmpFunc_int_L2, W_of ⟨by omega, by omega⟩, decide_eq_false (by omega), cond_false]
  simp
 | r :: R1, A, 0, _, _, h => absurd h (Nat.not_lt_zero _)
 | r :: R1, A, fuel + 1, hp, hz, hf => by
  simp only [List.length_cons] at hp hf
  have w1 : W ((A.length : Int) + 1) = ((A ++ [r]).length : Int) := by rw [W_of ⟨by omega, by omega⟩]; simp
  have w2 : W ((p : Int) - 1) = (p : Int) - 1 := W_of ⟨by omega, by omega⟩
  have e1 : A ++ x :: (r :: R1 ++ C) = (A ++ [x]) ++ r :: (R1 ++ C) := by simp
  have e2 : A ++ r :: (r :: (R1 ++ C)) = (A ++ [r]) ++ r :: (R1 ++ C) := by simp
  rw [slices_symMergeCmpFunc_int_L2, w1, w2, decide_eq_true (by omega), cond_true]
  rw [show idxL (A ++ x :: (r :: R1 ++ C)) ((A ++ [r]).length : Int) = some r by rw [e1]; exact ixA _ _ _ (by simp), Option.bind_some]
  rw [ixA A x (r :: R1 ++ C) rfl, Option.bind_some, stA A x r (r :: R1 ++ C) rfl]
  rw [show A ++ r :: (r :: R1 ++ C) = (A ++ [r]) ++ r :: (R1 ++ C) by simp, ixA _ _ _ rfl, Option.bind_some, stA _ _ _ _ rfl]
  rw [up_L2 C x p R1 (A ++ [r]) fuel (by simp; omega) (by omega) (by omega)]
  simp
theorem down_L4 (A : List Int) (y : Int) (p : Nat) (hpA : p = A.length) : ∀ (n : Nat) (L2 C : List Int) (fuel : Nat), L2.length = n → p + L2.length + C.length < 4611686018427387904 → n < fuel →
  slices_symMergeCmpFunc_int_L4 (p : Int) fuel ((p + n : Nat) : Int) (A ++ L2 ++ y :: C) = some (A ++ y :: (L2 ++ C))
 | 0, L2, C, 0, _, _, h => absurd h (Nat.not_lt_zero _)
 | 0, L2, C, fuel + 1, hn, _, _ => by
  have : L2 = [] := List.eq_nil_of_length_eq_zero hn
  subst this
  rw [slices_symMergeCmpFunc_int_L4, decide_eq_false (by omega), cond_false]
  simp
 | n + 1, L2, C, 0, _, _, h => absurd h (Nat.not_lt_zero _)
 | n + 1, L2, C, fuel + 1, hn, hz, hf => by
  obtain ⟨l, z, rfl⟩ : ∃ l z, L2 = l ++ [z] := ⟨L2.dropLast, L2.getLast (by intro e; rw [e] at hn; simp at hn), (List.dropLast_concat_getLast _).symm⟩
  simp only [List.length_append, List.length_cons, List.length_nil] at hn hz
  have w1 : W (((p + (n + 1) : Nat) : Int) - 1) = ((p + n : Nat) : Int) := by rw [W_of ⟨by omega, by omega⟩]; omega
  have e1 : A ++ (l ++ [z]) ++ y :: C = (A ++ l) ++ z :: (y :: C) := by simp
  have e2 : A ++ (l ++ [z]) ++ y :: C = (A ++ l ++ [z]) ++ y :: C := by simp
  have l1 : ((p + n : Nat) : Int) = ((A ++ l).length : Int) := by simp; omega
  have l2 : ((p + (n + 1) : Nat) : Int) = ((A ++ l ++ [z]).length : Int) := by simp; omega
  rw [slices_symMergeCmpFunc_int_L4, decide_eq_true (by omega), cond_true, w1]
  rw [show idxL (A ++ (l ++ [z]) ++ y :: C) ((p + n : Nat) : Int) = some z by rw [e1]; exact ixA _ _ _ l1, Option.bind_some]
  rw [show idxL (A ++ (l ++ [z]) ++ y :: C) ((p + (n + 1) : Nat) : Int) = some y by rw [e2]; exact ixA _ _ _ l2, Option.bind_some]
  rw [show setL (A ++ (l ++ [z]) ++ y :: C) ((p + (n + 1) : Nat) : Int) z = (A ++ l) ++ z :: (z :: C) by rw [e2, stA _ _ _ _ l2]; simp]
  rw [ixA _ _ _ l1, Option.bind_some, stA _ _ _ _ l1]
  have ih := down_L4 A y p hpA n l (z :: C) fuel (by omega) (by simp; omega) (by omega)
  rw [ih]
  simp
/-! ### Two sorted rows in place -/
/-- What is asked of the order between the two rows. -/
def GOk (g : Int → Int → Option Int) (lo : Int → Int → Prop) (L R : List Int) : Prop := ∀ x ∈ L, ∀ y ∈ R, (∃ c, g y x = some c ∧ (c < 0 ↔ lo y x)) ∧ (¬ lo y x → lo x y)
section
variable {g : Int → Int → Option Int} {lo : Int → Int → Prop}
theorem pw_get {L : List Int} (h : L.Pairwise lo) {i j : Nat} {x y : Int} (hij : i < j) (hx : L[i]? = some x) (hy : L[j]? = some y) : lo x y := by
 obtain ⟨h1, rfl⟩ := List.getElem?_eq_some_iff.1 hx
 obtain ⟨h2, rfl⟩ := List.getElem?_eq_some_iff.1 hy
 exact List.pairwise_iff_getElem.1 h i j h1 h2 hij
theorem inL (A L S : List Int) {i : Nat} (h : i < L.length) : (A ++ L ++ S)[A.length + i]? = L[i]? := by
 rw [List.append_assoc, List.getElem?_append_right (by omega), show A.length + i - A.length = i by omega, List.getElem?_append_left h]
theorem inR_ (A L R S : List Int) {i : Nat} (h : i < R.length) : (A ++ L ++ R ++ S)[A.length + L.length + i]? = R[i]? := by
 have := inL (A ++ L) R S h
 rw [List.length_append] at this
 exact this
theorem symm_one (htr : ∀ x y z, lo x y → lo y z → lo x z) (A C R : List Int) (x : Int) (hR : R.Pairwise lo) (hg : GOk g lo [x] R) (hz : A.length + R.length + C.length < 100000000000000000) :
  ∃ t : Nat, slices_symMergeCmpFunc_int_L1 (A ++ [x] ++ R ++ C) (A.length : Int) g F0 ((A.length + 1 : Nat) : Int) ((A.length + 1 + R.length : Nat) : Int) = some (t : Int) ∧
   slices_symMergeCmpFunc_int_L2 (t : Int) F0 (A.length : Int) (A ++ [x] ++ R ++ C) = some (A ++ (R.take (t - (A.length + 1)) ++ x :: R.drop (t - (A.length + 1))) ++ C) ∧
   (R.take (t - (A.length + 1)) ++ x :: R.drop (t - (A.length + 1))).Pairwise lo := by
 have hF := F0_gt
 have hat : ∀ h, A.length + 1 ≤ h → h < A.length + 1 + R.length → ∃ y, (A ++ [x] ++ R ++ C)[h]? = some y ∧ y ∈ R ∧ R[h - (A.length + 1)]? = some y := fun h h1 h2 => by
  have hlt : h - (A.length + 1) < R.length := by omega
  refine ⟨R[h - (A.length + 1)], ?_, List.getElem_mem _, List.getElem?_eq_getElem hlt⟩
  have := inR_ A [x] R C hlt
  rw [List.length_singleton, show A.length + 1 + (h - (A.length + 1)) = h by omega, List.getElem?_eq_getElem hlt] at this
  exact this
 obtain ⟨t, t1, t2, t3, t4, t5⟩ := bsearch (slices_symMergeCmpFunc_int_L1 (A ++ [x] ++ R ++ C) (A.length : Int) g) (fun h => ∃ y, R[h - (A.length + 1)]? = some y ∧ lo y x) (A.length + 1) (A.length + 1 + R.length)
  (fun h h' h1 h2 h3 ⟨y, hy, hlo⟩ => by
   obtain ⟨y', _, _, hy'⟩ := hat h' h1 (by omega)
   refine ⟨y', hy', ?_⟩
   by_cases e : h' = h
   ·rw [e, hy] at hy'; cases hy'; exact hlo
   ·exact htr _ _ _ (pw_get hR (by omega) hy' hy) hlo)
  (fun fuel i j h1 h2 h3 => by
   obtain ⟨y, hy, hm, hy2⟩ := hat ((i + j) / 2) (by omega) (by omega)
   obtain ⟨⟨c, hc, hc2⟩, _⟩ := hg x (by simp) y hm
   have hx : idxL (A ++ [x] ++ R ++ C) (A.length : Int) = some x := by
    rw [show A ++ [x] ++ R ++ C = A ++ x :: (R ++ C) by simp]; exact ixA _ _ _ rfl
   rw [slices_symMergeCmpFunc_int_L1, decide_eq_true (by omega), cond_true, half_eq i j (by omega), idxL_ofNat hy, Option.bind_some, hx, Option.bind_some, hc, Option.bind_some]
   by_cases hlt : c < 0
   ·rw [decide_eq_true hlt, cond_true, if_pos ⟨y, hy2, hc2.1 hlt⟩, W_of ⟨by omega, by omega⟩]
    rfl
   ·rw [decide_eq_false hlt, cond_false, if_neg (fun ⟨y', hy', hlo⟩ => by rw [hy2] at hy'; cases hy'; exact hlt (hc2.2 hlo))])
  (fun fuel i => by rw [slices_symMergeCmpFunc_int_L1, decide_eq_false (by omega), cond_false])
  F0 (A.length + 1) (A.length + 1 + R.length) (by omega) (Nat.le_refl _) (by omega) (Nat.le_refl _) (fun h h1 h2 => by omega) (fun h h1 h2 => by omega)
 have hlo1 : ∀ y ∈ R.take (t - (A.length + 1)), lo y x := fun y hy => by
  obtain ⟨i, hi, rfl⟩ := List.getElem_of_mem hy
  simp only [List.length_take] at hi
  obtain ⟨y', hy', hlo⟩ := t4 (A.length + 1 + i) (by omega) (by omega)
  rw [show A.length + 1 + i - (A.length + 1) = i by omega] at hy'
  obtain ⟨_, e⟩ := List.getElem?_eq_some_iff.1 hy'
  rw [List.getElem_take, e]; exact hlo
 have hlo2 : ∀ y ∈ R.drop (t - (A.length + 1)), lo x y := fun y hy => by
  refine (hg x (by simp) y (List.mem_of_mem_drop hy)).2 (fun hl => ?_)
  obtain ⟨i, hi, rfl⟩ := List.getElem_of_mem hy
  simp only [List.length_drop] at hi
  refine t5 (t + i) (by omega) (by omega) ⟨_, ?_, hl⟩
  rw [List.getElem_drop, show t + i - (A.length + 1) = t - (A.length + 1) + i by omega, List.getElem?_eq_getElem]
 have hsp : R.take (t - (A.length + 1)) ++ R.drop (t - (A.length + 1)) = R := List.take_append_drop _ _
 refine ⟨t, t1, ?_, ?_⟩
 ·have h2 := up_L2 (R.drop (t - (A.length + 1)) ++ C) x t (R.take (t - (A.length + 1))) A F0 (by simp; omega) (by simp; omega) (by simp; omega)
  have e : A ++ [x] ++ R ++ C = A ++ x :: (R.take (t - (A.length + 1)) ++ (R.drop (t - (A.length + 1)) ++ C)) := by
   rw [← List.append_assoc (R.take _), hsp]; simp
  rw [e, h2]
  simp
 ·rw [List.pairwise_append]
  refine ⟨hR.sublist (List.take_sublist _ _), ?_, fun y hy z hz => ?_⟩
  ·rw [List.pairwise_cons]
   exact ⟨hlo2, hR.sublist (List.drop_sublist _ _)⟩
  ·rcases List.mem_cons.1 hz with rfl | hz
   ·exact hlo1 y hy
   ·exact htr _ _ _ (hlo1 y hy) (hlo2 z hz)
theorem symm_last (htr : ∀ x y z, lo x y → lo y z → lo x z) (A C L : List Int) (y : Int) (hL : L.Pairwise lo) (hg : GOk g lo L [y]) (hz : A.length + L.length + C.length < 100000000000000000) :
  ∃ t : Nat, slices_symMergeCmpFunc_int_L3 (A ++ L ++ [y] ++ C) ((A.length + L.length : Nat) : Int) g F0 (A.length : Int) ((A.length + L.length : Nat) : Int) = some (t : Int) ∧
   slices_symMergeCmpFunc_int_L4 (t : Int) F0 ((A.length + L.length : Nat) : Int) (A ++ L ++ [y] ++ C) = some (A ++ (L.take (t - A.length) ++ y :: L.drop (t - A.length)) ++ C) ∧
   (L.take (t - A.length) ++ y :: L.drop (t - A.length)).Pairwise lo := by
 have hF := F0_gt
 have hat : ∀ h, A.length ≤ h → h < A.length + L.length → ∃ x, (A ++ L ++ [y] ++ C)[h]? = some x ∧ x ∈ L ∧ L[h - A.length]? = some x := fun h h1 h2 => by
  have hlt : h - A.length < L.length := by omega
  refine ⟨L[h - A.length], ?_, List.getElem_mem _, List.getElem?_eq_getElem hlt⟩
  have := inL A L ([y] ++ C) hlt
  rw [show A.length + (h - A.length) = h by omega, List.getElem?_eq_getElem hlt, ← List.append_assoc] at this
  exact this
 obtain ⟨t, t1, t2, t3, t4, t5⟩ := bsearch (slices_symMergeCmpFunc_int_L3 (A ++ L ++ [y] ++ C) ((A.length + L.length : Nat) : Int) g) (fun h => ∃ x, L[h - A.length]? = some x ∧ ¬ lo y x) A.length (A.length + L.length)
  (fun h h' h1 h2 h3 ⟨x, hx, hlo⟩ => by
   obtain ⟨x', _, _, hx'⟩ := hat h' h1 (by omega)
   refine ⟨x', hx', ?_⟩
   by_cases e : h' = h
   ·rw [e, hx] at hx'; cases hx'; exact hlo
   ·exact fun hl => hlo (htr _ _ _ hl (pw_get hL (by omega) hx' hx)))
  (fun fuel i j h1 h2 h3 => by
   obtain ⟨x, hx, hm, hx2⟩ := hat ((i + j) / 2) (by omega) (by omega)
   obtain ⟨⟨c, hc, hc2⟩, _⟩ := hg x hm y (by simp)
   have hy : idxL (A ++ L ++ [y] ++ C) ((A.length + L.length : Nat) : Int) = some y := by
    rw [show A ++ L ++ [y] ++ C = (A ++ L) ++ y :: C by simp]; exact ixA _ _ _ (by simp)
   rw [slices_symMergeCmpFunc_int_L3, decide_eq_true (by omega), cond_true, hy, Option.bind_some, half_eq i j (by omega), idxL_ofNat hx, Option.bind_some, hc, Option.bind_some]
   by_cases hlt : c < 0
   ·rw [decide_eq_true hlt, Bool.not_true, cond_false, if_neg (fun ⟨x', hx', hlo⟩ => by rw [hx2] at hx'; cases hx'; exact hlo (hc2.1 hlt))]
   ·rw [decide_eq_false hlt, Bool.not_false, cond_true, if_pos ⟨x, hx2, fun hl => hlt (hc2.2 hl)⟩, W_of ⟨by omega, by omega⟩]
    rfl)
  (fun fuel i => by rw [slices_symMergeCmpFunc_int_L3, decide_eq_false (by omega), cond_false])
  F0 A.length (A.length + L.length) (by omega) (Nat.le_refl _) (by omega) (Nat.le_refl _) (fun h h1 h2 => by omega) (fun h h1 h2 => by omega)
 have hlo1 : ∀ x ∈ L.take (t - A.length), lo x y := fun x hx => by
  refine (hg x (List.mem_of_mem_take hx) y (by simp)).2 ?_
  obtain ⟨i, hi, rfl⟩ := List.getElem_of_mem hx
  simp only [List.length_take] at hi
  obtain ⟨x', hx', hlo⟩ := t4 (A.length + i) (by omega) (by omega)
  rw [show A.length + i - A.length = i by omega] at hx'
  obtain ⟨_, e⟩ := List.getElem?_eq_some_iff.1 hx'
  rw [List.getElem_take, e]; exact hlo
 have hlo2 : ∀ x ∈ L.drop (t - A.length), lo y x := fun x hx => by
  apply Classical.byContradiction
  intro hl
  obtain ⟨i, hi, rfl⟩ := List.getElem_of_mem hx
  simp only [List.length_drop] at hi
  refine t5 (t + i) (by omega) (by omega) ⟨_, ?_, hl⟩
  rw [List.getElem_drop, show t + i - A.length = t - A.length + i by omega, List.getElem?_eq_getElem]
 have hsp : L.take (t - A.length) ++ L.drop (t - A.length) = L := List.take_append_drop _ _
 refine ⟨t, t1, ?_, ?_⟩
 ·have h2 := down_L4 (A ++ L.take (t - A.length)) y t (by simp; omega) (A.length + L.length - t) (L.drop (t - A.length)) C F0 (by simp; omega) (by simp; omega) (by omega)
  have e : A ++ L ++ [y] ++ C = A ++ L.take (t - A.length) ++ L.drop (t - A.length) ++ y :: C := by
   rw [List.append_assoc A (L.take _), hsp]; simp
  rw [e]
  rw [show A.length + L.length = t + (A.length + L.length - t) by omega, h2]
  simp
 ·rw [List.pairwise_append]
  refine ⟨hL.sublist (List.take_sublist _ _), ?_, fun x hx z hz => ?_⟩
  ·rw [List.pairwise_cons]
   exact ⟨hlo2, hL.sublist (List.drop_sublist _ _)⟩
  ·rcases List.mem_cons.1 hz with rfl | hz
   ·exact hlo1 x hx
   ·exact htr _ _ _ (hlo1 x hx) (hlo2 z hz)
end
section
variable {g : Int → Int → Option Int} {lo : Int → Int → Prop}
theorem GOk.sub {L R L' R' : List Int} (h : GOk g lo L R) (hL : ∀ x ∈ L', x ∈ L) (hR : ∀ y ∈ R', y ∈ R) : GOk g lo L' R' := fun x hx y hy => h x (hL x hx) y (hR y hy)
theorem pw_le {L : List Int} (h : L.Pairwise lo) {i j : Nat} {x y : Int} (hij : i ≤ j) (hx : L[i]? = some x) (hy : L[j]? = some y) : x = y ∨ lo x y := by
 by_cases e : i = j
 ·subst e; rw [hx] at hy; exact .inl (Option.some.inj hy)
 ·exact .inr (pw_get h (by omega) hx hy)
/-- The border of the two halves of a merge. -/
theorem symm_border (htr : ∀ x y z, lo x y → lo y z → lo x z) (A L R C : List Int) (hL : L.Pairwise lo) (hR : R.Pairwise lo) (hg : GOk g lo L R) (hz : A.length + L.length + R.length + C.length < 100000000000000000) (hl : 1 ≤ L.length) (hr : 1 ≤ R.length)
  (a m b mid s0 r0 : Nat) (ha : a = A.length) (hm : m = A.length + L.length) (hb : b = A.length + L.length + R.length) (hmid : mid = (a + b) / 2)
  (hcase : (mid < m ∧ s0 + b = mid + m ∧ r0 = mid) ∨ (m ≤ mid ∧ s0 = a ∧ r0 = m)) :
  ∃ t : Nat, slices_symMergeCmpFunc_int_L5 (A ++ L ++ R ++ C) (a : Int) (m : Int) (b : Int) g F0 (s0 : Int) (r0 : Int) = some (t : Int) ∧ s0 ≤ t ∧ t ≤ r0 ∧ a ≤ t ∧ t ≤ m ∧ m ≤ mid + m - t ∧ mid + m - t ≤ b ∧
   (∀ x ∈ L.take (t - a), ∀ y ∈ R.drop (mid + m - t - m), lo x y) ∧ (∀ y ∈ R.take (mid + m - t - m), ∀ x ∈ L.drop (t - a), lo y x) := by
 have hF := F0_gt
 have hs : s0 ≤ r0 := by omega
 have hin : ∀ c, s0 ≤ c → c < r0 → a ≤ c ∧ c < m ∧ m ≤ mid + m - 1 - c ∧ mid + m - 1 - c < b := fun c h1 h2 => by omega
 have gL : ∀ c, a ≤ c → c < m → ∃ x, (A ++ L ++ R ++ C)[c]? = some x ∧ x ∈ L ∧ L[c - a]? = some x := fun c h1 h2 => by
  have hlt : c - a < L.length := by omega
  refine ⟨L[c - a], ?_, List.getElem_mem _, List.getElem?_eq_getElem hlt⟩
  have := inL A L (R ++ C) hlt
  rw [show A.length + (c - a) = c by omega, List.getElem?_eq_getElem hlt, ← List.append_assoc] at this
  exact this
 have gR : ∀ c, m ≤ c → c < b → ∃ y, (A ++ L ++ R ++ C)[c]? = some y ∧ y ∈ R ∧ R[c - m]? = some y := fun c h1 h2 => by
  have hlt : c - m < R.length := by omega
  refine ⟨R[c - m], ?_, List.getElem_mem _, List.getElem?_eq_getElem hlt⟩
  have := inR_ A L R C hlt
  rw [show A.length + L.length + (c - m) = c by omega, List.getElem?_eq_getElem hlt] at this
  exact this
 obtain ⟨t, t1, t2, t3, t4, t5⟩ := bsearch (slices_symMergeCmpFunc_int_L5 (A ++ L ++ R ++ C) (a : Int) (m : Int) (b : Int) g) (fun c => ∃ x y, L[c - a]? = some x ∧ R[mid + m - 1 - c - m]? = some y ∧ ¬ lo y x) s0 r0
  (fun h h' h1 h2 h3 ⟨x, y, hx, hy, hlo⟩ => by
   obtain ⟨q1, q2, q3, q4⟩ := hin h' h1 (by omega)
   obtain ⟨p1, p2, p3, p4⟩ := hin h (by omega) h3
   obtain ⟨x', _, _, hx'⟩ := gL h' q1 q2
   obtain ⟨y', _, _, hy'⟩ := gR (mid + m - 1 - h') q3 q4
   refine ⟨x', y', hx', hy', fun hl => hlo ?_⟩
   by_cases e : h' = h
   ·rw [e] at hx' hy'
    rw [hx] at hx'; rw [hy] at hy'
    cases hx'; cases hy'; exact hl
   ·exact htr _ _ _ (htr _ _ _ (pw_get hR (by omega) hy hy') hl) (pw_get hL (by omega) hx' hx))
  (fun fuel i j h1 h2 h3 => by
   obtain ⟨q1, q2, q3, q4⟩ := hin ((i + j) / 2) (by omega) (by omega)
   obtain ⟨x, hx, hxm, hx2⟩ := gL ((i + j) / 2) q1 q2
   obtain ⟨y, hy, hym, hy2⟩ := gR (mid + m - 1 - (i + j) / 2) q3 q4
   obtain ⟨⟨c, hc, hc2⟩, _⟩ := hg x hxm y hym
   have w : W ((W ((W ((((a + b) / 2 : Nat) : Int) + (m : Int))) - 1)) - (((i + j) / 2 : Nat) : Int)) = ((mid + m - 1 - (i + j) / 2 : Nat) : Int) := by
    rw [W_of (n := (((a + b) / 2 : Nat) : Int) + (m : Int)) ⟨by omega, by omega⟩, W_of (n := (((a + b) / 2 : Nat) : Int) + (m : Int) - 1) ⟨by omega, by omega⟩, W_of ⟨by omega, by omega⟩]
    omega
   rw [slices_symMergeCmpFunc_int_L5, decide_eq_true (by omega), cond_true, half_eq i j (by omega), half_eq a b (by omega), w, idxL_ofNat hy, Option.bind_some, idxL_ofNat hx, Option.bind_some, hc, Option.bind_some]
   by_cases hlt : c < 0
   ·rw [decide_eq_true hlt, Bool.not_true, cond_false, if_neg (fun ⟨x', y', hx', hy', hlo⟩ => by rw [hx2] at hx'; rw [hy2] at hy'; cases hx'; cases hy'; exact hlo (hc2.1 hlt))]
   ·rw [decide_eq_false hlt, Bool.not_false, cond_true, if_pos ⟨x, y, hx2, hy2, fun hl => hlt (hc2.2 hl)⟩, W_of ⟨by omega, by omega⟩]
    rfl)
  (fun fuel i => by rw [slices_symMergeCmpFunc_int_L5, decide_eq_false (by omega), cond_false])
  F0 s0 r0 (by omega) (Nat.le_refl _) hs (Nat.le_refl _) (fun h h1 h2 => by omega) (fun h h1 h2 => by omega)
 have b1 : a ≤ t := by omega
 have b2 : t ≤ m := by omega
 have b3 : m ≤ mid + m - t := by omega
 have b4 : mid + m - t ≤ b := by omega
 refine ⟨t, t1, t2, t3, b1, b2, b3, b4, fun x hx y hy => ?_, fun y hy x hx => ?_⟩
 ·obtain ⟨i, hi, rfl⟩ := List.getElem_of_mem hx
  obtain ⟨j, hj, rfl⟩ := List.getElem_of_mem hy
  simp only [List.length_take] at hi
  simp only [List.length_drop] at hj
  obtain ⟨x', y', hx', hy', hlo⟩ := t4 (t - 1) (by omega) (by omega)
  obtain ⟨e1, e2⟩ := List.getElem?_eq_some_iff.1 hx'
  obtain ⟨e3, e4⟩ := List.getElem?_eq_some_iff.1 hy'
  have hxy : lo x' y' := (hg x' (by rw [← e2]; exact List.getElem_mem _) y' (by rw [← e4]; exact List.getElem_mem _)).2 hlo
  rw [List.getElem_take, List.getElem_drop]
  have hx3 : L[i]? = some (L[i]'(by omega)) := List.getElem?_eq_getElem (by omega)
  have hy3 : R[mid + m - t - m + j]? = some (R[mid + m - t - m + j]'(by omega)) := List.getElem?_eq_getElem (by omega)
  have h1 : L[i]'(by omega) = x' ∨ lo (L[i]'(by omega)) x' := pw_le hL (by omega) hx3 hx'
  have h2 : y' = R[mid + m - t - m + j]'(by omega) ∨ lo y' (R[mid + m - t - m + j]'(by omega)) := pw_le hR (by omega) hy' hy3
  rcases h1 with h1 | h1
  ·rw [h1]
   rcases h2 with h2 | h2
   ·rw [← h2]; exact hxy
   ·exact htr _ _ _ hxy h2
  ·rcases h2 with h2 | h2
   ·rw [← h2]; exact htr _ _ _ h1 hxy
   ·exact htr _ _ _ (htr _ _ _ h1 hxy) h2
 ·obtain ⟨i, hi, rfl⟩ := List.getElem_of_mem hx
  obtain ⟨j, hj, rfl⟩ := List.getElem_of_mem hy
  simp only [List.length_drop] at hi
  simp only [List.length_take] at hj
  have hlt : t < r0 := by omega
  obtain ⟨q1, q2, q3, q4⟩ := hin t t2 hlt
  obtain ⟨x', _, _, hx'⟩ := gL t q1 q2
  obtain ⟨y', _, _, hy'⟩ := gR (mid + m - 1 - t) q3 q4
  have hyx : lo y' x' := by
   apply Classical.byContradiction
   intro hl
   exact t5 t (Nat.le_refl _) hlt ⟨x', y', hx', hy', hl⟩
  rw [List.getElem_take, List.getElem_drop]
  have hx3 : L[t - a + i]? = some (L[t - a + i]'(by omega)) := List.getElem?_eq_getElem (by omega)
  have hy3 : R[j]? = some (R[j]'(by omega)) := List.getElem?_eq_getElem (by omega)
  have h1 : x' = L[t - a + i]'(by omega) ∨ lo x' (L[t - a + i]'(by omega)) := pw_le hL (by omega) hx' hx3
  have h2 : R[j]'(by omega) = y' ∨ lo (R[j]'(by omega)) y' := pw_le hR (by omega) hy3 hy'
  rcases h1 with h1 | h1
  ·rw [← h1]
   rcases h2 with h2 | h2
   ·rw [h2]; exact hyx
   ·exact htr _ _ _ h2 hyx
  ·rcases h2 with h2 | h2
   ·rw [h2]; exact htr _ _ _ hyx h1
   ·exact htr _ _ _ (htr _ _ _ h2 hyx) h1
end
theorem andB (p q : Prop) [Decidable p] [Decidable q] : (bif decide p then some (decide q) else some false) = some (decide (p ∧ q)) := by
 by_cases hp : p <;> by_cases hq : q <;> simp [hp, hq]
section
variable {g : Int → Int → Option Int} {lo : Int → Int → Prop}
theorem symm (htr : ∀ x y z, lo x y → lo y z → lo x z) : ∀ (fuel : Nat) (A L R C : List Int), L.length + R.length < fuel → 1 ≤ L.length → 1 ≤ R.length → L.Pairwise lo → R.Pairwise lo → GOk g lo L R → A.length + L.length + R.length + C.length < 100000000000000000 →
  ∃ M, slices_symMergeCmpFunc_int_R fuel (A ++ L ++ R ++ C) (A.length : Int) ((A.length + L.length : Nat) : Int) ((A.length + L.length + R.length : Nat) : Int) g = some (A ++ M ++ C) ∧ M.Perm (L ++ R) ∧ M.Pairwise lo
 | 0, _, _, _, _, h, _, _, _, _, _, _ => absurd h (Nat.not_lt_zero _)
 | fuel + 1, A, L, R, C, hf, hl, hr, hL, hR, hg, hz => by
  show ∃ M, slices_symMergeCmpFunc_int_S (slices_symMergeCmpFunc_int_R fuel) _ _ _ _ g = _ ∧ _
  unfold slices_symMergeCmpFunc_int_S
  have w1 : W (((A.length + L.length : Nat) : Int) - (A.length : Int)) = (L.length : Int) := by rw [W_of ⟨by omega, by omega⟩]; omega
  have w2 : W (((A.length + L.length + R.length : Nat) : Int) - ((A.length + L.length : Nat) : Int)) = (R.length : Int) := by rw [W_of ⟨by omega, by omega⟩]; omega
  rw [w1, w2]
  by_cases h1 : L.length = 1
  ·obtain ⟨x, rfl⟩ := List.length_eq_one_iff.1 h1
   obtain ⟨t, t1, t2, t3⟩ := symm_one htr A C R x hR hg (by simp at hz; omega)
   refine ⟨R.take (t - (A.length + 1)) ++ x :: R.drop (t - (A.length + 1)), ?_, ?_, t3⟩
   ·rw [show ((([x] : List Int).length : Int) == 1) = true by simp, cond_true]
    simp only [List.length_singleton] at t1 t2 ⊢
    rw [t1, Option.bind_some, t2, Option.bind_some]
   ·have hsp : R.take (t - (A.length + 1)) ++ R.drop (t - (A.length + 1)) = R := List.take_append_drop _ _
    have := List.perm_middle (a := x) (l₁ := R.take (t - (A.length + 1))) (l₂ := R.drop (t - (A.length + 1)))
    rw [hsp] at this
    exact this
  ·rw [show ((L.length : Int) == 1) = false by rw [int_beq]; exact decide_eq_false (by omega), cond_false]
   by_cases h2 : R.length = 1
   ·obtain ⟨y, rfl⟩ := List.length_eq_one_iff.1 h2
    obtain ⟨t, t1, t2, t3⟩ := symm_last htr A C L y hL hg (by simp at hz; omega)
    refine ⟨L.take (t - A.length) ++ y :: L.drop (t - A.length), ?_, ?_, t3⟩
    ·rw [show ((([y] : List Int).length : Int) == 1) = true by simp, cond_true]
     rw [t1, Option.bind_some, t2, Option.bind_some]
    ·have hsp : L.take (t - A.length) ++ L.drop (t - A.length) = L := List.take_append_drop _ _
     have := List.perm_middle (a := y) (l₁ := L.take (t - A.length)) (l₂ := L.drop (t - A.length))
     rw [hsp] at this
     exact this.trans (List.perm_append_singleton y L).symm
   ·rw [show ((R.length : Int) == 1) = false by rw [int_beq]; exact decide_eq_false (by omega), cond_false]
    obtain ⟨a, ha⟩ : ∃ a, a = A.length := ⟨_, rfl⟩
    obtain ⟨m, hm⟩ : ∃ m, m = A.length + L.length := ⟨_, rfl⟩
    obtain ⟨b, hb⟩ : ∃ b, b = A.length + L.length + R.length := ⟨_, rfl⟩
    obtain ⟨mid, hmid⟩ : ∃ mid, mid = (a + b) / 2 := ⟨_, rfl⟩
    rw [← hb, ← hm, ← ha]
    simp only [half_eq a b (by omega), ← hmid]
    obtain ⟨s0, r0, hsr, hcase⟩ : ∃ s0 r0 : Nat, (bif decide ((mid : Int) < (m : Int)) then some ((W ((W ((mid : Int) + (m : Int))) - (b : Int))), (mid : Int)) else some ((a : Int), (m : Int))) = some ((s0 : Int), (r0 : Int)) ∧ ((mid < m ∧ s0 + b = mid + m ∧ r0 = mid) ∨ (m ≤ mid ∧ s0 = a ∧ r0 = m)) := by
     by_cases h : mid < m
     ·refine ⟨mid + m - b, mid, ?_, .inl ⟨h, by omega, rfl⟩⟩
      rw [decide_eq_true (by omega), cond_true, W_of (n := (mid : Int) + (m : Int)) ⟨by omega, by omega⟩, W_of ⟨by omega, by omega⟩]
      congr 2
      omega
     ·refine ⟨a, m, ?_, .inr ⟨by omega, rfl, rfl⟩⟩
      rw [decide_eq_false (by omega), cond_false]
    rw [hsr, Option.bind_some]
    obtain ⟨t, t1, t2, t3, t4, t5, t6, t7, t8, t9⟩ := symm_border htr A L R C hL hR hg hz hl hr a m b mid s0 r0 ha hm hb hmid hcase
    simp only [t1, Option.bind_some]
    have wen : W ((W ((mid : Int) + (m : Int))) - (t : Int)) = ((mid + m - t : Nat) : Int) := by
     rw [W_of (n := (mid : Int) + (m : Int)) ⟨by omega, by omega⟩, W_of ⟨by omega, by omega⟩]; omega
    simp only [wen, andB, Option.bind_some]
    obtain ⟨en, hen⟩ : ∃ en, en = mid + m - t := ⟨_, rfl⟩
    rw [← hen] at t6 t7 t8 t9 ⊢
    obtain ⟨L1, hL1⟩ : ∃ l, l = L.take (t - a) := ⟨_, rfl⟩
    obtain ⟨L2, hL2⟩ : ∃ l, l = L.drop (t - a) := ⟨_, rfl⟩
    obtain ⟨R1, hR1⟩ : ∃ l, l = R.take (en - m) := ⟨_, rfl⟩
    obtain ⟨R2, hR2⟩ : ∃ l, l = R.drop (en - m) := ⟨_, rfl⟩
    rw [← hL1, ← hR2] at t8
    rw [← hR1, ← hL2] at t9
    have eL : L1 ++ L2 = L := by rw [hL1, hL2]; exact List.take_append_drop _ _
    have eR : R1 ++ R2 = R := by rw [hR1, hR2]; exact List.take_append_drop _ _
    have lL1 : L1.length = t - a := by rw [hL1]; simp; omega
    have lL2 : L2.length = m - t := by rw [hL2]; simp; omega
    have lR1 : R1.length = en - m := by rw [hR1]; simp; omega
    have lR2 : R2.length = b - en := by rw [hR2]; simp; omega
    have pL : L1.Pairwise lo ∧ L2.Pairwise lo ∧ ∀ x ∈ L1, ∀ y ∈ L2, lo x y := by rw [← List.pairwise_append, eL]; exact hL
    have pR : R1.Pairwise lo ∧ R2.Pairwise lo ∧ ∀ x ∈ R1, ∀ y ∈ R2, lo x y := by rw [← List.pairwise_append, eR]; exact hR
    have mL1 : ∀ x ∈ L1, x ∈ L := fun x hx => by rw [← eL]; exact List.mem_append_left _ hx
    have mL2 : ∀ x ∈ L2, x ∈ L := fun x hx => by rw [← eL]; exact List.mem_append_right _ hx
    have mR1 : ∀ x ∈ R1, x ∈ R := fun x hx => by rw [← eR]; exact List.mem_append_left _ hx
    have mR2 : ∀ x ∈ R2, x ∈ R := fun x hx => by rw [← eR]; exact List.mem_append_right _ hx
    have eD : A ++ L ++ R ++ C = (A ++ L1) ++ L2 ++ R1 ++ (R2 ++ C) := by rw [← eL, ← eR]; simp
    -- the turn
    have hrot : (bif decide ((t : Int) < (m : Int) ∧ (m : Int) < (en : Int)) then (slices_rotateCmpFunc_int (A ++ L ++ R ++ C) (t : Int) (m : Int) (en : Int) g).bind (fun v => some v) else some (A ++ L ++ R ++ C)) = some (A ++ L1 ++ R1 ++ (L2 ++ R2 ++ C)) := by
     by_cases h : t < m ∧ m < en
     ·rw [decide_eq_true (by omega), cond_true, eD]
      rw [rotate_ok (A ++ L1) L2 R1 (R2 ++ C) g (by omega) (by omega) (by simp; omega) (by simp; omega) (by simp; omega) (by simp; omega)]
      simp
     ·rw [decide_eq_false (by omega), cond_false, eD]
      have : L2 = [] ∨ R1 = [] := by
       by_cases h' : t < m
       ·right; exact List.eq_nil_of_length_eq_zero (by omega)
       ·left; exact List.eq_nil_of_length_eq_zero (by omega)
      rcases this with e | e <;> rw [e] <;> simp
    rw [hrot, Option.bind_some]
    -- the first half
    have hfst : ∃ M1, (bif decide ((a : Int) < (t : Int) ∧ (t : Int) < (mid : Int)) then (slices_symMergeCmpFunc_int_R fuel (A ++ L1 ++ R1 ++ (L2 ++ R2 ++ C)) (a : Int) (t : Int) (mid : Int) g).bind (fun v => some v) else some (A ++ L1 ++ R1 ++ (L2 ++ R2 ++ C))) = some (A ++ M1 ++ (L2 ++ R2 ++ C)) ∧ M1.Perm (L1 ++ R1) ∧ M1.Pairwise lo := by
     by_cases h : a < t ∧ t < mid
     ·rw [decide_eq_true (by omega), cond_true]
      obtain ⟨M1, q1, q2, q3⟩ := symm htr fuel A L1 R1 (L2 ++ R2 ++ C) (by omega) (by omega) (by omega) pL.1 pR.1 (hg.sub mL1 mR1) (by simp; omega)
      refine ⟨M1, ?_, q2, q3⟩
      rw [← ha, show a + L1.length = t by omega, show t + R1.length = mid by omega] at q1
      rw [q1]; rfl
     ·rw [decide_eq_false (by omega), cond_false]
      have : L1 = [] ∨ R1 = [] := by
       by_cases h' : a < t
       ·right; exact List.eq_nil_of_length_eq_zero (by omega)
       ·left; exact List.eq_nil_of_length_eq_zero (by omega)
      refine ⟨L1 ++ R1, by simp, .refl _, ?_⟩
      rcases this with e | e
      ·rw [e]; exact pR.1
      ·rw [e, List.append_nil]; exact pL.1
    obtain ⟨M1, q1, q2, q3⟩ := hfst
    rw [q1, Option.bind_some]
    have lM1 : M1.length = L1.length + R1.length := by rw [q2.length_eq, List.length_append]
    -- the second half
    have eD2 : A ++ M1 ++ (L2 ++ R2 ++ C) = (A ++ M1) ++ L2 ++ R2 ++ C := by simp
    have hsnd : ∃ M2, (bif decide ((mid : Int) < (en : Int) ∧ (en : Int) < (b : Int)) then (slices_symMergeCmpFunc_int_R fuel (A ++ M1 ++ (L2 ++ R2 ++ C)) (mid : Int) (en : Int) (b : Int) g).bind (fun v => some v) else some (A ++ M1 ++ (L2 ++ R2 ++ C))) = some (A ++ (M1 ++ M2) ++ C) ∧ M2.Perm (L2 ++ R2) ∧ M2.Pairwise lo := by
     by_cases h : mid < en ∧ en < b
     ·rw [decide_eq_true (by omega), cond_true]
      obtain ⟨M2, p1, p2, p3⟩ := symm htr fuel (A ++ M1) L2 R2 C (by omega) (by omega) (by omega) pL.2.1 pR.2.1 (hg.sub mL2 mR2) (by simp; omega)
      refine ⟨M2, ?_, p2, p3⟩
      have lA : (A ++ M1).length = mid := by simp; omega
      rw [lA, show mid + L2.length = en by omega, show en + R2.length = b by omega] at p1
      rw [eD2, p1, Option.bind_some]
      simp
     ·rw [decide_eq_false (by omega), cond_false]
      have : L2 = [] ∨ R2 = [] := by
       by_cases h' : mid < en
       ·right; exact List.eq_nil_of_length_eq_zero (by omega)
       ·left; exact List.eq_nil_of_length_eq_zero (by omega)
      refine ⟨L2 ++ R2, by simp, .refl _, ?_⟩
      rcases this with e | e
      ·rw [e]; exact pR.2.1
      ·rw [e, List.append_nil]; exact pL.2.1
    obtain ⟨M2, p1, p2, p3⟩ := hsnd
    refine ⟨M1 ++ M2, p1, ?_, ?_⟩
    ·refine (q2.append p2).trans ?_
     rw [← eL, ← eR]
     have : (L1 ++ R1 ++ (L2 ++ R2)).Perm (L1 ++ L2 ++ (R1 ++ R2)) := by
      rw [List.append_assoc, List.append_assoc]
      refine List.Perm.append_left L1 ?_
      rw [← List.append_assoc, ← List.append_assoc]
      exact List.Perm.append_right R2 List.perm_append_comm
     exact this
    ·rw [List.pairwise_append]
     refine ⟨q3, p3, fun x hx y hy => ?_⟩
     have hx' := q2.mem_iff.1 hx
     have hy' := p2.mem_iff.1 hy
     rcases List.mem_append.1 hx' with hx' | hx' <;> rcases List.mem_append.1 hy' with hy' | hy'
     ·exact pL.2.2 x hx' y hy'
     ·exact t8 x hx' y hy'
     ·exact t9 x hx' y hy'
     ·exact pR.2.2 x hx' y hy'
end
/-- What is asked of the order between a word and a later one. -/
def PairOk (g : Int → Int → Option Int) (lo : Int → Int → Prop) (x y : Int) : Prop := (∃ c, g y x = some c ∧ (c < 0 ↔ lo y x)) ∧ (¬ lo y x → lo x y)
section
variable {g : Int → Int → Option Int} {lo : Int → Int → Prop}
theorem ins_L2_ok (htr : ∀ x y z, lo x y → lo y z → lo x z) (A : List Int) (y : Int) : ∀ (n : Nat) (S T : List Int) (fuel : Nat), S.length = n → n < fuel → A.length + n + T.length < 100000000000000000 → S.Pairwise lo → (∀ x ∈ S, PairOk g lo x y) →
  ∃ S', slices_insertionSortCmpFunc_int_L2 (A.length : Int) g fuel ((A.length + n : Nat) : Int) (A ++ S ++ y :: T) = some (A ++ S' ++ T) ∧ S'.Perm (S ++ [y]) ∧ S'.Pairwise lo
 | 0, S, T, 0, _, h, _, _, _ => absurd h (Nat.not_lt_zero _)
 | n + 1, S, T, 0, _, h, _, _, _ => absurd h (Nat.not_lt_zero _)
 | 0, S, T, fuel + 1, hn, _, _, _, _ => by
  have : S = [] := List.eq_nil_of_length_eq_zero hn
  subst this
  refine ⟨[y], ?_, .refl _, List.pairwise_singleton _ _⟩
  rw [slices_insertionSortCmpFunc_int_L2, decide_eq_false (by omega), cond_false, Option.bind_some, cond_false]
  simp
 | n + 1, S, T, fuel + 1, hn, hf, hz, hS, hp => by
  obtain ⟨l, z, rfl⟩ : ∃ l z, S = l ++ [z] := ⟨S.dropLast, S.getLast (by intro e; rw [e] at hn; simp at hn), (List.dropLast_concat_getLast _).symm⟩
  simp only [List.length_append, List.length_cons, List.length_nil] at hn
  obtain ⟨⟨c, hc, hc2⟩, hnl⟩ := hp z (by simp)
  have w1 : W (((A.length + (n + 1) : Nat) : Int) - 1) = ((A.length + n : Nat) : Int) := by rw [W_of ⟨by omega, by omega⟩]; omega
  have e1 : A ++ (l ++ [z]) ++ y :: T = (A ++ l) ++ z :: (y :: T) := by simp
  have e2 : A ++ (l ++ [z]) ++ y :: T = (A ++ l ++ [z]) ++ y :: T := by simp
  have l1 : ((A.length + n : Nat) : Int) = ((A ++ l).length : Int) := by simp; omega
  have l2 : ((A.length + (n + 1) : Nat) : Int) = ((A ++ l ++ [z]).length : Int) := by simp; omega
  have i1 : idxL (A ++ (l ++ [z]) ++ y :: T) ((A.length + n : Nat) : Int) = some z := by rw [e1]; exact ixA _ _ _ l1
  have i2 : idxL (A ++ (l ++ [z]) ++ y :: T) ((A.length + (n + 1) : Nat) : Int) = some y := by rw [e2]; exact ixA _ _ _ l2
  have pS := List.pairwise_append.1 hS
  rw [slices_insertionSortCmpFunc_int_L2, decide_eq_true (by omega), cond_true, w1, i2, Option.bind_some, i1, Option.bind_some, hc, Option.bind_some, Option.bind_some]
  by_cases hlt : c < 0
  ·rw [decide_eq_true hlt, cond_true, Option.bind_some, Option.bind_some]
   rw [show setL (A ++ (l ++ [z]) ++ y :: T) ((A.length + (n + 1) : Nat) : Int) z = (A ++ l) ++ z :: (z :: T) by rw [e2, stA _ _ _ _ l2]; simp]
   rw [ixA _ _ _ l1, Option.bind_some, stA _ _ _ _ l1]
   obtain ⟨S', q1, q2, q3⟩ := ins_L2_ok htr A y n l (z :: T) fuel (by omega) (by omega) (by simp; omega) pS.1 (fun x hx => hp x (List.mem_append_left _ hx))
   refine ⟨S' ++ [z], by rw [q1]; simp, ?_, ?_⟩
   ·refine (q2.append_right [z]).trans ?_
    rw [List.append_assoc, List.append_assoc]
    exact List.Perm.append_left l List.perm_append_comm
   ·rw [List.pairwise_append]
    refine ⟨q3, List.pairwise_singleton _ _, fun x hx w hw => ?_⟩
    rw [List.mem_singleton.1 hw]
    rcases List.mem_append.1 (q2.mem_iff.1 hx) with hx | hx
    ·exact pS.2.2 x hx z (by simp)
    ·rw [List.mem_singleton.1 hx]; exact hc2.1 hlt
  ·rw [decide_eq_false hlt, cond_false]
   refine ⟨l ++ [z] ++ [y], by simp, .refl _, ?_⟩
   have hzy := hnl (fun h => hlt (hc2.2 h))
   rw [List.pairwise_append]
   refine ⟨hS, List.pairwise_singleton _ _, fun x hx w hw => ?_⟩
   rw [List.mem_singleton.1 hw]
   rcases List.mem_append.1 hx with hx | hx
   ·exact htr _ _ _ (pS.2.2 x hx z (by simp)) hzy
   ·rw [List.mem_singleton.1 hx]; exact hzy
theorem ins_L1_ok (htr : ∀ x y z, lo x y → lo y z → lo x z) (A C : List Int) : ∀ (U S : List Int) (fuel : Nat), U.length < fuel → A.length + S.length + U.length + C.length < 100000000000000000 → S.Pairwise lo → (∀ x ∈ S, ∀ y ∈ U, PairOk g lo x y) → U.Pairwise (PairOk g lo) →
  ∃ S', slices_insertionSortCmpFunc_int_L1 (A.length : Int) ((A.length + S.length + U.length : Nat) : Int) g fuel ((A.length + S.length : Nat) : Int) (A ++ S ++ U ++ C) = some (A ++ S' ++ C) ∧ S'.Perm (S ++ U) ∧ S'.Pairwise lo
 | [], S, 0, h, _, _, _, _ => absurd h (Nat.not_lt_zero _)
 | y :: U, S, 0, h, _, _, _, _ => absurd h (Nat.not_lt_zero _)
 | [], S, fuel + 1, _, _, hS, _, _ => by
  refine ⟨S, ?_, by simp, hS⟩
  rw [slices_insertionSortCmpFunc_int_L1, decide_eq_false (by simp), cond_false]
  simp
 | y :: U, S, fuel + 1, hf, hz, hS, hSU, hU => by
  simp only [List.length_cons] at hf hz ⊢
  have pU := List.pairwise_cons.1 hU
  obtain ⟨S1, q1, q2, q3⟩ := ins_L2_ok htr A y S.length S (U ++ C) F0 rfl (by have := F0_gt; omega) (by simp; omega) hS (fun x hx => hSU x hx y (by simp))
  have e : A ++ S ++ y :: U ++ C = A ++ S ++ y :: (U ++ C) := by simp
  rw [slices_insertionSortCmpFunc_int_L1, decide_eq_true (by omega), cond_true, e, q1, Option.bind_some]
  have lS : S1.length = S.length + 1 := by rw [q2.length_eq]; simp
  have w : W (((A.length + S.length : Nat) : Int) + 1) = ((A.length + S1.length : Nat) : Int) := by rw [W_of ⟨by omega, by omega⟩]; omega
  obtain ⟨S', r1, r2, r3⟩ := ins_L1_ok htr A C U S1 fuel (by omega) (by omega) q3 (fun x hx z hz => by
   rcases List.mem_append.1 (q2.mem_iff.1 hx) with hx | hx
   ·exact hSU x hx z (List.mem_cons_of_mem _ hz)
   ·rw [List.mem_singleton.1 hx]; exact pU.1 z hz) pU.2
  refine ⟨S', ?_, ?_, r3⟩
  ·rw [w, show A.length + S.length + (U.length + 1) = A.length + S1.length + U.length by omega, ← r1]
   simp
  ·refine r2.trans ((q2.append_right U).trans ?_)
   simp
theorem ins_ok (htr : ∀ x y z, lo x y → lo y z → lo x z) (A X C : List Int) {a b : Int} (ha : a = A.length) (hb : b = ((A.length + X.length : Nat) : Int)) (hz : A.length + X.length + C.length < 100000000000000000) (hX : X.Pairwise (PairOk g lo)) :
  ∃ S', slices_insertionSortCmpFunc_int (A ++ X ++ C) a b g = some (A ++ S' ++ C) ∧ S'.Perm X ∧ S'.Pairwise lo := by
 have hF := F0_gt
 unfold slices_insertionSortCmpFunc_int
 have w : W (a + 1) = ((A.length + 1 : Nat) : Int) := by rw [ha, W_of ⟨by omega, by omega⟩]; omega
 rw [w, ha, hb]
 cases X with
 | nil =>
  refine ⟨[], ?_, .refl _, List.Pairwise.nil⟩
  obtain ⟨k, hk⟩ : ∃ k, F0 = k + 1 := ⟨F0 - 1, by omega⟩
  rw [hk, slices_insertionSortCmpFunc_int_L1, decide_eq_false (by simp; omega), cond_false]
  rfl
 | cons x U =>
  have pU := List.pairwise_cons.1 hX
  simp only [List.length_cons] at hz
  obtain ⟨S', r1, r2, r3⟩ := ins_L1_ok htr A C U [x] F0 (by omega) (by simp; omega) (List.pairwise_singleton _ _) (fun z hz y hy => by rw [List.mem_singleton.1 hz]; exact pU.1 y hy) pU.2
  refine ⟨S', ?_, r2, r3⟩
  have r4 : slices_insertionSortCmpFunc_int_L1 (A.length : Int) ((A.length + 1 + U.length : Nat) : Int) g F0 ((A.length + 1 : Nat) : Int) (A ++ [x] ++ U ++ C) = some (A ++ S' ++ C) := r1
  rw [show A.length + (x :: U).length = A.length + 1 + U.length by simp; omega, show A ++ x :: U ++ C = A ++ [x] ++ U ++ C by simp, r4, Option.bind_some]
end
section
variable {g : Int → Int → Option Int} {lo : Int → Int → Prop}
/-- Blocks, each sorted, in order. -/
def Blk (g : Int → Int → Option Int) (lo : Int → Int → Prop) (Bs : List (List Int)) : Prop := (∀ B ∈ Bs, B.Pairwise lo) ∧ Bs.Pairwise (GOk g lo)
theorem flen {k : Nat} : ∀ {Bs : List (List Int)}, (∀ B ∈ Bs, B.length = k) → Bs.flatten.length = Bs.length * k
 | [], _ => by simp
 | B :: Bs, h => by
  have ih := flen (Bs := Bs) (fun C hC => h C (List.mem_cons_of_mem _ hC))
  rw [List.flatten_cons, List.length_append, ih, h B (List.mem_cons_self ..), List.length_cons, Nat.add_mul]
  omega
theorem flat1 (Bs : List (List Int)) (B : List Int) : (Bs ++ [B]).flatten = Bs.flatten ++ B := by simp
theorem Blk.snoc {Bs : List (List Int)} {B : List Int} (h : Blk g lo Bs) (hB : B.Pairwise lo) (hg : ∀ C ∈ Bs, GOk g lo C B) : Blk g lo (Bs ++ [B]) := by
 refine ⟨fun C hC => ?_, ?_⟩
 ·rcases List.mem_append.1 hC with hC | hC
  ·exact h.1 C hC
  ·rw [List.mem_singleton.1 hC]; exact hB
 ·rw [List.pairwise_append]
  exact ⟨h.2, List.pairwise_singleton _ _, fun C hC D hD => by rw [List.mem_singleton.1 hD]; exact hg C hC⟩
theorem Blk.merge {U V : List (List Int)} {L R M : List Int} (h : Blk g lo (U ++ L :: R :: V)) (hp : M.Perm (L ++ R)) (hM : M.Pairwise lo) : Blk g lo (U ++ M :: V) := by
 obtain ⟨h1, h2⟩ := h
 rw [List.pairwise_append, List.pairwise_cons, List.pairwise_cons] at h2
 obtain ⟨p1, ⟨p2, p3, p4⟩, p5⟩ := h2
 refine ⟨fun C hC => ?_, ?_⟩
 ·rcases List.mem_append.1 hC with hC | hC
  ·exact h1 C (List.mem_append_left _ hC)
  ·rcases List.mem_cons.1 hC with e | hC
   ·rw [e]; exact hM
   ·exact h1 C (List.mem_append_right _ (List.mem_cons_of_mem _ (List.mem_cons_of_mem _ hC)))
 ·rw [List.pairwise_append, List.pairwise_cons]
  refine ⟨p1, ⟨fun C hC x hx y hy => ?_, p4⟩, fun C hC D hD x hx y hy => ?_⟩
  ·rcases List.mem_append.1 (hp.mem_iff.1 hx) with hx | hx
   ·exact p2 C (List.mem_cons_of_mem _ hC) x hx y hy
   ·exact p3 C hC x hx y hy
  ·rcases List.mem_cons.1 hD with e | hD
   ·rw [e] at hy
    rcases List.mem_append.1 (hp.mem_iff.1 hy) with hy | hy
    ·exact p5 C hC L (by simp) x hx y hy
    ·exact p5 C hC R (by simp) x hx y hy
   ·exact p5 C hC D (List.mem_cons_of_mem _ (List.mem_cons_of_mem _ hD)) x hx y hy
theorem Blk.gok {U V : List (List Int)} {L R : List Int} (h : Blk g lo (U ++ L :: R :: V)) : L.Pairwise lo ∧ R.Pairwise lo ∧ GOk g lo L R := by
 obtain ⟨h1, h2⟩ := h
 rw [List.pairwise_append, List.pairwise_cons] at h2
 exact ⟨h1 L (by simp), h1 R (by simp), h2.2.1.1 R (by simp)⟩
theorem stab_L1 (htr : ∀ x y z, lo x y → lo y z → lo x z) (n : Nat) (hn : n < 10000000000000000) : ∀ (fuel : Nat) (Bs : List (List Int)) (X : List Int), X.length < fuel → Bs.flatten.length + X.length = n → (∀ B ∈ Bs, B.length = 20) → Blk g lo Bs → (∀ B ∈ Bs, GOk g lo B X) → X.Pairwise (PairOk g lo) →
  ∃ Bs' Z, slices_stableCmpFunc_int_L1 (n : Int) g fuel (Bs.flatten.length : Int) ((Bs.flatten.length + 20 : Nat) : Int) (Bs.flatten ++ X) = some ((Bs'.flatten.length : Int), Bs'.flatten ++ Z) ∧ Z.length < 20 ∧ (∀ B ∈ Bs', B.length = 20) ∧ Blk g lo Bs' ∧ (∀ B ∈ Bs', GOk g lo B Z) ∧ Z.Pairwise (PairOk g lo) ∧ (Bs'.flatten ++ Z).Perm (Bs.flatten ++ X)
 | 0, _, _, h, _, _, _, _, _ => absurd h (Nat.not_lt_zero _)
 | fuel + 1, Bs, X, hf, hsum, h20, hB, hG, hX => by
  rw [slices_stableCmpFunc_int_L1]
  by_cases h : 20 ≤ X.length
  ·rw [decide_eq_true (by omega), cond_true]
   have hsp : X.take 20 ++ X.drop 20 = X := List.take_append_drop _ _
   have l1 : (X.take 20).length = 20 := by simp; omega
   have l2 : (X.drop 20).length = X.length - 20 := by simp
   have pX := hX
   rw [← hsp, List.pairwise_append] at pX
   obtain ⟨S', q1, q2, q3⟩ := ins_ok htr Bs.flatten (X.take 20) (X.drop 20) (a := (Bs.flatten.length : Int)) (b := ((Bs.flatten.length + 20 : Nat) : Int)) rfl (by omega) (by omega) pX.1
   rw [show Bs.flatten ++ X = Bs.flatten ++ X.take 20 ++ X.drop 20 by rw [List.append_assoc, hsp], q1, Option.bind_some]
   have lS : S'.length = 20 := by rw [q2.length_eq, l1]
   have lF : (Bs ++ [S']).flatten.length = Bs.flatten.length + 20 := by rw [flat1, List.length_append, lS]
   obtain ⟨Bs', Z, r1, r2, r3, r4, r5, r6, r7⟩ := stab_L1 htr n hn fuel (Bs ++ [S']) (X.drop 20) (by omega) (by omega) (fun B hB' => by
    rcases List.mem_append.1 hB' with h' | h'
    ·exact h20 B h'
    ·rw [List.mem_singleton.1 h']; exact lS) (hB.snoc q3 (fun C hC x hx y hy => hG C hC x hx y (by
     rw [← hsp]; exact List.mem_append_left _ (q2.mem_iff.1 hy)))) (fun C hC x hx y hy => by
    rcases List.mem_append.1 hC with h' | h'
    ·exact hG C h' x hx y (List.mem_of_mem_drop hy)
    ·rw [List.mem_singleton.1 h'] at hx
     exact pX.2.2 x (q2.mem_iff.1 hx) y hy) pX.2.1
   refine ⟨Bs', Z, ?_, r2, r3, r4, r5, r6, r7.trans ?_⟩
   ·rw [← r1, lF, flat1]
    have : W (((Bs.flatten.length + 20 : Nat) : Int) + 20) = ((Bs.flatten.length + 20 + 20 : Nat) : Int) := by rw [W_of ⟨by omega, by omega⟩]; omega
    rw [this]
   ·rw [flat1]
    exact (List.Perm.append_left Bs.flatten q2).append_right _
  ·rw [decide_eq_false (by omega), cond_false]
   exact ⟨Bs, X, rfl, by omega, h20, hB, hG, hX, .refl _⟩
theorem stab_L3 (htr : ∀ x y z, lo x y → lo y z → lo x z) (n bs : Nat) (hn : n < 10000000000000000) (hbs : 1 ≤ bs) (hbn : bs < n) (Z : List Int) (hZ : Z.length < bs) : ∀ (fuel : Nat) (Ps Qs : List (List Int)), Qs.length < fuel → Ps.flatten.length + (Qs.flatten.length + Z.length) = n → (∀ P ∈ Ps, P.length = 2 * bs) → (∀ Q ∈ Qs, Q.length = bs) → Blk g lo (Ps ++ (Qs ++ [Z])) →
  ∃ Ps' Qs', slices_stableCmpFunc_int_L3 (n : Int) g (bs : Int) fuel (Ps.flatten.length : Int) ((Ps.flatten.length + 2 * bs : Nat) : Int) (Ps.flatten ++ (Qs.flatten ++ Z)) = some ((Ps'.flatten.length : Int), Ps'.flatten ++ (Qs'.flatten ++ Z)) ∧ Qs'.length ≤ 1 ∧ (∀ P ∈ Ps', P.length = 2 * bs) ∧ (∀ Q ∈ Qs', Q.length = bs) ∧ Blk g lo (Ps' ++ (Qs' ++ [Z])) ∧ (Ps'.flatten ++ (Qs'.flatten ++ Z)).Perm (Ps.flatten ++ (Qs.flatten ++ Z))
 | 0, _, _, h, _, _, _, _ => absurd h (Nat.not_lt_zero _)
 | fuel + 1, Ps, Qs, hf, hsum, hP, hQ, hB => by
  rw [slices_stableCmpFunc_int_L3]
  have lQ := flen hQ
  by_cases h : Ps.flatten.length + 2 * bs ≤ n
  ·rw [decide_eq_true (by omega), cond_true]
   match Qs, hQ, hB, hsum, hf, lQ with
   | [], _, _, hsum, _, lQ =>
    rw [show ([] : List (List Int)).flatten.length = 0 from rfl] at hsum
    omega
   | [B], _, _, hsum, _, lQ =>
    rw [lQ, List.length_singleton] at hsum
    omega
   | L :: R :: V, hQ, hB, hsum, hf, lQ =>
    have lL := hQ L (by simp)
    have lR := hQ R (by simp)
    obtain ⟨g1, g2, g3⟩ := Blk.gok (U := Ps) (V := V ++ [Z]) (L := L) (R := R) hB
    have lV : (L :: R :: V).flatten.length = L.length + (R.length + V.flatten.length) := by simp
    obtain ⟨M, q1, q2, q3⟩ := symm htr F0 Ps.flatten L R (V.flatten ++ Z) (by have := F0_gt; omega) (by omega) (by omega) g1 g2 g3 (by rw [List.length_append]; omega)
    have e0 : Ps.flatten ++ ((L :: R :: V).flatten ++ Z) = Ps.flatten ++ L ++ R ++ (V.flatten ++ Z) := by simp
    have w : W ((Ps.flatten.length : Int) + (bs : Int)) = ((Ps.flatten.length + L.length : Nat) : Int) := by rw [W_of ⟨by omega, by omega⟩]; omega
    have w2 : W (((Ps.flatten.length + 2 * bs : Nat) : Int) + (W (2 * (bs : Int)))) = ((Ps.flatten.length + 2 * bs + 2 * bs : Nat) : Int) := by
     rw [W_of (n := 2 * (bs : Int)) ⟨by omega, by omega⟩, W_of ⟨by omega, by omega⟩]; omega
    have e1 : Ps.flatten.length + 2 * bs = Ps.flatten.length + L.length + R.length := by omega
    have run : slices_symMergeCmpFunc_int (Ps.flatten ++ ((L :: R :: V).flatten ++ Z)) (Ps.flatten.length : Int) (W ((Ps.flatten.length : Int) + (bs : Int))) ((Ps.flatten.length + 2 * bs : Nat) : Int) g = some (Ps.flatten ++ M ++ (V.flatten ++ Z)) := by
     rw [e0, w, e1]; exact q1
    rw [run, Option.bind_some, w2]
    have lM : M.length = 2 * bs := by rw [q2.length_eq, List.length_append]; omega
    have lF : (Ps ++ [M]).flatten.length = Ps.flatten.length + 2 * bs := by rw [flat1, List.length_append, lM]
    simp only [List.length_cons] at hf
    obtain ⟨Ps', Qs', r1, r2, r3, r4, r5, r6⟩ := stab_L3 htr n bs hn hbs hbn Z hZ fuel (Ps ++ [M]) V (by omega) (by omega) (fun P hP' => by
     rcases List.mem_append.1 hP' with h' | h'
     ·exact hP P h'
     ·rw [List.mem_singleton.1 h']; exact lM) (fun Q hQ' => hQ Q (by simp [hQ'])) (by
     have := Blk.merge (U := Ps) (V := V ++ [Z]) (L := L) (R := R) hB q2 q3
     simpa using this)
    refine ⟨Ps', Qs', ?_, r2, r3, r4, r5, r6.trans ?_⟩
    ·rw [← r1, lF, flat1]
    ·rw [flat1, e0]
     have := (List.Perm.append_left Ps.flatten q2).append_right (V.flatten ++ Z)
     refine this.trans ?_
     simp
  ·rw [decide_eq_false (by omega), cond_false]
   refine ⟨Ps, Qs, rfl, ?_, hP, hQ, hB, .refl _⟩
   apply Classical.byContradiction
   intro hc
   have : 2 * bs ≤ Qs.length * bs := Nat.mul_le_mul_right bs (by omega)
   omega
end
section
variable {g : Int → Int → Option Int} {lo : Int → Int → Prop}
theorem stab_L2 (htr : ∀ x y z, lo x y → lo y z → lo x z) (n : Nat) (hn : n < 10000000000000000) : ∀ (fuel bs : Nat) (Bs : List (List Int)) (Z : List Int), n - bs < fuel → 20 ≤ bs → bs ≤ 20000000000000000 → Bs.flatten.length + Z.length = n → (∀ B ∈ Bs, B.length = bs) → Z.length < bs → Blk g lo (Bs ++ [Z]) →
  ∃ M, slices_stableCmpFunc_int_L2 (n : Int) g fuel (bs : Int) (Bs.flatten ++ Z) = some M ∧ M.Perm (Bs.flatten ++ Z) ∧ M.Pairwise lo
 | 0, _, _, _, h, _, _, _, _, _, _ => absurd h (Nat.not_lt_zero _)
 | fuel + 1, bs, Bs, Z, hf, h20, hbb, hsum, hBs, hZ, hB => by
  rw [slices_stableCmpFunc_int_L2]
  have lB := flen hBs
  by_cases h : bs < n
  ·rw [decide_eq_true (by omega), cond_true]
   have w0 : W (2 * (bs : Int)) = ((([] : List (List Int)).flatten.length + 2 * bs : Nat) : Int) := by
    rw [show ([] : List (List Int)).flatten.length = 0 from rfl, W_of ⟨by omega, by omega⟩]; omega
   have hlen : Bs.length ≤ n := by
    have : Bs.length * 1 ≤ Bs.length * bs := Nat.mul_le_mul_left _ (by omega)
    omega
   obtain ⟨Ps, Qs, r1, r2, r3, r4, r5, r6⟩ := stab_L3 htr n bs hn (by omega) h Z hZ F0 [] Bs (by have := F0_gt; omega) (by rw [show ([] : List (List Int)).flatten.length = 0 from rfl]; omega) (fun P hP => by cases hP) hBs hB
   have r1' : slices_stableCmpFunc_int_L3 (n : Int) g (bs : Int) F0 0 (W (2 * (bs : Int))) (Bs.flatten ++ Z) = some ((Ps.flatten.length : Int), Ps.flatten ++ (Qs.flatten ++ Z)) := by rw [w0]; exact r1
   rw [r1', Option.bind_some]
   have r6' : (Ps.flatten ++ (Qs.flatten ++ Z)).Perm (Bs.flatten ++ Z) := r6
   have hl := r6'.length_eq
   simp only [List.length_append] at hl
   have w1 : W ((Ps.flatten.length : Int) + (bs : Int)) = ((Ps.flatten.length + bs : Nat) : Int) := by rw [W_of ⟨by omega, by omega⟩]; omega
   have w2 : W ((bs : Int) * 2) = ((2 * bs : Nat) : Int) := by rw [W_of ⟨by omega, by omega⟩]; omega
   simp only [w1, w2]
   match Qs, r2, r4, r5, r6', hl with
   | [], _, _, r5, r6', hl =>
    rw [show ([] : List (List Int)).flatten.length = 0 from rfl] at hl
    rw [decide_eq_false (by omega), cond_false]
    obtain ⟨M, q1, q2, q3⟩ := stab_L2 htr n hn fuel (2 * bs) Ps Z (by omega) (by omega) (by omega) (by omega) r3 (by omega) r5
    exact ⟨M, q1, q2.trans r6', q3⟩
   | [B], _, r4, r5, r6', hl =>
    have lBB := r4 B (by simp)
    have eB : [B].flatten = B := by simp
    rw [eB] at hl r6' ⊢
    by_cases hz : Ps.flatten.length + bs < n
    ·rw [decide_eq_true (by omega), cond_true]
     obtain ⟨g1, g2, g3⟩ := Blk.gok (U := Ps) (V := []) (L := B) (R := Z) r5
     obtain ⟨M, q1, q2, q3⟩ := symm htr F0 Ps.flatten B Z [] (by have := F0_gt; omega) (by omega) (by omega) g1 g2 g3 (by rw [List.length_nil]; omega)
     have run : slices_symMergeCmpFunc_int (Ps.flatten ++ (B ++ Z)) (Ps.flatten.length : Int) ((Ps.flatten.length + bs : Nat) : Int) (n : Int) g = some (Ps.flatten ++ M) := by
      have e1 : Ps.flatten ++ (B ++ Z) = Ps.flatten ++ B ++ Z ++ [] := by simp
      have e2 : Ps.flatten.length + bs = Ps.flatten.length + B.length := by omega
      have e3 : n = Ps.flatten.length + B.length + Z.length := by omega
      have e4 : slices_symMergeCmpFunc_int (Ps.flatten ++ B ++ Z ++ []) (Ps.flatten.length : Int) ((Ps.flatten.length + B.length : Nat) : Int) ((Ps.flatten.length + B.length + Z.length : Nat) : Int) g = some (Ps.flatten ++ M ++ []) := q1
      rw [e1, e2, e3, e4, List.append_nil]
     rw [run, Option.bind_some]
     have lM : M.length = B.length + Z.length := by rw [q2.length_eq, List.length_append]
     have hb := Blk.merge (U := Ps) (V := []) (L := B) (R := Z) r5 q2 q3
     obtain ⟨M', p1, p2, p3⟩ := stab_L2 htr n hn fuel (2 * bs) Ps M (by omega) (by omega) (by omega) (by omega) r3 (by omega) hb
     exact ⟨M', p1, p2.trans ((List.Perm.append_left Ps.flatten q2).trans r6'), p3⟩
    ·rw [decide_eq_false (by omega), cond_false]
     have hZ0 : Z = [] := List.eq_nil_of_length_eq_zero (by omega)
     subst hZ0
     have hb : Blk g lo (Ps ++ [B]) := by
      obtain ⟨b1, b2⟩ := r5
      refine ⟨fun C hC => b1 C ?_, ?_⟩
      ·rcases List.mem_append.1 hC with h' | h'
       ·exact List.mem_append_left _ h'
       ·rw [List.mem_singleton.1 h']; simp
      ·have : Ps ++ ([B] ++ [[]]) = (Ps ++ [B]) ++ [[]] := by simp
       rw [this, List.pairwise_append] at b2
       exact b2.1
     rw [List.append_nil]
     obtain ⟨M', p1, p2, p3⟩ := stab_L2 htr n hn fuel (2 * bs) Ps B (by omega) (by omega) (by omega) (by omega) r3 (by omega) hb
     rw [List.append_nil] at r6'
     exact ⟨M', p1, p2.trans r6', p3⟩
   | _ :: _ :: _, r2, _, _, _, _ => simp at r2
  ·rw [decide_eq_false (by omega), cond_false]
   refine ⟨_, rfl, .refl _, ?_⟩
   match Bs, hB, lB, hsum, hBs with
   | [], hB, _, _, _ => exact hB.1 Z (by simp)
   | [B], hB, _, hsum, hBs =>
    have hb := hBs B (by simp)
    have eB : [B].flatten = B := by simp
    rw [eB] at hsum ⊢
    have hZ0 : Z = [] := List.eq_nil_of_length_eq_zero (by omega)
    rw [hZ0, List.append_nil]
    exact hB.1 B (by simp)
   | A :: B :: V, hB, lB, hsum, hBs =>
    exfalso
    have h1 := hBs A (by simp)
    have h2 := hBs B (by simp)
    have : (A :: B :: V).flatten.length = A.length + (B.length + V.flatten.length) := by simp
    omega
/-- The stable sort, at any length. -/
theorem stable_ok (htr : ∀ x y z, lo x y → lo y z → lo x z) (D : List Int) (hn : D.length < 10000000000000000) (hD : D.Pairwise (PairOk g lo)) : ∃ M, slices_SortStableFunc_int D g = some M ∧ M.Perm D ∧ M.Pairwise lo := by
 have hF := F0_gt
 obtain ⟨Bs, Z, r1, r2, r3, r4, r5, r6, r7⟩ := stab_L1 htr D.length hn F0 [] D (by omega) (by rw [show ([] : List (List Int)).flatten.length = 0 from rfl]; omega) (fun B hB => by cases hB) ⟨fun B hB => (by cases hB), List.Pairwise.nil⟩ (fun B hB => by cases hB) hD
 have r1' : slices_stableCmpFunc_int_L1 (D.length : Int) g F0 0 20 D = some ((Bs.flatten.length : Int), Bs.flatten ++ Z) := r1
 have r7' : (Bs.flatten ++ Z).Perm D := r7
 have hl := r7'.length_eq
 rw [List.length_append] at hl
 obtain ⟨Z', q1, q2, q3⟩ := ins_ok htr Bs.flatten Z [] (a := (Bs.flatten.length : Int)) (b := (D.length : Int)) rfl (by omega) (by rw [List.length_nil]; omega) r6
 simp only [List.append_nil] at q1
 have lZ := q2.length_eq
 obtain ⟨M, p1, p2, p3⟩ := stab_L2 htr D.length hn F0 20 Bs Z' (by omega) (by omega) (by omega) (by omega) r3 (by omega) (r4.snoc q3 (fun C hC x hx y hy => r5 C hC x hx y (q2.mem_iff.1 hy)))
 refine ⟨M, ?_, p2.trans ((List.Perm.append_left Bs.flatten q2).trans r7'), p3⟩
 unfold slices_SortStableFunc_int slices_stableCmpFunc_int
 have p1' : slices_stableCmpFunc_int_L2 (D.length : Int) g F0 20 (Bs.flatten ++ Z') = some M := p1
 rw [r1', Option.bind_some]
 simp only [q1, p1', Option.bind_some]
end
theorem appL_ok' {α : Type} {a b : List α} (h : a.length + b.length ≤ 1099511627776) : appL a b = some (a ++ b) := by
 unfold appL; rw [if_pos h]
theorem subL_ok {α : Type} (l : List α) (lo hi : Nat) (h1 : lo ≤ hi) (h2 : hi ≤ l.length) : subL l (lo : Int) (hi : Int) = some ((l.take hi).drop lo) := by
 unfold subL; rw [if_pos ⟨by omega, by omega, by omega⟩]; simp
/-! ### The order of starts -/
def keyS (S : List Int) (i : Int) : Int := S.getD i.toNat 0
def loS (S : List Int) (x y : Int) : Prop := keyS S x < keyS S y ∨ (keyS S x = keyS S y ∧ x < y)
theorem loS_tr (S : List Int) : ∀ x y z, loS S x y → loS S y z → loS S x z := by
 intro x y z h1 h2
 unfold loS at *
 omega
theorem loS_asym (S : List Int) {x y : Int} (h : loS S x y) (h' : loS S y x) : x = y := by
 unfold loS at *
 omega
theorem idx_key (S : List Int) {i : Int} (h0 : 0 ≤ i) (h1 : i < S.length) : idxL S i = some (keyS S i) := by
 have hlt : i.toNat < S.length := by omega
 have e : i = ((i.toNat : Nat) : Int) := by omega
 unfold keyS
 rw [List.getD_eq_getElem?_getD, List.getElem?_eq_getElem hlt, Option.getD_some]
 have h2 : idxL S ((i.toNat : Nat) : Int) = some (S[i.toNat]) := idxL_ofNat (List.getElem?_eq_getElem hlt)
 rwa [← e] at h2
theorem cmp_some (a b : Int) : ∃ c, cmp_Compare_int a b = some c ∧ (c < 0 ↔ a < b) := by
 have h1 : ∀ x : Int, cmp_isNaN_int x = some false := fun x => by simp [cmp_isNaN_int, int_bne]
 unfold cmp_Compare_int
 rw [h1, h1]
 simp only [Option.bind_some, cond_false]
 by_cases h : a < b
 ·rw [decide_eq_true h, cond_true]; exact ⟨-1, rfl, by simp [h]⟩
 ·rw [decide_eq_false h, cond_false]
  by_cases h' : b < a
  ·rw [decide_eq_true h', cond_true]; exact ⟨1, rfl, by simp [h]⟩
  ·rw [decide_eq_false h', cond_false]; exact ⟨0, rfl, by simp [h]⟩
/-- The first numbers. -/
def upto (n : Nat) : List Int := (List.range n).map fun (i : Nat) => (i : Int)
theorem upto_succ (n : Nat) : upto (n + 1) = upto n ++ [(n : Int)] := by simp [upto, List.range_succ]
theorem upto_len (n : Nat) : (upto n).length = n := by simp [upto]
theorem upto_mem {n : Nat} {x : Int} (h : x ∈ upto n) : 0 ≤ x ∧ x < n := by
 unfold upto at h
 obtain ⟨i, hi, rfl⟩ := List.mem_map.1 h
 have := List.mem_range.1 hi
 omega
theorem upto_pw : ∀ n : Nat, (upto n).Pairwise (fun x y => x < y)
 | 0 => List.Pairwise.nil
 | n + 1 => by
  rw [upto_succ, List.pairwise_append]
  exact ⟨upto_pw n, List.pairwise_singleton _ _, fun x hx y hy => by rw [List.mem_singleton.1 hy]; exact (upto_mem hx).2⟩
theorem io_L1 : ∀ (xs : List Int) (n : Nat), n + xs.length ≤ 1000000000 → i_StartOrder_L1 xs (n : Int) (upto n) = some (upto (n + xs.length))
 | [], n, _ => rfl
 | x :: xs, n, h => by
  simp only [List.length_cons] at h
  rw [i_StartOrder_L1, appL_ok' (by rw [upto_len]; simp; omega), Option.bind_some, ← upto_succ]
  have := io_L1 xs (n + 1) (by omega)
  rw [show ((n : Int) + 1) = ((n + 1 : Nat) : Int) by omega, this]
  simp only [List.length_cons]
  congr 2
  omega
theorem i_order (s : TSchedule) (h : s.Starts.length ≤ 1048576) : ∃ M, i_StartOrder s = some M ∧ M.Perm (upto s.Starts.length) ∧ M.Pairwise (loS s.Starts) := by
 have h1 := io_L1 s.Starts 0 (by omega)
 have h1' : i_StartOrder_L1 s.Starts 0 ([] : List Int) = some (upto s.Starts.length) := by
  rw [Nat.zero_add] at h1; exact h1
 have hp : (upto s.Starts.length).Pairwise (PairOk (fun x0 x1 => i_StartOrder_c1 x0 x1 s) (loS s.Starts)) := by
  refine (upto_pw s.Starts.length).imp_of_mem (fun {x y} hx hy hxy => ?_)
  obtain ⟨x0, x1⟩ := upto_mem hx
  obtain ⟨y0, y1⟩ := upto_mem hy
  obtain ⟨c, hc, hc2⟩ := cmp_some (keyS s.Starts y) (keyS s.Starts x)
  refine ⟨⟨c, ?_, ?_⟩, fun hn => ?_⟩
  ·show i_StartOrder_c1 y x s = some c
   unfold i_StartOrder_c1
   rw [idx_key s.Starts y0 y1, Option.bind_some, idx_key s.Starts x0 x1, Option.bind_some, hc, Option.bind_some]
  ·rw [hc2]
   unfold loS
   omega
  ·unfold loS at *
   omega
 obtain ⟨M, q1, q2, q3⟩ := stable_ok (loS_tr s.Starts) (upto s.Starts.length) (by rw [upto_len]; omega) hp
 refine ⟨M, ?_, q2, q3⟩
 unfold i_StartOrder
 rw [h1', Option.bind_some, q1, Option.bind_some]
theorem so_L2 (s : TSchedule) (a : List Int) (x : Int) (n : Nat) (ha : ∀ y ∈ a, 0 ≤ y ∧ y < s.Starts.length) (hp : a.Pairwise (loS s.Starts)) (hl : a.length ≤ 1000000000) : ∀ (k fuel : Nat), k < fuel → k ≤ a.length → (∀ j y, k ≤ j → a[j]? = some y → x < keyS s.Starts y) →
  ∃ t : Nat, s_StartOrder_L2 s a x fuel (k : Int) = some (t : Int) ∧ t ≤ a.length ∧ (∀ j y, t ≤ j → a[j]? = some y → x < keyS s.Starts y) ∧ (∀ j y, j < t → a[j]? = some y → keyS s.Starts y ≤ x)
 | k, 0, h, _, _ => absurd h (Nat.not_lt_zero _)
 | 0, fuel + 1, _, hk, hs => by
  rw [s_StartOrder_L2, decide_eq_false (by omega), cond_false, Option.bind_some, cond_false]
  exact ⟨0, rfl, by omega, hs, fun j y h => by omega⟩
 | k + 1, fuel + 1, hf, hk, hs => by
  have hlt : k < a.length := by omega
  have hg : a[k]? = some a[k] := List.getElem?_eq_getElem hlt
  obtain ⟨y0, y1⟩ := ha a[k] (List.getElem_mem _)
  have w : W (((k + 1 : Nat) : Int) - 1) = (k : Int) := by rw [W_of ⟨by omega, by omega⟩]; omega
  rw [s_StartOrder_L2, decide_eq_true (by omega), cond_true, w, idxL_ofNat hg, Option.bind_some, idx_key s.Starts y0 y1, Option.bind_some, Option.bind_some]
  by_cases h : x < keyS s.Starts a[k]
  ·rw [decide_eq_true h, cond_true]
   refine so_L2 s a x n ha hp hl k fuel (by omega) (by omega) (fun j y hj hy => ?_)
   by_cases e : j = k
   ·subst e; rw [hg] at hy; cases hy; exact h
   ·exact hs j y (by omega) hy
  ·rw [decide_eq_false h, cond_false]
   refine ⟨k + 1, rfl, hk, hs, fun j y hj hy => ?_⟩
   by_cases e : j = k
   ·subst e; rw [hg] at hy; cases hy; omega
   ·have := pw_get hp (show j < k by omega) hy hg
    unfold loS at this
    omega
theorem so_L1 (s : TSchedule) (hs : s.Starts.length ≤ 1048576) : ∀ (xs : List Int) (n : Nat) (a : List Int), n + xs.length = s.Starts.length → s.Starts.drop n = xs → a.Perm (upto n) → a.Pairwise (loS s.Starts) →
  ∃ M, s_StartOrder_L1 s xs (n : Int) a = some M ∧ M.Perm (upto s.Starts.length) ∧ M.Pairwise (loS s.Starts)
 | [], n, a, h, _, hp, hw => by
  rw [List.length_nil, Nat.add_zero] at h
  rw [← h]
  exact ⟨a, rfl, hp, hw⟩
 | x :: xs, n, a, h, hd, hp, hw => by
  simp only [List.length_cons] at h
  have la : a.length = n := by rw [hp.length_eq, upto_len]
  have hx : keyS s.Starts (n : Int) = x := by
   unfold keyS
   rw [Int.toNat_natCast, List.getD_eq_getElem?_getD]
   have : s.Starts[n]? = some x := by
    have h2 := congrArg (fun l => l[0]?) hd
    simpa using h2
   rw [this]; rfl
  have hmem : ∀ y ∈ a, 0 ≤ y ∧ y < n := fun y hy => upto_mem (hp.mem_iff.1 hy)
  obtain ⟨t, t1, t2, t3, t4⟩ := so_L2 s a x n (fun y hy => by have := hmem y hy; omega) hw (by omega) a.length F0 (by have := F0_gt; omega) (Nat.le_refl _) (fun j y hj hy => by
   rw [List.getElem?_eq_none hj] at hy; cases hy)
  have hsp : a.take t ++ a.drop t = a := List.take_append_drop _ _
  have s1 : subL a 0 (t : Int) = some (a.take t) := by
   rw [show (0 : Int) = ((0 : Nat) : Int) from rfl, subL_ok a 0 t (by omega) t2]; rfl
  have s2 : subL a (t : Int) (a.length : Int) = some (a.drop t) := by
   rw [subL_ok a t a.length t2 (Nat.le_refl _), List.take_length]
  have lt1 : (a.take t).length = t := by simp; omega
  have lt2 : (a.drop t).length = a.length - t := by simp
  have hperm : (a.take t ++ [(n : Int)] ++ a.drop t).Perm (upto (n + 1)) := by
   rw [upto_succ]
   have e : a.take t ++ [(n : Int)] ++ a.drop t = a.take t ++ (n : Int) :: a.drop t := by simp
   rw [e]
   refine List.perm_middle.trans ?_
   rw [hsp]
   exact (List.Perm.cons _ hp).trans (List.perm_append_singleton _ _).symm
  have pa : (a.take t ++ a.drop t).Pairwise (loS s.Starts) := by rw [hsp]; exact hw
  rw [List.pairwise_append] at pa
  have hlo1 : ∀ y ∈ a.take t, loS s.Starts y (n : Int) := fun y hy => by
   obtain ⟨j, hj, rfl⟩ := List.getElem_of_mem hy
   rw [lt1] at hj
   have h1 := hmem _ (List.mem_of_mem_take hy)
   have h2 := t4 j a[j] hj (List.getElem?_eq_getElem (by omega))
   rw [List.getElem_take] at h1 ⊢
   unfold loS
   rw [hx]
   omega
  have hlo2 : ∀ y ∈ a.drop t, loS s.Starts (n : Int) y := fun y hy => by
   obtain ⟨j, hj, rfl⟩ := List.getElem_of_mem hy
   rw [lt2] at hj
   have h2 := t3 (t + j) a[t + j] (by omega) (List.getElem?_eq_getElem (by omega))
   rw [List.getElem_drop]
   unfold loS
   rw [hx]
   exact .inl h2
  have hpw : (a.take t ++ [(n : Int)] ++ a.drop t).Pairwise (loS s.Starts) := by
   rw [List.append_assoc, List.pairwise_append]
   refine ⟨pa.1, ?_, fun y hy z hz => ?_⟩
   ·rw [List.singleton_append, List.pairwise_cons]
    exact ⟨hlo2, pa.2.1⟩
   ·rw [List.singleton_append] at hz
    rcases List.mem_cons.1 hz with e | hz
    ·rw [e]; exact hlo1 y hy
    ·exact pa.2.2 y hy z hz
  obtain ⟨M, q1, q2, q3⟩ := so_L1 s hs xs (n + 1) (a.take t ++ [(n : Int)] ++ a.drop t) (by omega) (by
   have := congrArg List.tail hd
   simpa using this) hperm hpw
  refine ⟨M, ?_, q2, q3⟩
  rw [s_StartOrder_L1, t1, Option.bind_some, s1, Option.bind_some, appL_ok' (by simp; omega), Option.bind_some, List.nil_append, appL_ok' (by rw [lt1]; simp; omega), Option.bind_some, s2, Option.bind_some, appL_ok' (by rw [List.length_append, lt1, lt2]; simp; omega), Option.bind_some]
  rw [show ((n : Int) + 1) = ((n + 1 : Nat) : Int) by omega, q1]
theorem core_StartOrder (s : TSchedule) (hs : bTSchedule 1048576 s) : ∃ v, s_StartOrder s = some v ∧ i_StartOrder s = some v ∧ v.length ≤ 1048576 := by
 have hl : s.Starts.length ≤ 1048576 := hs.1
 obtain ⟨M, q1, q2, q3⟩ := i_order s hl
 obtain ⟨M', p1, p2, p3⟩ := so_L1 s hl s.Starts 0 [] (by omega) rfl (.refl _) List.Pairwise.nil
 have e : M' = M := List.Perm.eq_of_pairwise (fun a b _ _ h1 h2 => loS_asym s.Starts h1 h2) p3 q3 (p2.trans q2.symm)
 refine ⟨M, ?_, q1, by rw [q2.length_eq, upto_len]; exact hl⟩
 unfold s_StartOrder
 have p1' : s_StartOrder_L1 s s.Starts 0 ([] : List Int) = some M' := p1
 rw [p1', Option.bind_some, e]
end Go.Px.Ytiopmcdngjlgbaa
