/-
  PROVED: contracts of functions over pure values: CheckName, PriorityName, Overlap, and the functions that these call. No condition beyond those that each theorem names.
-/
import Derived.Test.YthdejnjjdihmfaaProg
import Derived.Test.YthdejnjjdihmfaaPx25
namespace Go.Px.Ythdejnjjdihmfaa
set_option linter.unusedSimpArgs false
set_option linter.unusedVariables false
open Go.Px Go.Proofs
theorem ok34 : okFn Try.prog 34 = true := by kernel_rfl
theorem ok35 : okFn Try.prog 35 = true := by kernel_rfl
theorem ok36 : okFn Try.prog 36 = true := by kernel_rfl
theorem ok37 : okFn Try.prog 37 = true := by kernel_rfl
theorem ok9 : okFn Try.prog 9 = true := by kernel_rfl
theorem elt65 : eltOf Try.prog 65 = some (9, 1, 16) := by kernel_rfl
theorem zer9 : zeroPV Try.prog 9 = some [.lit (.string ByteArray.empty)] := by kernel_rfl
theorem shp9 : shp Try.prog 9 = some (false, 1) := by kernel_rfl
theorem ok10 : okFn Try.prog 10 = true := by kernel_rfl
theorem zer66 : zeroPV Try.prog 66 = some [.lit (.string ByteArray.empty), .lit (.string ByteArray.empty), .lit (.string ByteArray.empty), .lit (.string ByteArray.empty)] := by kernel_rfl
theorem arr66 : arrOf Try.prog 66 = some (4, 1) := by kernel_rfl
theorem shp66 : shp Try.prog 66 = some (true, 4) := by kernel_rfl
theorem ok11 : okFn Try.prog 11 = true := by kernel_rfl
theorem ok12 : okFn Try.prog 12 = true := by kernel_rfl
theorem zer67 : zeroPV Try.prog 67 = some [.lit (.string ByteArray.empty), .lit (.string ByteArray.empty), .lit (.string ByteArray.empty), .lit (.string ByteArray.empty), .lit (.string ByteArray.empty)] := by kernel_rfl
theorem arr67 : arrOf Try.prog 67 = some (5, 1) := by kernel_rfl
theorem shp67 : shp Try.prog 67 = some (true, 5) := by kernel_rfl
theorem ok13 : okFn Try.prog 13 = true := by kernel_rfl
theorem elt26 : eltOf Try.prog 26 = some (3, 1, 8) := by kernel_rfl
theorem zer3 : zeroPV Try.prog 3 = some [.lit (.int .i64 0)] := by kernel_rfl
theorem shp3 : shp Try.prog 3 = some (false, 1) := by kernel_rfl
theorem ok14 : okFn Try.prog 14 = true := by kernel_rfl
theorem ok3 : okFn Try.prog 3 = true := by kernel_rfl
theorem ok4 : okFn Try.prog 4 = true := by kernel_rfl
theorem ok5 : okFn Try.prog 5 = true := by kernel_rfl
theorem l01In_pc (n lo hi : Int) : PC Try.prog 34 [int n, int lo, int hi] (bool (decide (lo ≤ n) && decide (n ≤ hi))) := by
  refine PC.start Try.func34 Try.ntmps34 rfl ok34 rfl ?_
  refine Run.seq ?_
  refine Run.reg ?_
  refine X.assign (by rfl) (by rfl) ?_
  refine X.nil ?_
  refine Run.seq ?_
  apply R.regB 6 
  ·
    refine X.move (by rfl) (by rfl) ?_
    refine X.move (by rfl) (by rfl) ?_
    refine X.bin (by rfl) (by rfl) (by rfl) (by rfl) (by intro h; cases h) (by rfl) ?_
    refine X.move (by rfl) (by rfl) ?_
    apply X.ifS (by rfl) (by rfl) (by rfl)
    · intro hb3
      refine X.move (by rfl) (by rfl) ?_
      refine X.gyes (by rfl) (by rfl) (by first | assumption | rfl | simp [*]) ?_
      refine X.move (by rfl) (by rfl) ?_
      refine X.gyes (by rfl) (by rfl) (by first | assumption | rfl | simp [*]) ?_
      refine X.bin (by rfl) (by rfl) (by rfl) (by rfl) (by intro h; cases h) (by rfl) ?_
      refine X.pickT (by rfl) (by first | assumption | rfl | simp [*]) (by rfl) (by rfl) ?_
      refine X.assign (by rfl) (by rfl) ?_
      exact X.end (by repeat (first | exact trivial | refine ⟨by rfl, ?_⟩)) (by repeat (first | exact trivial | refine ⟨by rfl, ?_⟩)) (by rfl) (by rfl)
    · intro hb3
      refine X.gno (by rfl) (by rfl) (by first | assumption | rfl | simp [*]) (by rfl) ?_
      refine X.gno (by rfl) (by rfl) (by first | assumption | rfl | simp [*]) (by rfl) ?_
      refine X.pickF (by rfl) (by first | assumption | rfl | simp [*]) (by rfl) (by rfl) ?_
      refine X.assign (by rfl) (by rfl) ?_
      exact X.end (by repeat (first | exact trivial | refine ⟨by rfl, ?_⟩)) (by repeat (first | exact trivial | refine ⟨by rfl, ?_⟩)) (by rfl) (by rfl)
  refine R.fin1 Try.results34 (by rfl) (by rfl) ?_
  cases h : decide (lo ≤ n) <;> simp [h]

theorem within_pc (n lo hi : Int) : PC Try.prog 35 [int n, int lo, int hi] (bool (decide (lo ≤ n) && decide (n ≤ hi))) := by
  refine PC.start Try.func35 Try.ntmps35 rfl ok35 rfl ?_
  refine Run.seq ?_
  refine Run.reg ?_
  refine X.assign (by rfl) (by rfl) ?_
  refine X.nil ?_
  refine Run.seq ?_
  apply R.regB 6 
  ·
    refine X.move (by rfl) (by rfl) ?_
    refine X.move (by rfl) (by rfl) ?_
    refine X.bin (by rfl) (by rfl) (by rfl) (by rfl) (by intro h; cases h) (by rfl) ?_
    refine X.move (by rfl) (by rfl) ?_
    apply X.ifS (by rfl) (by rfl) (by rfl)
    · intro hb8
      refine X.move (by rfl) (by rfl) ?_
      refine X.gyes (by rfl) (by rfl) (by first | assumption | rfl | simp [*]) ?_
      refine X.move (by rfl) (by rfl) ?_
      refine X.gyes (by rfl) (by rfl) (by first | assumption | rfl | simp [*]) ?_
      refine X.bin (by rfl) (by rfl) (by rfl) (by rfl) (by intro h; cases h) (by rfl) ?_
      refine X.pickT (by rfl) (by first | assumption | rfl | simp [*]) (by rfl) (by rfl) ?_
      refine X.assign (by rfl) (by rfl) ?_
      exact X.end (by repeat (first | exact trivial | refine ⟨by rfl, ?_⟩)) (by repeat (first | exact trivial | refine ⟨by rfl, ?_⟩)) (by rfl) (by rfl)
    · intro hb8
      refine X.gno (by rfl) (by rfl) (by first | assumption | rfl | simp [*]) (by rfl) ?_
      refine X.gno (by rfl) (by rfl) (by first | assumption | rfl | simp [*]) (by rfl) ?_
      refine X.pickF (by rfl) (by first | assumption | rfl | simp [*]) (by rfl) (by rfl) ?_
      refine X.assign (by rfl) (by rfl) ?_
      exact X.end (by repeat (first | exact trivial | refine ⟨by rfl, ?_⟩)) (by repeat (first | exact trivial | refine ⟨by rfl, ?_⟩)) (by rfl) (by rfl)
  refine R.fin1 Try.results35 (by rfl) (by rfl) ?_
  cases h : decide (lo ≤ n) <;> simp [h]

theorem l02Max_pc (a b : Int) : PC Try.prog 36 [int a, int b] (int (max a b)) := by
  refine PC.start Try.func36 Try.ntmps36 rfl ok36 rfl ?_
  refine Run.seq ?_
  refine Run.reg ?_
  refine X.assign (by rfl) (by rfl) ?_
  refine X.nil ?_
  refine Run.seq ?_
  refine Run.seq ?_
  refine Run.reg ?_
  refine X.move (by rfl) (by rfl) ?_
  refine X.move (by rfl) (by rfl) ?_
  refine X.bin (by rfl) (by rfl) (by rfl) (by rfl) (by intro h; cases h) (by rfl) ?_
  refine X.nil ?_
  refine R.cond (by rfl) (fun hc13 => ?_) (fun hc13 => ?_)
  · have hq13 := hc13
    try simp only [decide_eq_true_eq, decide_eq_false_iff_not, Int.not_lt, Int.not_le, Bool.not_eq_true, Bool.not_eq_false, Bool.not_eq_eq_eq_not, Bool.not_true, Bool.not_false] at hq13
    refine Run.seq ?_
    refine Run.reg ?_
    refine X.move (by rfl) (by rfl) ?_
    refine X.assign (by rfl) (by rfl) ?_
    refine X.nil ?_
    refine R.fin1 Try.results36 (by rfl) (by rfl) ?_
    rw [show max a b = a by omega]
  · have hq13 := hc13
    try simp only [decide_eq_true_eq, decide_eq_false_iff_not, Int.not_lt, Int.not_le, Bool.not_eq_true, Bool.not_eq_false, Bool.not_eq_eq_eq_not, Bool.not_true, Bool.not_false] at hq13
    refine Run.skip ?_
    refine Run.seq ?_
    refine Run.reg ?_
    refine X.move (by rfl) (by rfl) ?_
    refine X.assign (by rfl) (by rfl) ?_
    refine X.nil ?_
    refine R.fin1 Try.results36 (by rfl) (by rfl) ?_
    rw [show max a b = b by omega]

theorem l02Min_pc (a b : Int) : PC Try.prog 37 [int a, int b] (int (min a b)) := by
  refine PC.start Try.func37 Try.ntmps37 rfl ok37 rfl ?_
  refine Run.seq ?_
  refine Run.reg ?_
  refine X.assign (by rfl) (by rfl) ?_
  refine X.nil ?_
  refine Run.seq ?_
  refine Run.seq ?_
  refine Run.reg ?_
  refine X.move (by rfl) (by rfl) ?_
  refine X.move (by rfl) (by rfl) ?_
  refine X.bin (by rfl) (by rfl) (by rfl) (by rfl) (by intro h; cases h) (by rfl) ?_
  refine X.nil ?_
  refine R.cond (by rfl) (fun hc16 => ?_) (fun hc16 => ?_)
  · have hq16 := hc16
    try simp only [decide_eq_true_eq, decide_eq_false_iff_not, Int.not_lt, Int.not_le, Bool.not_eq_true, Bool.not_eq_false, Bool.not_eq_eq_eq_not, Bool.not_true, Bool.not_false] at hq16
    refine Run.seq ?_
    refine Run.reg ?_
    refine X.move (by rfl) (by rfl) ?_
    refine X.assign (by rfl) (by rfl) ?_
    refine X.nil ?_
    refine R.fin1 Try.results37 (by rfl) (by rfl) ?_
    rw [show min a b = a by omega]
  · have hq16 := hc16
    try simp only [decide_eq_true_eq, decide_eq_false_iff_not, Int.not_lt, Int.not_le, Bool.not_eq_true, Bool.not_eq_false, Bool.not_eq_eq_eq_not, Bool.not_true, Bool.not_false] at hq16
    refine Run.skip ?_
    refine Run.seq ?_
    refine Run.reg ?_
    refine X.move (by rfl) (by rfl) ?_
    refine X.assign (by rfl) (by rfl) ?_
    refine X.nil ?_
    refine R.fin1 Try.results37 (by rfl) (by rfl) ?_
    rw [show min a b = b by omega]

def checkNameT : List ByteArray := [⟨#[111, 107]⟩, ⟨#[102, 111, 114, 109]⟩, ⟨#[114, 117, 108, 101]⟩, ⟨#[117, 110, 105, 116]⟩]
def checkNameV (n : Int) : ByteArray := bif (decide (0 ≤ n) && decide (n ≤ 3)) then checkNameT[n.toNat]?.getD ByteArray.empty else ByteArray.empty
theorem scheckName_at {n : Int} (h : (decide (0 ≤ n) && decide (n ≤ 3)) = true) : 0 ≤ n ∧ n ≤ 3 ∧ checkNameT[n.toNat]? = some (checkNameV n) := by
  have h2 := h
  simp only [Bool.and_eq_true, decide_eq_true_eq] at h2
  refine ⟨h2.1, h2.2, ?_⟩
  simp only [checkNameV, h, cond_true]
  have : n.toNat < checkNameT.length := by simp only [checkNameT, List.length_cons, List.length_nil]; omega
  rw [List.getElem?_eq_getElem this]; rfl
theorem icheckName_at {n : Int} (h : (decide (0 ≤ n) && decide (n ≤ 3)) = true) : 0 ≤ n ∧ n ≤ 3 ∧ checkNameT[n.toNat]? = some (checkNameV n) := by
  have h2 := h
  simp only [Bool.and_eq_true, decide_eq_true_eq] at h2
  refine ⟨h2.1, h2.2, ?_⟩
  simp only [checkNameV, h, cond_true]
  have : n.toNat < checkNameT.length := by simp only [checkNameT, List.length_cons, List.length_nil]; omega
  rw [List.getElem?_eq_getElem this]; rfl
theorem s_checkName_pc (n : Int) : PC Try.prog 9 [int n] (str (checkNameV n)) := by
  refine PC.start Try.func9 Try.ntmps9 rfl ok9 rfl ?_
  refine Run.seq ?_
  refine Run.reg ?_
  refine X.assign (by rfl) (by rfl) ?_
  refine X.nil ?_
  refine Run.seq ?_
  refine Run.seq ?_
  refine Run.reg ?_
  refine X.move (by rfl) (by rfl) ?_
  refine X.callP (l01In_pc _ _ _) (by rfl) (by rfl) (by rfl) (by repeat (first | exact trivial | refine ⟨by rfl, ?_⟩)) (by rfl) (by rfl) (by rfl) (by rfl) ?_
  refine X.un (by rfl) (by rfl) (by rfl) ?_
  refine X.nil ?_
  refine R.cond (by rfl) (fun hc21 => ?_) (fun hc21 => ?_)
  · have hq21 := hc21
    try simp only [decide_eq_true_eq, decide_eq_false_iff_not, Int.not_lt, Int.not_le, Bool.not_eq_true, Bool.not_eq_false, Bool.not_eq_eq_eq_not, Bool.not_true, Bool.not_false] at hq21
    refine Run.seq ?_
    refine Run.reg ?_
    refine X.assign (by rfl) (by rfl) ?_
    refine X.nil ?_
    refine R.fin1 Try.results9 (by rfl) (by rfl) ?_
    simp only [checkNameV]; first | (rw [show (decide (0 ≤ n) && decide (n ≤ 3)) = false by assumption]; rfl) | skip
  · have hq21 := hc21
    try simp only [decide_eq_true_eq, decide_eq_false_iff_not, Int.not_lt, Int.not_le, Bool.not_eq_true, Bool.not_eq_false, Bool.not_eq_eq_eq_not, Bool.not_true, Bool.not_false] at hq21
    refine Run.skip ?_
    refine Run.seq ?_
    refine Run.reg ?_
    refine X.buildSlice false elt65 zer9 (by rfl) (by rfl) (by rfl) (by rfl) (by rfl) (by rfl) (by repeat (first | exact trivial | refine ⟨by rfl, ?_⟩)) (by simp [PV.cells]) (by rfl) (by rfl) (by rfl) ?_
    refine X.move (by rfl) (by rfl) ?_
    refine X.index_o elt65 (by rfl) (by rfl) (by rfl) (by rfl) (by exact (icheckName_at (by simpa using ‹(decide (0 ≤ n) && decide (n ≤ 3)) = true›)).1) (by exact (by rw [List.getElem?_map, (icheckName_at (by simpa using ‹(decide (0 ≤ n) && decide (n ≤ 3)) = true›)).2.2]; rfl : (checkNameT.map str)[n.toNat]? = some (str (checkNameV n)))) (by rfl) (by rfl) (by rfl) ?_
    refine X.load_c shp9 (by rfl) (by rfl) (by rfl) (by rfl) ?_
    refine X.assign (by rfl) (by rfl) ?_
    refine X.nil ?_
    refine R.fin1 Try.results9 (by rfl) (by rfl) ?_
    rfl

theorem i_checkName_pc (n : Int) : PC Try.prog 10 [int n] (str (checkNameV n)) := by
  refine PC.start Try.func10 Try.ntmps10 rfl ok10 rfl ?_
  refine Run.seq ?_
  refine Run.reg ?_
  refine X.assign (by rfl) (by rfl) ?_
  refine X.nil ?_
  refine Run.seq ?_
  refine Run.reg ?_
  refine X.buildArr zer66 arr66 (by rfl) (by rfl) (by repeat (first | exact trivial | refine ⟨by rfl, ?_⟩)) (by rfl) (by rfl) (by rfl) ?_
  refine X.alloc zer66 (by rfl) (by rfl) (by rfl) ?_
  refine X.store_l shp66 (by rfl) (by rfl) (by rfl) (by rfl) (by repeat (first | exact trivial | refine ⟨by rfl, ?_⟩)) (by rfl) (by rfl) (by rfl) ?_
  refine X.nil ?_
  refine Run.seq ?_
  refine Run.seq ?_
  refine Run.reg ?_
  refine X.move (by rfl) (by rfl) ?_
  refine X.callP (within_pc _ _ _) (by rfl) (by rfl) (by rfl) (by repeat (first | exact trivial | refine ⟨by rfl, ?_⟩)) (by rfl) (by rfl) (by rfl) (by rfl) ?_
  refine X.un (by rfl) (by rfl) (by rfl) ?_
  refine X.nil ?_
  refine R.cond (by rfl) (fun hc26 => ?_) (fun hc26 => ?_)
  · have hq26 := hc26
    try simp only [decide_eq_true_eq, decide_eq_false_iff_not, Int.not_lt, Int.not_le, Bool.not_eq_true, Bool.not_eq_false, Bool.not_eq_eq_eq_not, Bool.not_true, Bool.not_false] at hq26
    refine Run.seq ?_
    refine Run.reg ?_
    refine X.assign (by rfl) (by rfl) ?_
    refine X.nil ?_
    refine R.fin1 Try.results10 (by rfl) (by rfl) ?_
    simp only [checkNameV]; first | (rw [show (decide (0 ≤ n) && decide (n ≤ 3)) = false by assumption]; rfl) | skip
  · have hq26 := hc26
    try simp only [decide_eq_true_eq, decide_eq_false_iff_not, Int.not_lt, Int.not_le, Bool.not_eq_true, Bool.not_eq_false, Bool.not_eq_eq_eq_not, Bool.not_true, Bool.not_false] at hq26
    refine Run.skip ?_
    refine Run.seq ?_
    refine Run.reg ?_
    refine X.move (by rfl) (by rfl) ?_
    refine X.index_a arr66 (by rfl) (by rfl) (by exact (Int.toNat_of_nonneg (icheckName_at (by simpa using ‹(decide (0 ≤ n) && decide (n ≤ 3)) = true›)).1).symm) (by have := (icheckName_at (by simpa using ‹(decide (0 ≤ n) && decide (n ≤ 3)) = true›)).2.1; have := (icheckName_at (by simpa using ‹(decide (0 ≤ n) && decide (n ≤ 3)) = true›)).1; omega) (by rfl) ?_
    refine X.load_l shp9 (by rfl) (by rfl) (by rfl) (by exact loadK_at (by rw [Nat.zero_add, Nat.mul_one]; exact (by rw [List.getElem?_map, (icheckName_at (by simpa using ‹(decide (0 ≤ n) && decide (n ≤ 3)) = true›)).2.2]; rfl : (checkNameT.map str)[n.toNat]? = some (str (checkNameV n))))) (by rfl) (by rfl) ?_
    refine X.assign (by rfl) (by rfl) ?_
    refine X.nil ?_
    refine R.fin1 Try.results10 (by rfl) (by rfl) ?_
    rfl

def priorityNameT : List ByteArray := [⟨#[]⟩, ⟨#[110, 117, 109, 98, 101, 114]⟩, ⟨#[108, 97, 116, 101, 115, 116]⟩, ⟨#[116, 97, 105, 108]⟩, ⟨#[115, 104, 111, 114, 116, 101, 115, 116]⟩]
def priorityNameV (n : Int) : ByteArray := bif (decide (0 ≤ n) && decide (n ≤ 4)) then priorityNameT[n.toNat]?.getD ByteArray.empty else ByteArray.empty
theorem spriorityName_at {n : Int} (h : (decide (0 ≤ n) && decide (n ≤ 4)) = true) : 0 ≤ n ∧ n ≤ 4 ∧ priorityNameT[n.toNat]? = some (priorityNameV n) := by
  have h2 := h
  simp only [Bool.and_eq_true, decide_eq_true_eq] at h2
  refine ⟨h2.1, h2.2, ?_⟩
  simp only [priorityNameV, h, cond_true]
  have : n.toNat < priorityNameT.length := by simp only [priorityNameT, List.length_cons, List.length_nil]; omega
  rw [List.getElem?_eq_getElem this]; rfl
theorem ipriorityName_at {n : Int} (h : (decide (0 ≤ n) && decide (n ≤ 4)) = true) : 0 ≤ n ∧ n ≤ 4 ∧ priorityNameT[n.toNat]? = some (priorityNameV n) := by
  have h2 := h
  simp only [Bool.and_eq_true, decide_eq_true_eq] at h2
  refine ⟨h2.1, h2.2, ?_⟩
  simp only [priorityNameV, h, cond_true]
  have : n.toNat < priorityNameT.length := by simp only [priorityNameT, List.length_cons, List.length_nil]; omega
  rw [List.getElem?_eq_getElem this]; rfl
theorem s_priorityName_pc (n : Int) : PC Try.prog 11 [int n] (str (priorityNameV n)) := by
  refine PC.start Try.func11 Try.ntmps11 rfl ok11 rfl ?_
  refine Run.seq ?_
  refine Run.reg ?_
  refine X.assign (by rfl) (by rfl) ?_
  refine X.nil ?_
  refine Run.seq ?_
  refine Run.seq ?_
  refine Run.reg ?_
  refine X.move (by rfl) (by rfl) ?_
  refine X.callP (l01In_pc _ _ _) (by rfl) (by rfl) (by rfl) (by repeat (first | exact trivial | refine ⟨by rfl, ?_⟩)) (by rfl) (by rfl) (by rfl) (by rfl) ?_
  refine X.un (by rfl) (by rfl) (by rfl) ?_
  refine X.nil ?_
  refine R.cond (by rfl) (fun hc31 => ?_) (fun hc31 => ?_)
  · have hq31 := hc31
    try simp only [decide_eq_true_eq, decide_eq_false_iff_not, Int.not_lt, Int.not_le, Bool.not_eq_true, Bool.not_eq_false, Bool.not_eq_eq_eq_not, Bool.not_true, Bool.not_false] at hq31
    refine Run.seq ?_
    refine Run.reg ?_
    refine X.assign (by rfl) (by rfl) ?_
    refine X.nil ?_
    refine R.fin1 Try.results11 (by rfl) (by rfl) ?_
    have hn : n = 0 ∨ (decide (0 ≤ n) && decide (n ≤ 4)) = false := by
      have h := ‹(decide (1 ≤ n) && decide (n ≤ 4)) = false›
      simp only [Bool.and_eq_false_iff, decide_eq_false_iff_not] at h ⊢
      omega
    rcases hn with rfl | hn
    · rfl
    · simp only [priorityNameV]; rw [hn]; rfl
  · have hq31 := hc31
    try simp only [decide_eq_true_eq, decide_eq_false_iff_not, Int.not_lt, Int.not_le, Bool.not_eq_true, Bool.not_eq_false, Bool.not_eq_eq_eq_not, Bool.not_true, Bool.not_false] at hq31
    refine Run.skip ?_
    refine Run.seq ?_
    refine Run.reg ?_
    refine X.buildSlice false elt65 zer9 (by rfl) (by rfl) (by rfl) (by rfl) (by rfl) (by rfl) (by repeat (first | exact trivial | refine ⟨by rfl, ?_⟩)) (by simp [PV.cells]) (by rfl) (by rfl) (by rfl) ?_
    refine X.move (by rfl) (by rfl) ?_
    refine X.index_o elt65 (by rfl) (by rfl) (by rfl) (by rfl) (by exact (ipriorityName_at (n := n) (by have h := ‹(decide (1 ≤ n) && decide (n ≤ 4)) = true›; simp only [Bool.and_eq_true, decide_eq_true_eq] at h ⊢; omega)).1) (by exact (by rw [List.getElem?_map, (ipriorityName_at (n := n) (by have h := ‹(decide (1 ≤ n) && decide (n ≤ 4)) = true›; simp only [Bool.and_eq_true, decide_eq_true_eq] at h ⊢; omega)).2.2]; rfl : (priorityNameT.map str)[n.toNat]? = some (str (priorityNameV n)))) (by rfl) (by rfl) (by rfl) ?_
    refine X.load_c shp9 (by rfl) (by rfl) (by rfl) (by rfl) ?_
    refine X.assign (by rfl) (by rfl) ?_
    refine X.nil ?_
    refine R.fin1 Try.results11 (by rfl) (by rfl) ?_
    rfl

theorem i_priorityName_pc (n : Int) : PC Try.prog 12 [int n] (str (priorityNameV n)) := by
  refine PC.start Try.func12 Try.ntmps12 rfl ok12 rfl ?_
  refine Run.seq ?_
  refine Run.reg ?_
  refine X.assign (by rfl) (by rfl) ?_
  refine X.nil ?_
  refine Run.seq ?_
  refine Run.reg ?_
  refine X.buildArr zer67 arr67 (by rfl) (by rfl) (by repeat (first | exact trivial | refine ⟨by rfl, ?_⟩)) (by rfl) (by rfl) (by rfl) ?_
  refine X.alloc zer67 (by rfl) (by rfl) (by rfl) ?_
  refine X.store_l shp67 (by rfl) (by rfl) (by rfl) (by rfl) (by repeat (first | exact trivial | refine ⟨by rfl, ?_⟩)) (by rfl) (by rfl) (by rfl) ?_
  refine X.nil ?_
  refine Run.seq ?_
  refine Run.seq ?_
  refine Run.reg ?_
  refine X.move (by rfl) (by rfl) ?_
  refine X.callP (within_pc _ _ _) (by rfl) (by rfl) (by rfl) (by repeat (first | exact trivial | refine ⟨by rfl, ?_⟩)) (by rfl) (by rfl) (by rfl) (by rfl) ?_
  refine X.un (by rfl) (by rfl) (by rfl) ?_
  refine X.nil ?_
  refine R.cond (by rfl) (fun hc36 => ?_) (fun hc36 => ?_)
  · have hq36 := hc36
    try simp only [decide_eq_true_eq, decide_eq_false_iff_not, Int.not_lt, Int.not_le, Bool.not_eq_true, Bool.not_eq_false, Bool.not_eq_eq_eq_not, Bool.not_true, Bool.not_false] at hq36
    refine Run.seq ?_
    refine Run.reg ?_
    refine X.assign (by rfl) (by rfl) ?_
    refine X.nil ?_
    refine R.fin1 Try.results12 (by rfl) (by rfl) ?_
    simp only [priorityNameV]; first | (rw [show (decide (0 ≤ n) && decide (n ≤ 4)) = false by assumption]; rfl) | skip
  · have hq36 := hc36
    try simp only [decide_eq_true_eq, decide_eq_false_iff_not, Int.not_lt, Int.not_le, Bool.not_eq_true, Bool.not_eq_false, Bool.not_eq_eq_eq_not, Bool.not_true, Bool.not_false] at hq36
    refine Run.skip ?_
    refine Run.seq ?_
    refine Run.reg ?_
    refine X.move (by rfl) (by rfl) ?_
    refine X.index_a arr67 (by rfl) (by rfl) (by exact (Int.toNat_of_nonneg (ipriorityName_at (by simpa using ‹(decide (0 ≤ n) && decide (n ≤ 4)) = true›)).1).symm) (by have := (ipriorityName_at (by simpa using ‹(decide (0 ≤ n) && decide (n ≤ 4)) = true›)).2.1; have := (ipriorityName_at (by simpa using ‹(decide (0 ≤ n) && decide (n ≤ 4)) = true›)).1; omega) (by rfl) ?_
    refine X.load_l shp9 (by rfl) (by rfl) (by rfl) (by exact loadK_at (by rw [Nat.zero_add, Nat.mul_one]; exact (by rw [List.getElem?_map, (ipriorityName_at (by simpa using ‹(decide (0 ≤ n) && decide (n ≤ 4)) = true›)).2.2]; rfl : (priorityNameT.map str)[n.toNat]? = some (str (priorityNameV n))))) (by rfl) (by rfl) ?_
    refine X.assign (by rfl) (by rfl) ?_
    refine X.nil ?_
    refine R.fin1 Try.results12 (by rfl) (by rfl) ?_
    rfl

def ovF (L : List Int) (k : Int) : Int := bif L.all (fun n => decide (-100000 ≤ n) && decide (n ≤ 100000)) then k else 0
def ovK (a b c d : Int) : Int := if b < 1 then 0 else max 0 (W (min (W (a + b)) d - max a c))
theorem sOverlap_pc (a b c d r : Int) (hr : ovF [a, b, c, d] (ovK a b c d) = r) : PC Try.prog 13 [int a, int b, int c, int d] (int r) := by
  refine PC.start Try.func13 Try.ntmps13 rfl ok13 rfl ?_
  refine Run.seq ?_
  refine Run.reg ?_
  refine X.assign (by rfl) (by rfl) ?_
  refine X.nil ?_
  refine Run.seq ?_
  refine Run.seq ?_
  refine Run.reg ?_
  refine X.move (by rfl) (by rfl) ?_
  refine X.move (by rfl) (by rfl) ?_
  refine X.move (by rfl) (by rfl) ?_
  refine X.move (by rfl) (by rfl) ?_
  refine X.buildSlice false elt26 zer3 (by rfl) (by rfl) (by rfl) (by rfl) (by rfl) (by rfl) (by repeat (first | exact trivial | refine ⟨by rfl, ?_⟩)) (by simp [PV.cells]) (by rfl) (by rfl) (by rfl) ?_
  refine X.len_o elt26 (by rfl) (by rfl) (by rfl) (by exact (rfl : _ = 4)) (by rfl) (by rfl) ?_
  refine X.move (by rfl) (by rfl) ?_
  refine X.nil ?_
  refine Run.block ?_
  refine R.loop (β := Nat) [(0, _), (1, _), (2, _), (3, _), (15, _), (16, _)] [(960, _)] (fun i S => (17, int (i : Int)) :: S) (fun i M => M) (fun n i => i + n = 4 ∧ ovF ([a, b, c, d].drop i) (ovK a b c d) = r) (4) (0) (by repeat (first | exact trivial | refine ⟨by rfl, ?_⟩)) (by repeat (first | exact trivial | refine ⟨by rfl, ?_⟩)) (by rfl) (by rfl) ?_ ?_
  · exact ⟨rfl, hr⟩
  rintro n i ⟨hJ, hr⟩
  refine Run.seq ?_
  refine Run.reg ?_
  refine X.bin (by rfl) (by rfl) (by rfl) (by rfl) (by intro h; cases h) (by rfl) ?_
  refine X.nil ?_
  refine Run.seq ?_
  refine R.cond (by rfl) (fun hc39 => ?_) (fun hc39 => ?_)
  · have hq39 := hc39
    try simp only [decide_eq_true_eq, decide_eq_false_iff_not, Int.not_lt, Int.not_le, Bool.not_eq_true, Bool.not_eq_false, Bool.not_eq_eq_eq_not, Bool.not_true, Bool.not_false] at hq39
    refine Run.skip ?_
    refine Run.seq ?_
    refine Run.block ?_
    refine Run.seq ?_
    refine Run.reg ?_
    refine X.index_o elt26 (by rfl) (by rfl) (by rfl) (by rfl) (by omega) (by exact idx_map (L := [a, b, c, d]) int (by simp; omega)) (by rfl) (by rfl) (by rfl) ?_
    refine X.load_c shp3 (by rfl) (by rfl) (by rfl) (by rfl) ?_
    refine X.assign (by rfl) (by rfl) ?_
    refine X.nil ?_
    refine Run.seq ?_
    refine Run.reg ?_
    refine X.move (by rfl) (by rfl) ?_
    refine X.callP (l01In_pc _ _ _) (by rfl) (by rfl) (by rfl) (by repeat (first | exact trivial | refine ⟨by rfl, ?_⟩)) (by rfl) (by rfl) (by rfl) (by rfl) ?_
    refine X.un (by rfl) (by rfl) (by rfl) ?_
    refine X.nil ?_
    refine R.cond (by rfl) (fun hc44 => ?_) (fun hc44 => ?_)
    · have hq44 := hc44
      try simp only [decide_eq_true_eq, decide_eq_false_iff_not, Int.not_lt, Int.not_le, Bool.not_eq_true, Bool.not_eq_false, Bool.not_eq_eq_eq_not, Bool.not_true, Bool.not_false] at hq44
      refine Run.seq ?_
      refine Run.reg ?_
      refine X.assign (by rfl) (by rfl) ?_
      refine X.nil ?_
      refine R.fin1 Try.results13 (by rfl) (by rfl) ?_
      have hi : i < [a, b, c, d].length := by simp; omega
      rw [drop_cons hi] at hr
      simp only [ovF, List.all_cons] at hr
      rw [show (decide (-100000 ≤ [a, b, c, d][i]) && decide ([a, b, c, d][i] ≤ 100000)) = false by assumption] at hr
      subst hr; rfl
    · have hq44 := hc44
      try simp only [decide_eq_true_eq, decide_eq_false_iff_not, Int.not_lt, Int.not_le, Bool.not_eq_true, Bool.not_eq_false, Bool.not_eq_eq_eq_not, Bool.not_true, Bool.not_false] at hq44
      refine Run.skip ?_
      refine Run.blk ?_
      refine Run.reg ?_
      first | refine X.add (by rfl) (by rfl) (by omega) (by rfl) ?_ | refine X.addW (by rfl) (by rfl) (by rfl) ?_
      refine X.move (by rfl) (by rfl) ?_
      refine X.nil ?_
      have hi : i < [a, b, c, d].length := by simp; omega
      rw [drop_cons hi] at hr
      refine R.again (n - 1) (i + 1) (by simp at hi; omega) ⟨by simp at hi; omega, ?_⟩ (by repeat (first | exact trivial | refine ⟨by rfl, ?_⟩)) (by repeat (first | exact trivial | refine ⟨by rfl, ?_⟩)) (by rfl) (by rfl)
      simp only [ovF, List.all_cons] at hr ⊢
      simpa [*] using hr
  · have hq39 := hc39
    try simp only [decide_eq_true_eq, decide_eq_false_iff_not, Int.not_lt, Int.not_le, Bool.not_eq_true, Bool.not_eq_false, Bool.not_eq_eq_eq_not, Bool.not_true, Bool.not_false] at hq39
    refine Run.exit (by rfl) ?_
    refine Run.seq ?_
    refine Run.seq ?_
    refine Run.reg ?_
    refine X.move (by rfl) (by rfl) ?_
    refine X.bin (by rfl) (by rfl) (by rfl) (by rfl) (by intro h; cases h) (by rfl) ?_
    refine X.nil ?_
    refine R.cond (by rfl) (fun hc47 => ?_) (fun hc47 => ?_)
    · have hq47 := hc47
      try simp only [decide_eq_true_eq, decide_eq_false_iff_not, Int.not_lt, Int.not_le, Bool.not_eq_true, Bool.not_eq_false, Bool.not_eq_eq_eq_not, Bool.not_true, Bool.not_false] at hq47
      refine Run.seq ?_
      refine Run.reg ?_
      refine X.assign (by rfl) (by rfl) ?_
      refine X.nil ?_
      refine R.fin1 Try.results13 (by rfl) (by rfl) ?_
      have e : List.drop i [a, b, c, d] = [] := List.drop_eq_nil_of_le (by simp; omega)
      rw [e] at hr
      subst hr
      simp_all [ovF, ovK]
    · have hq47 := hc47
      try simp only [decide_eq_true_eq, decide_eq_false_iff_not, Int.not_lt, Int.not_le, Bool.not_eq_true, Bool.not_eq_false, Bool.not_eq_eq_eq_not, Bool.not_true, Bool.not_false] at hq47
      refine Run.skip ?_
      refine Run.seq ?_
      refine Run.reg ?_
      refine X.move (by rfl) (by rfl) ?_
      refine X.move (by rfl) (by rfl) ?_
      first | refine X.add (by rfl) (by rfl) (by omega) (by rfl) ?_ | refine X.addW (by rfl) (by rfl) (by rfl) ?_
      refine X.move (by rfl) (by rfl) ?_
      refine X.callP (l02Min_pc _ _) (by rfl) (by rfl) (by rfl) (by repeat (first | exact trivial | refine ⟨by rfl, ?_⟩)) (by rfl) (by rfl) (by rfl) (by rfl) ?_
      refine X.move (by rfl) (by rfl) ?_
      refine X.move (by rfl) (by rfl) ?_
      refine X.callP (l02Max_pc _ _) (by rfl) (by rfl) (by rfl) (by repeat (first | exact trivial | refine ⟨by rfl, ?_⟩)) (by rfl) (by rfl) (by rfl) (by rfl) ?_
      first | refine X.sub (by rfl) (by rfl) (by omega) (by rfl) ?_ | refine X.subW (by rfl) (by rfl) (by rfl) ?_
      refine X.callP (l02Max_pc _ _) (by rfl) (by rfl) (by rfl) (by repeat (first | exact trivial | refine ⟨by rfl, ?_⟩)) (by rfl) (by rfl) (by rfl) (by rfl) ?_
      refine X.assign (by rfl) (by rfl) ?_
      refine X.nil ?_
      refine R.fin1 Try.results13 (by rfl) (by rfl) ?_
      have e : List.drop i [a, b, c, d] = [] := List.drop_eq_nil_of_le (by simp; omega)
      rw [e] at hr
      subst hr
      have hb : ¬ b < 1 := by omega
      simp [ovF, ovK, hb, Int.max_comm]

theorem iOverlap_pc (a b c d r : Int) (hr : ovF [a, b, c, d] (ovK a b c d) = r) : PC Try.prog 14 [int a, int b, int c, int d] (int r) := by
  refine PC.start Try.func14 Try.ntmps14 rfl ok14 rfl ?_
  refine Run.seq ?_
  refine Run.reg ?_
  refine X.assign (by rfl) (by rfl) ?_
  refine X.nil ?_
  refine Run.seq ?_
  refine Run.seq ?_
  refine Run.reg ?_
  refine X.move (by rfl) (by rfl) ?_
  refine X.move (by rfl) (by rfl) ?_
  refine X.move (by rfl) (by rfl) ?_
  refine X.move (by rfl) (by rfl) ?_
  refine X.buildSlice false elt26 zer3 (by rfl) (by rfl) (by rfl) (by rfl) (by rfl) (by rfl) (by repeat (first | exact trivial | refine ⟨by rfl, ?_⟩)) (by simp [PV.cells]) (by rfl) (by rfl) (by rfl) ?_
  refine X.len_o elt26 (by rfl) (by rfl) (by rfl) (by exact (rfl : _ = 4)) (by rfl) (by rfl) ?_
  refine X.move (by rfl) (by rfl) ?_
  refine X.nil ?_
  refine Run.block ?_
  refine R.loop (β := Nat) [(0, _), (1, _), (2, _), (3, _), (15, _), (16, _)] [(960, _)] (fun i S => (17, int (i : Int)) :: S) (fun i M => M) (fun n i => i + n = 4 ∧ ovF ([a, b, c, d].drop i) (ovK a b c d) = r) (4) (0) (by repeat (first | exact trivial | refine ⟨by rfl, ?_⟩)) (by repeat (first | exact trivial | refine ⟨by rfl, ?_⟩)) (by rfl) (by rfl) ?_ ?_
  · exact ⟨rfl, hr⟩
  rintro n i ⟨hJ, hr⟩
  refine Run.seq ?_
  refine Run.reg ?_
  refine X.bin (by rfl) (by rfl) (by rfl) (by rfl) (by intro h; cases h) (by rfl) ?_
  refine X.nil ?_
  refine Run.seq ?_
  refine R.cond (by rfl) (fun hc50 => ?_) (fun hc50 => ?_)
  · have hq50 := hc50
    try simp only [decide_eq_true_eq, decide_eq_false_iff_not, Int.not_lt, Int.not_le, Bool.not_eq_true, Bool.not_eq_false, Bool.not_eq_eq_eq_not, Bool.not_true, Bool.not_false] at hq50
    refine Run.skip ?_
    refine Run.seq ?_
    refine Run.block ?_
    refine Run.seq ?_
    refine Run.reg ?_
    refine X.index_o elt26 (by rfl) (by rfl) (by rfl) (by rfl) (by omega) (by exact idx_map (L := [a, b, c, d]) int (by simp; omega)) (by rfl) (by rfl) (by rfl) ?_
    refine X.load_c shp3 (by rfl) (by rfl) (by rfl) (by rfl) ?_
    refine X.assign (by rfl) (by rfl) ?_
    refine X.nil ?_
    refine Run.seq ?_
    refine Run.reg ?_
    refine X.move (by rfl) (by rfl) ?_
    refine X.callP (within_pc _ _ _) (by rfl) (by rfl) (by rfl) (by repeat (first | exact trivial | refine ⟨by rfl, ?_⟩)) (by rfl) (by rfl) (by rfl) (by rfl) ?_
    refine X.un (by rfl) (by rfl) (by rfl) ?_
    refine X.nil ?_
    refine R.cond (by rfl) (fun hc55 => ?_) (fun hc55 => ?_)
    · have hq55 := hc55
      try simp only [decide_eq_true_eq, decide_eq_false_iff_not, Int.not_lt, Int.not_le, Bool.not_eq_true, Bool.not_eq_false, Bool.not_eq_eq_eq_not, Bool.not_true, Bool.not_false] at hq55
      refine Run.seq ?_
      refine Run.reg ?_
      refine X.assign (by rfl) (by rfl) ?_
      refine X.nil ?_
      refine R.fin1 Try.results14 (by rfl) (by rfl) ?_
      have hi : i < [a, b, c, d].length := by simp; omega
      rw [drop_cons hi] at hr
      simp only [ovF, List.all_cons] at hr
      rw [show (decide (-100000 ≤ [a, b, c, d][i]) && decide ([a, b, c, d][i] ≤ 100000)) = false by assumption] at hr
      subst hr; rfl
    · have hq55 := hc55
      try simp only [decide_eq_true_eq, decide_eq_false_iff_not, Int.not_lt, Int.not_le, Bool.not_eq_true, Bool.not_eq_false, Bool.not_eq_eq_eq_not, Bool.not_true, Bool.not_false] at hq55
      refine Run.skip ?_
      refine Run.blk ?_
      refine Run.reg ?_
      first | refine X.add (by rfl) (by rfl) (by omega) (by rfl) ?_ | refine X.addW (by rfl) (by rfl) (by rfl) ?_
      refine X.move (by rfl) (by rfl) ?_
      refine X.nil ?_
      have hi : i < [a, b, c, d].length := by simp; omega
      rw [drop_cons hi] at hr
      refine R.again (n - 1) (i + 1) (by simp at hi; omega) ⟨by simp at hi; omega, ?_⟩ (by repeat (first | exact trivial | refine ⟨by rfl, ?_⟩)) (by repeat (first | exact trivial | refine ⟨by rfl, ?_⟩)) (by rfl) (by rfl)
      simp only [ovF, List.all_cons] at hr ⊢
      simpa [*] using hr
  · have hq50 := hc50
    try simp only [decide_eq_true_eq, decide_eq_false_iff_not, Int.not_lt, Int.not_le, Bool.not_eq_true, Bool.not_eq_false, Bool.not_eq_eq_eq_not, Bool.not_true, Bool.not_false] at hq50
    refine Run.exit (by rfl) ?_
    refine Run.seq ?_
    refine Run.seq ?_
    refine Run.reg ?_
    refine X.move (by rfl) (by rfl) ?_
    refine X.bin (by rfl) (by rfl) (by rfl) (by rfl) (by intro h; cases h) (by rfl) ?_
    refine X.nil ?_
    refine R.cond (by rfl) (fun hc58 => ?_) (fun hc58 => ?_)
    · have hq58 := hc58
      try simp only [decide_eq_true_eq, decide_eq_false_iff_not, Int.not_lt, Int.not_le, Bool.not_eq_true, Bool.not_eq_false, Bool.not_eq_eq_eq_not, Bool.not_true, Bool.not_false] at hq58
      refine Run.seq ?_
      refine Run.reg ?_
      refine X.assign (by rfl) (by rfl) ?_
      refine X.nil ?_
      refine R.fin1 Try.results14 (by rfl) (by rfl) ?_
      have e : List.drop i [a, b, c, d] = [] := List.drop_eq_nil_of_le (by simp; omega)
      rw [e] at hr
      subst hr
      simp_all [ovF, ovK]
    · have hq58 := hc58
      try simp only [decide_eq_true_eq, decide_eq_false_iff_not, Int.not_lt, Int.not_le, Bool.not_eq_true, Bool.not_eq_false, Bool.not_eq_eq_eq_not, Bool.not_true, Bool.not_false] at hq58
      refine Run.skip ?_
      refine Run.seq ?_
      refine Run.reg ?_
      refine X.move (by rfl) (by rfl) ?_
      refine X.move (by rfl) (by rfl) ?_
      first | refine X.add (by rfl) (by rfl) (by omega) (by rfl) ?_ | refine X.addW (by rfl) (by rfl) (by rfl) ?_
      refine X.move (by rfl) (by rfl) ?_
      refine X.min2 (by rfl) (by rfl) (by rfl) ?_
      refine X.move (by rfl) (by rfl) ?_
      refine X.move (by rfl) (by rfl) ?_
      refine X.max2 (by rfl) (by rfl) (by rfl) ?_
      first | refine X.sub (by rfl) (by rfl) (by omega) (by rfl) ?_ | refine X.subW (by rfl) (by rfl) (by rfl) ?_
      refine X.max2 (by rfl) (by rfl) (by rfl) ?_
      refine X.assign (by rfl) (by rfl) ?_
      refine X.nil ?_
      refine R.fin1 Try.results14 (by rfl) (by rfl) ?_
      have e : List.drop i [a, b, c, d] = [] := List.drop_eq_nil_of_le (by simp; omega)
      rw [e] at hr
      subst hr
      have hb : ¬ b < 1 := by omega
      simp [ovF, ovK, hb, Int.max_comm]

theorem law3_pc (n : Int) : PC Try.prog 3 [int n] (bool true) := by
  refine PC.start Try.func3 Try.ntmps3 rfl ok3 rfl ?_
  refine Run.seq ?_
  refine Run.reg ?_
  refine X.assign (by rfl) (by rfl) ?_
  refine X.nil ?_
  refine Run.seq ?_
  refine Run.reg ?_
  refine X.move (by rfl) (by rfl) ?_
  refine X.callP (s_checkName_pc _) (by rfl) (by rfl) (by rfl) (by repeat (first | exact trivial | refine ⟨by rfl, ?_⟩)) (by rfl) (by rfl) (by rfl) (by rfl) ?_
  refine X.assign (by rfl) (by rfl) ?_
  refine X.nil ?_
  refine Run.seq ?_
  refine Run.reg ?_
  refine X.move (by rfl) (by rfl) ?_
  refine X.callP (i_checkName_pc _) (by rfl) (by rfl) (by rfl) (by repeat (first | exact trivial | refine ⟨by rfl, ?_⟩)) (by rfl) (by rfl) (by rfl) (by rfl) ?_
  refine X.assign (by rfl) (by rfl) ?_
  refine X.nil ?_
  refine Run.seq ?_
  refine Run.seq ?_
  refine Run.reg ?_
  refine X.move (by rfl) (by rfl) ?_
  refine X.move (by rfl) (by rfl) ?_
  refine X.bin (by rfl) (by rfl) (by rfl) (by rfl) (by intro h; cases h) (by rfl) ?_
  refine X.nil ?_
  refine R.cond (by rfl) (fun hc61 => ?_) (fun hc61 => ?_)
  · have hq61 := hc61
    try simp only [decide_eq_true_eq, decide_eq_false_iff_not, Int.not_lt, Int.not_le, Bool.not_eq_true, Bool.not_eq_false, Bool.not_eq_eq_eq_not, Bool.not_true, Bool.not_false] at hq61
    refine Run.seq ?_
    refine Run.reg ?_
    refine X.assign (by rfl) (by rfl) ?_
    refine X.nil ?_
    refine R.fin1 Try.results3 (by rfl) (by rfl) ?_
    simp_all [ba_ne_self]
  · have hq61 := hc61
    try simp only [decide_eq_true_eq, decide_eq_false_iff_not, Int.not_lt, Int.not_le, Bool.not_eq_true, Bool.not_eq_false, Bool.not_eq_eq_eq_not, Bool.not_true, Bool.not_false] at hq61
    refine Run.skip ?_
    refine Run.seq ?_
    refine Run.reg ?_
    refine X.assign (by rfl) (by rfl) ?_
    refine X.nil ?_
    refine R.fin1 Try.results3 (by rfl) (by rfl) ?_
    rfl

theorem law4_pc (n : Int) : PC Try.prog 4 [int n] (bool true) := by
  refine PC.start Try.func4 Try.ntmps4 rfl ok4 rfl ?_
  refine Run.seq ?_
  refine Run.reg ?_
  refine X.assign (by rfl) (by rfl) ?_
  refine X.nil ?_
  refine Run.seq ?_
  refine Run.reg ?_
  refine X.move (by rfl) (by rfl) ?_
  refine X.callP (s_priorityName_pc _) (by rfl) (by rfl) (by rfl) (by repeat (first | exact trivial | refine ⟨by rfl, ?_⟩)) (by rfl) (by rfl) (by rfl) (by rfl) ?_
  refine X.assign (by rfl) (by rfl) ?_
  refine X.nil ?_
  refine Run.seq ?_
  refine Run.reg ?_
  refine X.move (by rfl) (by rfl) ?_
  refine X.callP (i_priorityName_pc _) (by rfl) (by rfl) (by rfl) (by repeat (first | exact trivial | refine ⟨by rfl, ?_⟩)) (by rfl) (by rfl) (by rfl) (by rfl) ?_
  refine X.assign (by rfl) (by rfl) ?_
  refine X.nil ?_
  refine Run.seq ?_
  refine Run.seq ?_
  refine Run.reg ?_
  refine X.move (by rfl) (by rfl) ?_
  refine X.move (by rfl) (by rfl) ?_
  refine X.bin (by rfl) (by rfl) (by rfl) (by rfl) (by intro h; cases h) (by rfl) ?_
  refine X.nil ?_
  refine R.cond (by rfl) (fun hc64 => ?_) (fun hc64 => ?_)
  · have hq64 := hc64
    try simp only [decide_eq_true_eq, decide_eq_false_iff_not, Int.not_lt, Int.not_le, Bool.not_eq_true, Bool.not_eq_false, Bool.not_eq_eq_eq_not, Bool.not_true, Bool.not_false] at hq64
    refine Run.seq ?_
    refine Run.reg ?_
    refine X.assign (by rfl) (by rfl) ?_
    refine X.nil ?_
    refine R.fin1 Try.results4 (by rfl) (by rfl) ?_
    simp_all [ba_ne_self]
  · have hq64 := hc64
    try simp only [decide_eq_true_eq, decide_eq_false_iff_not, Int.not_lt, Int.not_le, Bool.not_eq_true, Bool.not_eq_false, Bool.not_eq_eq_eq_not, Bool.not_true, Bool.not_false] at hq64
    refine Run.skip ?_
    refine Run.seq ?_
    refine Run.reg ?_
    refine X.assign (by rfl) (by rfl) ?_
    refine X.nil ?_
    refine R.fin1 Try.results4 (by rfl) (by rfl) ?_
    rfl

theorem law5_pc (a b c d : Int) : PC Try.prog 5 [int a, int b, int c, int d] (bool true) := by
  refine PC.start Try.func5 Try.ntmps5 rfl ok5 rfl ?_
  refine Run.seq ?_
  refine Run.reg ?_
  refine X.assign (by rfl) (by rfl) ?_
  refine X.nil ?_
  refine Run.seq ?_
  refine Run.reg ?_
  refine X.move (by rfl) (by rfl) ?_
  refine X.move (by rfl) (by rfl) ?_
  refine X.move (by rfl) (by rfl) ?_
  refine X.move (by rfl) (by rfl) ?_
  refine X.callP (sOverlap_pc _ _ _ _ _ rfl) (by rfl) (by rfl) (by rfl) (by repeat (first | exact trivial | refine ⟨by rfl, ?_⟩)) (by rfl) (by rfl) (by rfl) (by rfl) ?_
  refine X.assign (by rfl) (by rfl) ?_
  refine X.nil ?_
  refine Run.seq ?_
  refine Run.reg ?_
  refine X.move (by rfl) (by rfl) ?_
  refine X.move (by rfl) (by rfl) ?_
  refine X.move (by rfl) (by rfl) ?_
  refine X.move (by rfl) (by rfl) ?_
  refine X.callP (iOverlap_pc _ _ _ _ _ rfl) (by rfl) (by rfl) (by rfl) (by repeat (first | exact trivial | refine ⟨by rfl, ?_⟩)) (by rfl) (by rfl) (by rfl) (by rfl) ?_
  refine X.assign (by rfl) (by rfl) ?_
  refine X.nil ?_
  refine Run.seq ?_
  refine Run.seq ?_
  refine Run.reg ?_
  refine X.move (by rfl) (by rfl) ?_
  refine X.move (by rfl) (by rfl) ?_
  refine X.bin (by rfl) (by rfl) (by rfl) (by rfl) (by intro h; cases h) (by rfl) ?_
  refine X.nil ?_
  refine R.cond (by rfl) (fun hc67 => ?_) (fun hc67 => ?_)
  · have hq67 := hc67
    try simp only [decide_eq_true_eq, decide_eq_false_iff_not, Int.not_lt, Int.not_le, Bool.not_eq_true, Bool.not_eq_false, Bool.not_eq_eq_eq_not, Bool.not_true, Bool.not_false] at hq67
    refine Run.seq ?_
    refine Run.reg ?_
    refine X.assign (by rfl) (by rfl) ?_
    refine X.nil ?_
    refine R.fin1 Try.results5 (by rfl) (by rfl) ?_
    simp_all [ba_ne_self]
  · have hq67 := hc67
    try simp only [decide_eq_true_eq, decide_eq_false_iff_not, Int.not_lt, Int.not_le, Bool.not_eq_true, Bool.not_eq_false, Bool.not_eq_eq_eq_not, Bool.not_true, Bool.not_false] at hq67
    refine Run.skip ?_
    refine Run.seq ?_
    refine Run.reg ?_
    refine X.assign (by rfl) (by rfl) ?_
    refine X.nil ?_
    refine R.fin1 Try.results5 (by rfl) (by rfl) ?_
    rfl

end Go.Px.Ythdejnjjdihmfaa
