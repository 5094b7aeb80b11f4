/-
  PROVED: the rules, one an operation. Over any program. No condition beyond those that each theorem names.
-/
import Derived.Test.YthdejnjjdihmfaaPx19
namespace Go.Px
set_option linter.unusedSimpArgs false
set_option linter.unusedVariables false
open Go.RowKit

section
variable {P : Program} {N : Nat} {all : Array Oper} {F : Nat → Foot} {i : Nat} {rest : List Oper} {S M : List (Nat × PV)} {K : St → Prop} {d : Nat} {ty : TypeId} {pos : String} {after : Array Edge}

theorem X.ofOp {op : Op} {v : PV} {U : List (Nat × PV)} {R : List Nat} (ha : AOp P (St.of S M).ev (St.of S M).mem d op v U R) (hd : Nat.ble (d + 1) N = true) (hF : (F i).okB R (U.map (·.1)) = true) (h : SLx P N all F (i + 1) rest (St.of ((d, v) :: S) (U.reverse ++ M)) K) :
    SLx P N all F i (⟨some d, op, ty, pos, after, none⟩ :: rest) (St.of S M) K := by
  refine ⟨_, .op _ d op ty pos after none v U R (fun g want e => by cases e) ha (Nat.le_of_ble_eq_true hd) (okB_spec hF), ?_⟩
  rw [slot_of, upds_of S U M]
  exact h
theorem X.ofOp0 {op : Op} {v : PV} {U : List (Nat × PV)} {R : List Nat} (ha : AOp P (St.of S M).ev (St.of S M).mem 0 op v U R) (hF : (F i).okB R (U.map (·.1)) = true) (h : SLx P N all F (i + 1) rest (St.of S (U.reverse ++ M)) K) :
    SLx P N all F i (⟨none, op, ty, pos, after, none⟩ :: rest) (St.of S M) K := by
  refine ⟨_, .op0 _ op ty pos after none v U R (fun g want e => by cases e) ha (okB_spec hF), ?_⟩
  rw [upds_of S U M]
  exact h
theorem spliceK_eq {off sz : Nat} {cs ps cs' : List PV} (h : spliceK off cs ps some = some cs') (hl : ps.length = sz) : off + sz ≤ cs.length ∧ cs' = cs.take off ++ ps ++ cs.drop (off + sz) := by
  subst hl
  obtain ⟨h1, h2⟩ := spliceK_spec _ _ _ _ _ h
  exact ⟨h1, (Option.some.inj h2).symm⟩
theorem okB_nil (F : Foot) : F.okB [] [] = true := by cases F <;> rfl

theorem X.move {x : Operand} {v : PV} (hv : evO S x = some v := by rfl) (hd : Nat.ble (d + 1) N = true := by rfl) (h : SLx P N all F (i + 1) rest (St.of ((d, v) :: S) M) K) :
    SLx P N all F i (⟨some d, .move x, ty, pos, after, none⟩ :: rest) (St.of S M) K :=
  X.ofOp (v := v) (U := []) (R := []) (.move x v (evO_spec hv)) hd (okB_nil _) h
theorem X.assign {x : Operand} {v : PV} (hv : evO S x = some v := by rfl) (hd : Nat.ble (d + 1) N = true := by rfl) (h : SLx P N all F (i + 1) rest (St.of ((d, v) :: S) M) K) :
    SLx P N all F i (⟨some d, .assign x, ty, pos, after, none⟩ :: rest) (St.of S M) K :=
  X.ofOp (v := v) (U := []) (R := []) (.assign x v (evO_spec hv)) hd (okB_nil _) h
theorem X.pickT {c x y : Operand} {b : Bool} {v : PV} (hc : evO S c = some (.lit (.bool b)) := by rfl) (hb : b = true := by first | rfl | assumption) (hv : evO S x = some v := by rfl) (hd : Nat.ble (d + 1) N = true := by rfl) (h : SLx P N all F (i + 1) rest (St.of ((d, v) :: S) M) K) :
    SLx P N all F i (⟨some d, .pick c x y, ty, pos, after, none⟩ :: rest) (St.of S M) K :=
  X.ofOp (v := v) (U := []) (R := []) (.pick c x y b v (evO_spec hc) (by rw [hb]; exact evO_spec hv)) hd (okB_nil _) h
theorem X.pickF {c x y : Operand} {b : Bool} {v : PV} (hc : evO S c = some (.lit (.bool b)) := by rfl) (hb : b = false := by first | rfl | assumption) (hv : evO S y = some v := by rfl) (hd : Nat.ble (d + 1) N = true := by rfl) (h : SLx P N all F (i + 1) rest (St.of ((d, v) :: S) M) K) :
    SLx P N all F i (⟨some d, .pick c x y, ty, pos, after, none⟩ :: rest) (St.of S M) K :=
  X.ofOp (v := v) (U := []) (R := []) (.pick c x y b v (evO_spec hc) (by rw [hb]; exact evO_spec hv)) hd (okB_nil _) h
theorem X.bin {op : BinOp} {t t' : TypeId} {x y : Operand} {p q v : PV} (hx : evO S x = some p := by rfl) (hy : evO S y = some q := by rfl) (hk : sameKind p q = true := by rfl) (hv : binPV op p q = some v := by rfl) (hs : op ≠ .add := by (intro h; cases h)) (hd : Nat.ble (d + 1) N = true := by rfl) (h : SLx P N all F (i + 1) rest (St.of ((d, v) :: S) M) K) :
    SLx P N all F i (⟨some d, .binOp op t x y t', ty, pos, after, none⟩ :: rest) (St.of S M) K :=
  X.ofOp (v := v) (U := []) (R := []) (.bin op t t' x y p q v (evO_spec hx) (evO_spec hy) hk hv (fun _ _ _ _ e => absurd e hs)) hd (okB_nil _) h
theorem X.add {t t' : TypeId} {x y : Operand} {a b : Int} (hx : evO S x = some (.lit (.int .i64 a)) := by rfl) (hy : evO S y = some (.lit (.int .i64 b)) := by rfl) (hr : -9223372036854775808 ≤ a + b ∧ a + b ≤ 9223372036854775807 := by omega) (hd : Nat.ble (d + 1) N = true := by rfl) (h : SLx P N all F (i + 1) rest (St.of ((d, .lit (.int .i64 (a + b))) :: S) M) K) :
    SLx P N all F i (⟨some d, .binOp .add t x y t', ty, pos, after, none⟩ :: rest) (St.of S M) K :=
  X.ofOp (v := .lit (.int .i64 (a + b))) (U := []) (R := []) (.bin .add t t' x y _ _ _ (evO_spec hx) (evO_spec hy) rfl (by simp only [binPV]; rw [show IntKind.i64.wrap (a + b) = a + b from by rw [IntKind.wrap_i64]; omega]) (fun _ _ e => by cases e)) hd (okB_nil _) h
theorem X.addW {t t' : TypeId} {x y : Operand} {a b : Int} (hx : evO S x = some (.lit (.int .i64 a)) := by rfl) (hy : evO S y = some (.lit (.int .i64 b)) := by rfl) (hd : Nat.ble (d + 1) N = true := by rfl) (h : SLx P N all F (i + 1) rest (St.of ((d, .lit (.int .i64 (IntKind.i64.wrap (a + b)))) :: S) M) K) :
    SLx P N all F i (⟨some d, .binOp .add t x y t', ty, pos, after, none⟩ :: rest) (St.of S M) K :=
  X.ofOp (v := .lit (.int .i64 (IntKind.i64.wrap (a + b)))) (U := []) (R := []) (.bin .add t t' x y _ _ _ (evO_spec hx) (evO_spec hy) rfl rfl (fun _ _ e => by cases e)) hd (okB_nil _) h
theorem X.sub {t t' : TypeId} {x y : Operand} {a b : Int} (hx : evO S x = some (.lit (.int .i64 a)) := by rfl) (hy : evO S y = some (.lit (.int .i64 b)) := by rfl) (hr : -9223372036854775808 ≤ a - b ∧ a - b ≤ 9223372036854775807 := by omega) (hd : Nat.ble (d + 1) N = true := by rfl) (h : SLx P N all F (i + 1) rest (St.of ((d, .lit (.int .i64 (a - b))) :: S) M) K) :
    SLx P N all F i (⟨some d, .binOp .sub t x y t', ty, pos, after, none⟩ :: rest) (St.of S M) K :=
  X.ofOp (v := .lit (.int .i64 (a - b))) (U := []) (R := []) (.bin .sub t t' x y _ _ _ (evO_spec hx) (evO_spec hy) rfl (by simp only [binPV]; rw [show IntKind.i64.wrap (a - b) = a - b from by rw [IntKind.wrap_i64]; omega]) (fun _ _ e => by cases e)) hd (okB_nil _) h
theorem X.subW {t t' : TypeId} {x y : Operand} {a b : Int} (hx : evO S x = some (.lit (.int .i64 a)) := by rfl) (hy : evO S y = some (.lit (.int .i64 b)) := by rfl) (hd : Nat.ble (d + 1) N = true := by rfl) (h : SLx P N all F (i + 1) rest (St.of ((d, .lit (.int .i64 (IntKind.i64.wrap (a - b)))) :: S) M) K) :
    SLx P N all F i (⟨some d, .binOp .sub t x y t', ty, pos, after, none⟩ :: rest) (St.of S M) K :=
  X.ofOp (v := .lit (.int .i64 (IntKind.i64.wrap (a - b)))) (U := []) (R := []) (.bin .sub t t' x y _ _ _ (evO_spec hx) (evO_spec hy) rfl rfl (fun _ _ e => by cases e)) hd (okB_nil _) h
theorem X.mul {t t' : TypeId} {x y : Operand} {a b : Int} (hx : evO S x = some (.lit (.int .i64 a)) := by rfl) (hy : evO S y = some (.lit (.int .i64 b)) := by rfl) (hr : -9223372036854775808 ≤ a * b ∧ a * b ≤ 9223372036854775807 := by omega) (hd : Nat.ble (d + 1) N = true := by rfl) (h : SLx P N all F (i + 1) rest (St.of ((d, .lit (.int .i64 (a * b))) :: S) M) K) :
    SLx P N all F i (⟨some d, .binOp .mul t x y t', ty, pos, after, none⟩ :: rest) (St.of S M) K :=
  X.ofOp (v := .lit (.int .i64 (a * b))) (U := []) (R := []) (.bin .mul t t' x y _ _ _ (evO_spec hx) (evO_spec hy) rfl (by simp only [binPV]; rw [show IntKind.i64.wrap (a * b) = a * b from by rw [IntKind.wrap_i64]; omega]) (fun _ _ e => by cases e)) hd (okB_nil _) h
theorem X.mulW {t t' : TypeId} {x y : Operand} {a b : Int} (hx : evO S x = some (.lit (.int .i64 a)) := by rfl) (hy : evO S y = some (.lit (.int .i64 b)) := by rfl) (hd : Nat.ble (d + 1) N = true := by rfl) (h : SLx P N all F (i + 1) rest (St.of ((d, .lit (.int .i64 (IntKind.i64.wrap (a * b)))) :: S) M) K) :
    SLx P N all F i (⟨some d, .binOp .mul t x y t', ty, pos, after, none⟩ :: rest) (St.of S M) K :=
  X.ofOp (v := .lit (.int .i64 (IntKind.i64.wrap (a * b)))) (U := []) (R := []) (.bin .mul t t' x y _ _ _ (evO_spec hx) (evO_spec hy) rfl rfl (fun _ _ e => by cases e)) hd (okB_nil _) h
theorem X.cat {t t' : TypeId} {x y : Operand} {a b : ByteArray} (hx : evO S x = some (.lit (.string a)) := by rfl) (hy : evO S y = some (.lit (.string b)) := by rfl) (hs : a.size + b.size ≤ 9223372036854775807) (hd : Nat.ble (d + 1) N = true := by rfl) (h : SLx P N all F (i + 1) rest (St.of ((d, .lit (.string (a ++ b))) :: S) M) K) :
    SLx P N all F i (⟨some d, .binOp .add t x y t', ty, pos, after, none⟩ :: rest) (St.of S M) K :=
  X.ofOp (v := .lit (.string (a ++ b))) (U := []) (R := []) (.bin .add t t' x y _ _ _ (evO_spec hx) (evO_spec hy) rfl rfl (fun b c e1 e2 _ => by cases e1; cases e2; exact hs)) hd (okB_nil _) h
theorem X.neqErr {t t' : TypeId} {x : Operand} {ms : Array (String × TypeId)} (ht : P.underlying t = some (.interface ms)) (hx : evO S x = some .err := by rfl) (hd : Nat.ble (d + 1) N = true := by rfl) (h : SLx P N all F (i + 1) rest (St.of ((d, .lit (.bool true)) :: S) M) K) :
    SLx P N all F i (⟨some d, .binOp .neq t x (.const .nilIface) t', ty, pos, after, none⟩ :: rest) (St.of S M) K :=
  X.ofOp (v := .lit (.bool true)) (U := []) (R := []) (.neqErr t t' x ms ht (evO_spec hx)) hd (okB_nil _) h
theorem X.neqNil {t t' : TypeId} {x : Operand} {ms : Array (String × TypeId)} (ht : P.underlying t = some (.interface ms)) (hx : evO S x = some (.lit .nilIface) := by rfl) (hd : Nat.ble (d + 1) N = true := by rfl) (h : SLx P N all F (i + 1) rest (St.of ((d, .lit (.bool false)) :: S) M) K) :
    SLx P N all F i (⟨some d, .binOp .neq t x (.const .nilIface) t', ty, pos, after, none⟩ :: rest) (St.of S M) K :=
  X.ofOp (v := .lit (.bool false)) (U := []) (R := []) (.neqNil t t' x ms ht (evO_spec hx)) hd (okB_nil _) h
theorem X.un {op : UnOp} {t : TypeId} {x : Operand} {p v : PV} (hx : evO S x = some p := by rfl) (hv : unPV op p = some v := by rfl) (hd : Nat.ble (d + 1) N = true := by rfl) (h : SLx P N all F (i + 1) rest (St.of ((d, v) :: S) M) K) :
    SLx P N all F i (⟨some d, .unOp op t x, ty, pos, after, none⟩ :: rest) (St.of S M) K :=
  X.ofOp (v := v) (U := []) (R := []) (.un op t x p v (evO_spec hx) hv) hd (okB_nil _) h
theorem X.conv {t t' : TypeId} {x : Operand} {k k' : IntKind} {n : Int} (ht : P.underlying t' = some (.int k')) (hs : (P.underlying t).isSome = true) (hx : evO S x = some (.lit (.int k n)) := by rfl) (hd : Nat.ble (d + 1) N = true := by rfl) (h : SLx P N all F (i + 1) rest (St.of ((d, .lit (.int k' (k'.wrap n))) :: S) M) K) :
    SLx P N all F i (⟨some d, .convert t t' x, ty, pos, after, none⟩ :: rest) (St.of S M) K :=
  X.ofOp (v := .lit (.int k' (k'.wrap n))) (U := []) (R := []) (.conv t t' x k k' n ht hs (evO_spec hx)) hd (okB_nil _) h
theorem X.load_l {t : TypeId} {x : Operand} {n off : Nat} {y : Bool} {cs : List PV} {v : PV} {g : Bool} {sz : Nat} (ht : shp P t = some (g, sz)) (hg : (g || Nat.beq sz 1) = true := by rfl) (hx : evO S x = some (.lptr n off) := by rfl) (hm : look M n = some (.blk y cs) := by rfl) (hv : loadK g sz off cs = some v := by rfl) (hd : Nat.ble (d + 1) N = true := by rfl) (hF : (F i).okB [n] [] = true := by rfl) (h : SLx P N all F (i + 1) rest (St.of ((d, v) :: S) M) K) :
    SLx P N all F i (⟨some d, .load t x, ty, pos, after, none⟩ :: rest) (St.of S M) K :=
  X.ofOp (v := v) (U := []) (R := [n]) (.load_l t x g sz n off y cs v ht (by cases g <;> simp_all) (evO_spec hx) (look_mem hm) (loadK_spec hv)) hd hF h
theorem X.load_c {t : TypeId} {x : Operand} {off : Nat} {cs : List PV} {v : PV} {g : Bool} {sz : Nat} (ht : shp P t = some (g, sz)) (hg : (g || Nat.beq sz 1) = true := by rfl) (hx : evO S x = some (.cptr cs off) := by rfl) (hv : loadK g sz off cs = some v := by rfl) (hd : Nat.ble (d + 1) N = true := by rfl) (h : SLx P N all F (i + 1) rest (St.of ((d, v) :: S) M) K) :
    SLx P N all F i (⟨some d, .load t x, ty, pos, after, none⟩ :: rest) (St.of S M) K :=
  X.ofOp (v := v) (U := []) (R := []) (.load_c t x g sz off cs v ht (by cases g <;> simp_all) (evO_spec hx) (loadK_spec hv)) hd (okB_nil _) h
theorem X.load_e {t : TypeId} {x : Operand} {n k j off : Nat} {y : Bool} {e sz' : Nat} {l : List PV} {el v : PV} {g : Bool} {sz : Nat} (ht : shp P t = some (g, sz)) (hg : (g || Nat.beq sz 1) = true := by rfl) (hx : evO S x = some (.eptr n k j off) := by rfl) (hm : look M n = some (.obj y e sz' l) := by rfl) (hk : k = l.length) (hi : l[j]? = some el) (hv : loadK g sz off el.cells = some v := by rfl) (hd : Nat.ble (d + 1) N = true := by rfl) (hF : (F i).okB [n] [] = true := by rfl) (h : SLx P N all F (i + 1) rest (St.of ((d, v) :: S) M) K) :
    SLx P N all F i (⟨some d, .load t x, ty, pos, after, none⟩ :: rest) (St.of S M) K :=
  X.ofOp (v := v) (U := []) (R := [n]) (.load_e t x g sz n k j off y e sz' l el v ht (by cases g <;> simp_all) (evO_spec hx) (look_mem hm) hk hi (loadK_spec hv)) hd hF h
theorem X.store_l {t : TypeId} {x y : Operand} {n off : Nat} {cs cs' : List PV} {p : PV} {R : List Nat} {C : List (Nat × Nat)} {g : Bool} {sz : Nat} (ht : shp P t = some (g, sz)) (hx : evO S x = some (.lptr n off) := by rfl) (hm : look M n = some (.blk true cs) := by rfl) (hy : evO S y = some p := by rfl) (hp : curO M p = some (R, C) := by rfl) (hC : AllEq C := by repeat (first | exact trivial | refine ⟨rfl, ?_⟩)) (hl : p.cells.length = sz := by rfl) (hc : spliceK off cs p.cells some = some cs' := by rfl) (hF : (F i).okB (n :: R) [n] = true := by rfl) (h : SLx P N all F (i + 1) rest (St.of S ((n, .blk true cs') :: M)) K) :
    SLx P N all F i (⟨none, .store t x y, ty, pos, after, none⟩ :: rest) (St.of S M) K :=
  X.ofOp0 (v := .undef) (U := [(n, .blk true cs')]) (R := (n :: R)) (by obtain ⟨h1, e⟩ := spliceK_eq hc hl; subst e; exact .store_l t x y g sz n off cs p ht (evO_spec hx) (look_mem hm) (evO_spec hy) (curO_spec hp hC).1 hl h1 R (curO_spec (S := S) hp hC).2) hF h
theorem X.store_e {t : TypeId} {x y : Operand} {n k j off e sz' : Nat} {l : List PV} {el p p' : PV} {R : List Nat} {C : List (Nat × Nat)} {g : Bool} {sz : Nat} (ht : shp P t = some (g, sz)) (hx : evO S x = some (.eptr n k j off) := by rfl) (hm : look M n = some (.obj true e sz' l) := by rfl) (hk : k = l.length) (hi : l[j]? = some el) (hy : evO S y = some p := by rfl) (hp : purL M [p] = some ([p'], R, C) := by rfl) (hC : AllEq C := by repeat (first | exact trivial | refine ⟨rfl, ?_⟩)) (h0 : Nat.ble 1 sz = true := by rfl) (hl : p'.cells.length = sz := by rfl) (hfit : Nat.ble (off + sz) sz' = true := by rfl) (hF : (F i).okB (n :: R) [n] = true := by rfl) (h : SLx P N all F (i + 1) rest (St.of S ((n, .obj true e sz' (l.set j (setEl el off p'))) :: M)) K) :
    SLx P N all F i (⟨none, .store t x y, ty, pos, after, none⟩ :: rest) (St.of S M) K :=
  X.ofOp0 (v := .undef) (U := [(n, .obj true e sz' (l.set j (setEl el off p')))]) (R := (n :: R)) (.store_e t x y g sz n k j off e sz' l el p p' R ht (Nat.le_of_ble_eq_true h0) (evO_spec hx) (look_mem hm) hk hi (evO_spec hy) (purL_spec hp hC) hl (Nat.le_of_ble_eq_true hfit)) hF h
theorem X.nilChk {x : Operand} {v : PV} (hx : evO S x = some v := by rfl) (hp : isPtr v = true := by rfl) (hd : Nat.ble (d + 1) N = true := by rfl) (h : SLx P N all F (i + 1) rest (St.of ((d, v) :: S) M) K) :
    SLx P N all F i (⟨some d, .nilCheck x, ty, pos, after, none⟩ :: rest) (St.of S M) K :=
  X.ofOp (v := v) (U := []) (R := []) (.nilChk x v (evO_spec hx) hp) hd (okB_nil _) h
theorem X.alloc {t : TypeId} {z : List PV} (hz : zeroPV P t = some z) (hm : look M (64 * d) = none := by rfl) (hd : Nat.ble (d + 1) N = true := by rfl) (hF : (F i).okB [64 * d] [64 * d] = true := by rfl) (h : SLx P N all F (i + 1) rest (St.of ((d, .lptr (64 * d) 0) :: S) ((64 * d, .blk true z) :: M)) K) :
    SLx P N all F i (⟨some d, .alloc t, ty, pos, after, none⟩ :: rest) (St.of S M) K :=
  X.ofOp (v := .lptr (64 * d) 0) (U := [(64 * d, .blk true z)]) (R := [64 * d]) (.alloc t z hz (look_none hm)) hd hF h
theorem X.box {t : TypeId} {x : Operand} {p : PV} {R : List Nat} {C : List (Nat × Nat)} (hx : evO S x = some p := by rfl) (hp : curO M p = some (R, C) := by rfl) (hC : AllEq C := by repeat (first | exact trivial | refine ⟨rfl, ?_⟩)) (hm : look M (64 * d) = none := by rfl) {cs : List PV} (hcs : some p.cells = some cs := by rfl) (hd : Nat.ble (d + 1) N = true := by rfl) (hF : (F i).okB (64 * d :: R) [64 * d] = true := by rfl) (h : SLx P N all F (i + 1) rest (St.of ((d, .lptr (64 * d) 0) :: S) ((64 * d, .blk true cs) :: M)) K) :
    SLx P N all F i (⟨some d, .box t x, ty, pos, after, none⟩ :: rest) (St.of S M) K :=
  X.ofOp (v := .lptr (64 * d) 0) (U := [(64 * d, .blk true cs)]) (R := (64 * d :: R)) (by cases hcs; exact .box t x p R (evO_spec hx) (curO_spec hp hC).1 (look_none hm) (curO_spec (S := S) hp hC).2) hd hF h
theorem X.fieldAddr_l {t : TypeId} {x : Operand} {f n off o' : Nat} (ht : fldOff P t f = some o') (hx : evO S x = some (.lptr n off) := by rfl) (hd : Nat.ble (d + 1) N = true := by rfl) (h : SLx P N all F (i + 1) rest (St.of ((d, .lptr n (off + o')) :: S) M) K) :
    SLx P N all F i (⟨some d, .fieldAddr t x f, ty, pos, after, none⟩ :: rest) (St.of S M) K :=
  X.ofOp (v := .lptr n (off + o')) (U := []) (R := []) (.fieldAddr_l t x f n off o' ht (evO_spec hx)) hd (okB_nil _) h
theorem X.fieldAddr_c {t : TypeId} {x : Operand} {f off o' : Nat} {cs : List PV} (ht : fldOff P t f = some o') (hx : evO S x = some (.cptr cs off) := by rfl) (hd : Nat.ble (d + 1) N = true := by rfl) (h : SLx P N all F (i + 1) rest (St.of ((d, .cptr cs (off + o')) :: S) M) K) :
    SLx P N all F i (⟨some d, .fieldAddr t x f, ty, pos, after, none⟩ :: rest) (St.of S M) K :=
  X.ofOp (v := .cptr cs (off + o')) (U := []) (R := []) (.fieldAddr_c t x f off o' cs ht (evO_spec hx)) hd (okB_nil _) h
theorem X.fieldAddr_e {t : TypeId} {x : Operand} {f n k j off o' : Nat} {y : Bool} {e sz : Nat} {l : List PV} (ht : fldOff P t f = some o') (hx : evO S x = some (.eptr n k j off) := by rfl) (hm : look M n = some (.obj y e sz l) := by rfl) (hk : k = l.length) (hd : Nat.ble (d + 1) N = true := by rfl) (hF : (F i).okB [n] [] = true := by rfl) (h : SLx P N all F (i + 1) rest (St.of ((d, .eptr n k j (off + o')) :: S) M) K) :
    SLx P N all F i (⟨some d, .fieldAddr t x f, ty, pos, after, none⟩ :: rest) (St.of S M) K :=
  X.ofOp (v := .eptr n k j (off + o')) (U := []) (R := [n]) (.fieldAddr_e t x f n k j off o' y e sz l ht (evO_spec hx) (look_mem hm) hk) hd hF h
theorem X.index_s {t : TypeId} {x y : Operand} {e sz by' : Nat} {l : List PV} {k : IntKind} {j : Int} {el : PV} {cs : List PV} (ht : eltOf P t = some (e, sz, by')) (hx : evO S x = some (.slice l) := by rfl) (hy : evO S y = some (.lit (.int k j)) := by rfl) (h0 : 0 ≤ j) (hi : l[j.toNat]? = some el) (hcs : el.cells = cs) (hsz : cs.length = sz) (hd : Nat.ble (d + 1) N = true := by rfl) (h : SLx P N all F (i + 1) rest (St.of ((d, .cptr cs 0) :: S) M) K) :
    SLx P N all F i (⟨some d, .indexAddr t x y, ty, pos, after, none⟩ :: rest) (St.of S M) K :=
  X.ofOp (v := .cptr cs 0) (U := []) (R := []) (by subst hcs; exact .indexAddr_s t x y e sz by' l k j el ht (evO_spec hx) (evO_spec hy) h0 hi hsz) hd (okB_nil _) h
theorem X.index_o {t : TypeId} {x y : Operand} {e sz by' n k' : Nat} {l : List PV} {k : IntKind} {j : Int} {el : PV} {cs : List PV} (ht : eltOf P t = some (e, sz, by')) (hx : evO S x = some (.own n k') := by rfl) (hm : look M n = some (.obj false e sz l) := by rfl) (hk : k' = l.length) (hy : evO S y = some (.lit (.int k j)) := by rfl) (h0 : 0 ≤ j) (hi : l[j.toNat]? = some el) (hcs : el.cells = cs) (hd : Nat.ble (d + 1) N = true := by rfl) (hF : (F i).okB [n] [] = true := by rfl) (h : SLx P N all F (i + 1) rest (St.of ((d, .cptr cs 0) :: S) M) K) :
    SLx P N all F i (⟨some d, .indexAddr t x y, ty, pos, after, none⟩ :: rest) (St.of S M) K :=
  X.ofOp (v := .cptr cs 0) (U := []) (R := [n]) (by subst hcs; exact .indexAddr_o t x y e sz by' n k' l k j el ht (evO_spec hx) (look_mem hm) hk (evO_spec hy) h0 hi) hd hF h
theorem X.index_x {t : TypeId} {x y : Operand} {e sz by' n k' : Nat} {b : Bool} {l : List PV} {k : IntKind} {j : Int} {m : Nat} (ht : eltOf P t = some (e, sz, by')) (hx : evO S x = some (.own n k') := by rfl) (hm : look M n = some (.obj b e sz l) := by rfl) (hk : k' = l.length) (hy : evO S y = some (.lit (.int k j)) := by rfl) (hj : j = m) (hi : m < l.length) (hd : Nat.ble (d + 1) N = true := by rfl) (hF : (F i).okB [n] [] = true := by rfl) (h : SLx P N all F (i + 1) rest (St.of ((d, .eptr n k' m 0) :: S) M) K) :
    SLx P N all F i (⟨some d, .indexAddr t x y, ty, pos, after, none⟩ :: rest) (St.of S M) K :=
  X.ofOp (v := .eptr n k' m 0) (U := []) (R := [n]) (by subst hj; exact .indexAddr_x t x y e sz by' n k' b l k _ ht (evO_spec hx) (look_mem hm) hk (evO_spec hy) (by omega) (by omega)) hd hF h
theorem X.index_a {t : TypeId} {x y : Operand} {len sz n off m : Nat} {k : IntKind} {j : Int} (ht : arrOf P t = some (len, sz)) (hx : evO S x = some (.lptr n off) := by rfl) (hy : evO S y = some (.lit (.int k j)) := by rfl) (hj : j = m) (hi : m < len) (hd : Nat.ble (d + 1) N = true := by rfl) (h : SLx P N all F (i + 1) rest (St.of ((d, .lptr n (off + m * sz)) :: S) M) K) :
    SLx P N all F i (⟨some d, .indexAddr t x y, ty, pos, after, none⟩ :: rest) (St.of S M) K :=
  X.ofOp (v := .lptr n (off + m * sz)) (U := []) (R := []) (by subst hj; exact .indexAddr_a t x y len sz n off k _ ht (evO_spec hx) (evO_spec hy) (by omega) (by omega)) hd (okB_nil _) h
theorem X.indexStr {t : TypeId} {x y : Operand} {b : ByteArray} {k : IntKind} {j : Int} {u : UInt8} (ht : P.underlying t = some .string) (hx : evO S x = some (.lit (.string b)) := by rfl) (hy : evO S y = some (.lit (.int k j)) := by rfl) (h0 : 0 ≤ j) (hi : b[j.toNat]? = some u) (hd : Nat.ble (d + 1) N = true := by rfl) (h : SLx P N all F (i + 1) rest (St.of ((d, .lit (.int .u8 u.toNat)) :: S) M) K) :
    SLx P N all F i (⟨some d, .index t x y, ty, pos, after, none⟩ :: rest) (St.of S M) K :=
  X.ofOp (v := .lit (.int .u8 u.toNat)) (U := []) (R := []) (.indexStr t x y b k j u ht (evO_spec hx) (evO_spec hy) h0 hi) hd (okB_nil _) h
theorem X.extract {x : Operand} {j : Nat} {vs : List PV} {v : PV} (hx : evO S x = some (.tuple vs) := by rfl) (hv : vs[j]? = some v := by rfl) (hd : Nat.ble (d + 1) N = true := by rfl) (h : SLx P N all F (i + 1) rest (St.of ((d, v) :: S) M) K) :
    SLx P N all F i (⟨some d, .extract x j, ty, pos, after, none⟩ :: rest) (St.of S M) K :=
  X.ofOp (v := v) (U := []) (R := []) (.extract x j vs v (evO_spec hx) hv) hd (okB_nil _) h
theorem X.lenStr {t : TypeId} {x : Operand} {b : ByteArray} (ht : P.underlying t = some .string) (hx : evO S x = some (.lit (.string b)) := by rfl) (hd : Nat.ble (d + 1) N = true := by rfl) (h : SLx P N all F (i + 1) rest (St.of ((d, .lit (.int .i64 b.size)) :: S) M) K) :
    SLx P N all F i (⟨some d, .call { callee := .builtin .len, args := #[x], argTypes := #[t] }, ty, pos, after, none⟩ :: rest) (St.of S M) K :=
  X.ofOp (v := .lit (.int .i64 b.size)) (U := []) (R := []) (.lenStr t x b ht (evO_spec hx)) hd (okB_nil _) h
theorem X.len_s {t : TypeId} {x : Operand} {e sz by' : Nat} {l : List PV} (ht : eltOf P t = some (e, sz, by')) (hx : evO S x = some (.slice l) := by rfl) {n : Nat} (hn : l.length = n) (hd : Nat.ble (d + 1) N = true := by rfl) (h : SLx P N all F (i + 1) rest (St.of ((d, .lit (.int .i64 n)) :: S) M) K) :
    SLx P N all F i (⟨some d, .call { callee := .builtin .len, args := #[x], argTypes := #[t] }, ty, pos, after, none⟩ :: rest) (St.of S M) K :=
  X.ofOp (v := .lit (.int .i64 n)) (U := []) (R := []) (by subst hn; exact .lenLst t x _ l [] e sz by' ht (evO_spec hx) (.pure l)) hd (okB_nil _) h
theorem X.len_n {t : TypeId} {x : Operand} {e sz by' : Nat} (ht : eltOf P t = some (e, sz, by')) (hx : evO S x = some .nils := by rfl) (hd : Nat.ble (d + 1) N = true := by rfl) (h : SLx P N all F (i + 1) rest (St.of ((d, .lit (.int .i64 0)) :: S) M) K) :
    SLx P N all F i (⟨some d, .call { callee := .builtin .len, args := #[x], argTypes := #[t] }, ty, pos, after, none⟩ :: rest) (St.of S M) K :=
  X.ofOp (v := .lit (.int .i64 0)) (U := []) (R := []) (.lenLst t x _ [] [] e sz by' ht (evO_spec hx) .nils) hd (okB_nil _) h
theorem X.len_o {t : TypeId} {x : Operand} {e sz by' n k : Nat} {y : Bool} {e' sz' : Nat} {l : List PV} (ht : eltOf P t = some (e, sz, by')) (hx : evO S x = some (.own n k) := by rfl) (hm : look M n = some (.obj y e' sz' l) := by rfl) (hk : k = l.length) {m : Nat} (hn : l.length = m) (hd : Nat.ble (d + 1) N = true := by rfl) (hF : (F i).okB [n] [] = true := by rfl) (h : SLx P N all F (i + 1) rest (St.of ((d, .lit (.int .i64 m)) :: S) M) K) :
    SLx P N all F i (⟨some d, .call { callee := .builtin .len, args := #[x], argTypes := #[t] }, ty, pos, after, none⟩ :: rest) (St.of S M) K :=
  X.ofOp (v := .lit (.int .i64 m)) (U := []) (R := [n]) (by subst hn; exact .lenLst t x _ l [n] e sz by' ht (evO_spec hx) (.own n k y e' sz' l (look_mem hm) hk)) hd hF h
theorem X.max2 {t t' : TypeId} {x y : Operand} {k : IntKind} {a b : Int} (hx : evO S x = some (.lit (.int k a)) := by rfl) (hy : evO S y = some (.lit (.int k b)) := by rfl) (hd : Nat.ble (d + 1) N = true := by rfl) (h : SLx P N all F (i + 1) rest (St.of ((d, .lit (.int k (max a b))) :: S) M) K) :
    SLx P N all F i (⟨some d, .call { callee := .builtin .max, args := #[x, y], argTypes := #[t, t'] }, ty, pos, after, none⟩ :: rest) (St.of S M) K :=
  X.ofOp (v := .lit (.int k (max a b))) (U := []) (R := []) (.max2 t t' x y k a b (evO_spec hx) (evO_spec hy)) hd (okB_nil _) h
theorem X.min2 {t t' : TypeId} {x y : Operand} {k : IntKind} {a b : Int} (hx : evO S x = some (.lit (.int k a)) := by rfl) (hy : evO S y = some (.lit (.int k b)) := by rfl) (hd : Nat.ble (d + 1) N = true := by rfl) (h : SLx P N all F (i + 1) rest (St.of ((d, .lit (.int k (min a b))) :: S) M) K) :
    SLx P N all F i (⟨some d, .call { callee := .builtin .min, args := #[x, y], argTypes := #[t, t'] }, ty, pos, after, none⟩ :: rest) (St.of S M) K :=
  X.ofOp (v := .lit (.int k (min a b))) (U := []) (R := []) (.min2 t t' x y k a b (evO_spec hx) (evO_spec hy)) hd (okB_nil _) h
theorem X.buildSlice {t len : Nat} {parts : Array (Nat × Operand)} {e sz by' : Nat} {z ps ps' : List PV} {R : List Nat} {C : List (Nat × Nat)} (y : Bool) (ht : eltOf P t = some (e, sz, by')) (hz : zeroPV P e = some z) (h0 : Nat.ble 1 sz = true := by rfl) (hlen : Nat.ble (len * sz) 65536 = true := by rfl) (hzl : z.length = sz := by rfl) (hidx : parts.toList.map (·.1) = List.range len := by rfl) (hps : evL S (parts.toList.map (·.2)) = some ps := by rfl) (hp : purL M ps = some (ps', R, C) := by rfl) (hC : AllEq C := by repeat (first | exact trivial | refine ⟨rfl, ?_⟩)) (hsz : ∀ p ∈ ps', p.cells.length = sz := by simp [PV.cells]) (hm : look M (64 * d) = none := by rfl) (hd : Nat.ble (d + 1) N = true := by rfl) (hF : (F i).okB (64 * d :: R) [64 * d] = true := by rfl) (h : SLx P N all F (i + 1) rest (St.of ((d, .own (64 * d) ps'.length) :: S) ((64 * d, .obj y e sz ps') :: M)) K) :
    SLx P N all F i (⟨some d, .buildSlice t len parts, ty, pos, after, none⟩ :: rest) (St.of S M) K :=
  X.ofOp (v := .own (64 * d) ps'.length) (U := [(64 * d, .obj y e sz ps')]) (R := (64 * d :: R)) (.buildSlice y t len parts e sz by' ps ps' R ht (Nat.le_of_ble_eq_true h0) (Nat.le_of_ble_eq_true hlen) (by rw [hz]; rfl) (fun z' e => by rw [hz] at e; cases e; exact hzl) hidx (by have := evL_spec (M := M) hps; rw [List.map_map] at this; exact this) (purL_spec hp hC) hsz (look_none hm)) hd hF h
theorem X.append {t : TypeId} {x y : Operand} {n k : Nat} {b : Bool} {e sz by' : Nat} {l lb : List PV} {z : List PV} {q : PV} {R : List Nat} (ht : eltOf P t = some (e, sz, by')) (hz : zeroPV P e = some z) (hx : evO S x = some (.own n k) := by rfl) (hm : look M n = some (.obj b e sz l) := by rfl) (hk : k = l.length) (hy : evO S y = some q := by rfl) (hq : Lst (St.of S M).mem q lb R) (hlb : ∀ e ∈ lb, e.cells.length = sz) (hn : l.length + lb.length ≤ 1099511627776) {l2 : List PV} (hl : l ++ lb = l2) (hzl : z.length = sz := by rfl) (hb : Nat.ble by' 128 = true := by rfl) (hd : Nat.ble (d + 1) N = true := by rfl) (hF : (F i).okB (n :: R) [n] = true := by rfl) (h : SLx P N all F (i + 1) rest (St.of ((d, .own n l2.length) :: S) ((n, .obj b e sz l2) :: M)) K) :
    SLx P N all F i (⟨some d, .call { callee := .builtin .append, args := #[x, y], argTypes := #[t, t] }, ty, pos, after, none⟩ :: rest) (St.of S M) K :=
  X.ofOp (v := .own n l2.length) (U := [(n, .obj b e sz l2)]) (R := (n :: R)) (by subst hl; rw [List.length_append]; exact .append t x y n k b e sz by' l lb z q R ht hz hzl (evO_spec hx) (look_mem hm) hk (evO_spec hy) hq hlb (Nat.le_of_ble_eq_true hb) hn) hd hF h
theorem X.appendNil {t : TypeId} {x y : Operand} {e sz by' : Nat} {lb : List PV} {z : List PV} {q : PV} {R : List Nat} (b : Bool) (ht : eltOf P t = some (e, sz, by')) (hz : zeroPV P e = some z) (hx : evO S x = some .nils := by rfl) (hy : evO S y = some q := by rfl) (hq : Lst (St.of S M).mem q lb R) (hlb : ∀ e ∈ lb, e.cells.length = sz) (hn : lb.length ≤ 1099511627776) (h0 : Nat.ble 1 sz = true := by rfl) (hzl : z.length = sz := by rfl) (hb : Nat.ble by' 128 = true := by rfl) (hm : look M (64 * d) = none := by rfl) (hd : Nat.ble (d + 1) N = true := by rfl) (hF : (F i).okB (64 * d :: R) [64 * d] = true := by rfl) (h : SLx P N all F (i + 1) rest (St.of ((d, .own (64 * d) lb.length) :: S) ((64 * d, .obj b e sz lb) :: M)) K) :
    SLx P N all F i (⟨some d, .call { callee := .builtin .append, args := #[x, y], argTypes := #[t, t] }, ty, pos, after, none⟩ :: rest) (St.of S M) K :=
  X.ofOp (v := .own (64 * d) lb.length) (U := [(64 * d, .obj b e sz lb)]) (R := (64 * d :: R)) (.appendNil b t x y e sz by' lb z q R ht (Nat.le_of_ble_eq_true h0) hz hzl (evO_spec hx) (evO_spec hy) hq hlb (Nat.le_of_ble_eq_true hb) hn (look_none hm)) hd hF h
theorem X.makeSlice {t : TypeId} {x y : Operand} {e sz by' : Nat} {z : List PV} {k k' : IntKind} {j : Int} {n : Nat} (el : PV) (ht : eltOf P t = some (e, sz, by')) (hz : zeroPV P e = some z) (hel : el.cells = z) (hx : evO S x = some (.lit (.int k j)) := by rfl) (hy : evO S y = some (.lit (.int k' j)) := by rfl) (hj : j = n) (hn : n ≤ 1099511627776) (hp : ∀ c ∈ z, c.plain = true := by simp [PV.plain]) (h0 : Nat.ble 1 sz = true := by rfl) (hzl : z.length = sz := by rfl) (hb : Nat.ble by' 128 = true := by rfl) (hm : look M (64 * d) = none := by rfl) (hd : Nat.ble (d + 1) N = true := by rfl) (hF : (F i).okB [64 * d] [64 * d] = true := by rfl) (h : SLx P N all F (i + 1) rest (St.of ((d, .own (64 * d) n) :: S) ((64 * d, .obj true e sz (List.replicate n el)) :: M)) K) :
    SLx P N all F i (⟨some d, .makeSlice t x y, ty, pos, after, none⟩ :: rest) (St.of S M) K :=
  X.ofOp (v := .own (64 * d) n) (U := [(64 * d, .obj true e sz (List.replicate n el))]) (R := [64 * d]) (by subst hj; have := AOp.makeSlice (P := P) (σ := (St.of S M).ev) (m := (St.of S M).mem) (d := d) t x y e sz by' z el k k' (n : Int) ht (Nat.le_of_ble_eq_true h0) hz hel hzl hp (evO_spec hx) (evO_spec hy) (by omega) (by omega) (Nat.le_of_ble_eq_true hb) (look_none hm); simpa using this) hd hF h
theorem X.makeFunc {f : FuncId} {caps : Array Operand} {ps ps' : List PV} {R : List Nat} {C : List (Nat × Nat)} (hps : evL S caps.toList = some ps := by rfl) (hp : purL M ps = some (ps', R, C) := by rfl) (hC : AllEq C := by repeat (first | exact trivial | refine ⟨rfl, ?_⟩)) (hd : Nat.ble (d + 1) N = true := by rfl) (hF : (F i).okB R [] = true := by rfl) (h : SLx P N all F (i + 1) rest (St.of ((d, .fn f ps') :: S) M) K) :
    SLx P N all F i (⟨some d, .makeFunc (.func f) #[] caps, ty, pos, after, none⟩ :: rest) (St.of S M) K :=
  X.ofOp (v := .fn f ps') (U := []) (R := R) (.makeFunc f caps ps ps' R (evL_spec hps) (purL_spec hp hC)) hd hF h

/-- A call. -/
theorem X.call {fo : Operand} {args : Array Operand} {ats : Array TypeId} {f : FuncId} {caps ps ps' ps2 : List PV} {r p : PV} {R : List Nat} {C : List (Nat × Nat)} {U : List (Nat × PV)} {n' : Nat} (hf : evO S fo = some (.fn f caps)) (hps : evL S args.toList = some ps) (hp : purL M ps = some (ps', R, C)) (hC : AllEq C)
    (ha : ps' ++ caps = ps2) (hc : PC P f ps2 r) (hr : RecvL (64 * d) [r] [p] U n') (hU : ∀ q ∈ U, look M q.1 = none) (hd : Nat.ble (d + 1) N = true) (hF : (F i).okB R (U.map (·.1)) = true) (h : SLx P N all F (i + 1) rest (St.of ((d, p) :: S) (U.reverse ++ M)) K) :
    SLx P N all F i (⟨some d, .call { callee := .value fo, args := args, argTypes := ats }, ty, pos, after, none⟩ :: rest) (St.of S M) K := by
  subst ha
  refine ⟨_, .call _ d fo args ats ty pos after none f caps ps ps' r p R U n' (fun g want e => by cases e) (evO_spec hf) (evL_spec hps) (purL_spec hp hC) hc hr (fun q hq => look_none (hU q hq)) (Nat.le_of_ble_eq_true hd) (okB_spec hF), ?_⟩
  rw [slot_of, upds_of S U M]
  exact h
/-- A call whose result is plain. -/
theorem X.callP {fo : Operand} {args : Array Operand} {ats : Array TypeId} {f : FuncId} {caps ps ps' ps2 : List PV} {r : PV} {R : List Nat} {C : List (Nat × Nat)} (hc : PC P f ps2 r) (hf : evO S fo = some (.fn f caps) := by rfl) (hps : evL S args.toList = some ps := by rfl) (hp : purL M ps = some (ps', R, C) := by rfl)
    (hC : AllEq C := by repeat (first | exact trivial | refine ⟨rfl, ?_⟩)) (ha : ps' ++ caps = ps2 := by rfl) (hr : r.plain = true := by rfl) (hd : Nat.ble (d + 1) N = true := by rfl) (hF : (F i).okB R [] = true := by rfl) (h : SLx P N all F (i + 1) rest (St.of ((d, r) :: S) M) K) :
    SLx P N all F i (⟨some d, .call { callee := .value fo, args := args, argTypes := ats }, ty, pos, after, none⟩ :: rest) (St.of S M) K :=
  X.call hf hps hp hC ha hc (.plain _ r [] [] [] _ hr (.nil _)) (fun q hq => by cases hq) hd hF h
/-- A call whose result is a slice that the caller owns. -/
theorem X.callF {fo : Operand} {args : Array Operand} {ats : Array TypeId} {f : FuncId} {caps ps ps' ps2 : List PV} {x : Bool} {e sz : Nat} {l : List PV} {R : List Nat} {C : List (Nat × Nat)} (hc : PC P f ps2 (.fresh x e sz l)) (hf : evO S fo = some (.fn f caps) := by rfl) (hps : evL S args.toList = some ps := by rfl) (hp : purL M ps = some (ps', R, C) := by rfl)
    (hC : AllEq C := by repeat (first | exact trivial | refine ⟨rfl, ?_⟩)) (ha : ps' ++ caps = ps2 := by rfl) (hm : look M (64 * d) = none := by rfl) (hd : Nat.ble (d + 1) N = true := by rfl) (hF : (F i).okB R [64 * d] = true := by rfl) (h : SLx P N all F (i + 1) rest (St.of ((d, .own (64 * d) l.length) :: S) ((64 * d, .obj x e sz l) :: M)) K) :
    SLx P N all F i (⟨some d, .call { callee := .value fo, args := args, argTypes := ats }, ty, pos, after, none⟩ :: rest) (St.of S M) K :=
  X.call hf hps hp hC ha hc (.fresh _ x e sz l [] [] [] _ (.nil _)) (fun q hq => by simp at hq; subst hq; exact hm) hd hF h

theorem AStep.with_guard {F : Foot} {s s' : St} {dst : Option Nat} {op : Op} {g : Nat} {want : Bool} (h : AStep P N all F ⟨dst, op, ty, pos, after, none⟩ s s') (hy : gyield all s g (some want)) : AStep P N all F ⟨dst, op, ty, pos, after, some (g, want)⟩ s s' := by
  cases h with
  | op _ d op ty pos after gd p U R hg ha hd hF => exact .op s d op ty pos after _ p U R (fun g' w' e => by cases e; exact hy) ha hd hF
  | op0 _ op ty pos after gd p U R hg ha hF => exact .op0 s op ty pos after _ p U R (fun g' w' e => by cases e; exact hy) ha hF
  | call _ d fo args ats ty pos after gd f caps ps ps' r p R U n' hg hf hps hp hc hr hU hd hF => exact .call s d fo args ats ty pos after _ f caps ps ps' r p R U n' (fun g' w' e => by cases e; exact hy) hf hps hp hc hr hU hd hF
  | skip _ _ g want b hgd hy hb hd => cases hgd

theorem X.gyes {dst : Option Nat} {op : Op} {g t : Nat} {want b : Bool} (hg : gslot all g = some t := by rfl) (hs : look S t = some (.lit (.bool b)) := by rfl) (hb : b = want := by first | rfl | assumption) (h : SLx P N all F i (⟨dst, op, ty, pos, after, none⟩ :: rest) (St.of S M) K) :
    SLx P N all F i (⟨dst, op, ty, pos, after, some (g, want)⟩ :: rest) (St.of S M) K := by
  obtain ⟨s', h1, h2⟩ := h
  exact ⟨s', h1.with_guard ⟨t, hg, by subst hb; exact look_slot hs⟩, h2⟩
theorem X.gno {op : Op} {g t : Nat} {want b : Bool} (hg : gslot all g = some t := by rfl) (hs : look S t = some (.lit (.bool b)) := by rfl) (hb : b = !want := by first | rfl | assumption) (hd : Nat.ble (d + 1) N = true := by rfl) (h : SLx P N all F (i + 1) rest (St.of ((d, .tuple []) :: S) M) K) :
    SLx P N all F i (⟨some d, op, ty, pos, after, some (g, want)⟩ :: rest) (St.of S M) K := by
  refine ⟨_, .skip _ _ g want (some b) rfl ⟨t, hg, look_slot hs⟩ (by subst hb; cases want <;> simp) (fun d' e => by cases e; exact Nat.le_of_ble_eq_true hd), ?_⟩
  have e : (St.of S M).put (some d) (.tuple []) = St.of ((d, .tuple []) :: S) M := by simp only [St.put]; rw [slot_of]; rfl
  rw [e]; exact h
theorem X.gU {op : Op} {g t : Nat} {want : Bool} (hg : gslot all g = some t := by rfl) (hs : look S t = some (.tuple []) := by rfl) (hd : Nat.ble (d + 1) N = true := by rfl) (h : SLx P N all F (i + 1) rest (St.of ((d, .tuple []) :: S) M) K) :
    SLx P N all F i (⟨some d, op, ty, pos, after, some (g, want)⟩ :: rest) (St.of S M) K := by
  refine ⟨_, .skip _ _ g want none rfl ⟨t, hg, look_slot hs⟩ (fun e => by cases e) (fun d' e => by cases e; exact Nat.le_of_ble_eq_true hd), ?_⟩
  have e : (St.of S M).put (some d) (.tuple []) = St.of ((d, .tuple []) :: S) M := by simp only [St.put]; rw [slot_of]; rfl
  rw [e]; exact h
theorem X.nil {s : St} (h : K s) : SLx P N all F i [] s K := h

/-- What a state forgets: only listed slots and names stay. -/
def Sub (S' M' S M : List (Nat × PV)) : Prop := (∀ t v, look S' t = some v → look S t = some v) ∧ (∀ n p, look M' n = some p → look M n = some p)
/-- The names that a value refers to. -/
def PV.refs : PV → List Nat
  | .own n _ => [n]
  | .lptr n _ => [n]
  | .eptr n _ _ _ => [n]
  | _ => []
def PV.refs2 : PV → List Nat
  | .agg cs => cs.flatMap PV.refs
  | .tuple cs => cs.flatMap fun c => match c with | .agg cs => cs.flatMap PV.refs | c => c.refs
  | .blk _ cs => cs.flatMap fun c => match c with | .agg cs => cs.flatMap PV.refs | c => c.refs
  | p => p.refs
end
end Go.Px
