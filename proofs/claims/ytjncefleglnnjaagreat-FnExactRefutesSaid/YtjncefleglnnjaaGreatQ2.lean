/-
  PROVED: general facts on pure values, contracts of functions, steps of programs and loops over lists, over any program. No condition beyond those that each theorem names.
-/
import Derived.Below
import Derived.Carry
import Derived.ChangeArms
import Derived.ChangeOld
import Derived.ChangeShapes
import Derived.ChangeSlices
import Derived.JoinedOf
import Derived.KernelRfl
import Derived.Test.YtjncefleglnnjaaGreatQ1
namespace Go.Px
set_option linter.unusedSimpArgs false
set_option linter.unusedVariables false
open Go.RowKit

section
variable {P : Program} {N : Nat} {all : Array Oper} {F : Nat → Foot} {i : Nat} {rest : List Oper} {S M : List (Nat × PV)} {K : St → Prop} {d : Nat} {ty : TypeId} {pos : String} {after : Array Edge}

theorem X.ofOp {op : Op} {v : PV} {U : List (Nat × PV)} {R : List Nat} (ha : AOp P (St.of S M).ev (St.of S M).mem d op v U R) (hd : Nat.ble (d + 1) N = true) (hF : (F i).okB R (U.map (·.1)) = true) (h : SLx P N all F (i + 1) rest (St.of ((d, v) :: S) (U.reverse ++ M)) K) :
    SLx P N all F i (⟨some d, op, ty, pos, after, none⟩ :: rest) (St.of S M) K := by
  refine ⟨_, .op _ d op ty pos after none v U R (fun g want e => by cases e) ha (Nat.le_of_ble_eq_true hd) (okB_spec hF), ?_⟩
  rw [slot_of, upds_of S U M]
  exact h
theorem X.ofOp0 {op : Op} {v : PV} {U : List (Nat × PV)} {R : List Nat} (ha : AOp P (St.of S M).ev (St.of S M).mem 0 op v U R) (hF : (F i).okB R (U.map (·.1)) = true) (h : SLx P N all F (i + 1) rest (St.of S (U.reverse ++ M)) K) :
    SLx P N all F i (⟨none, op, ty, pos, after, none⟩ :: rest) (St.of S M) K := by
  refine ⟨_, .op0 _ op ty pos after none v U R (fun g want e => by cases e) ha (okB_spec hF), ?_⟩
  rw [upds_of S U M]
  exact h
theorem spliceK_eq {off sz : Nat} {cs ps cs' : List PV} (h : spliceK off cs ps some = some cs') (hl : ps.length = sz) : off + sz ≤ cs.length ∧ cs' = cs.take off ++ ps ++ cs.drop (off + sz) := by
  subst hl
  obtain ⟨h1, h2⟩ := spliceK_spec _ _ _ _ _ h
  exact ⟨h1, (Option.some.inj h2).symm⟩
theorem okB_nil (F : Foot) : F.okB [] [] = true := by cases F <;> rfl

theorem X.move {x : Operand} {v : PV} (hv : evO S x = some v := by rfl) (hd : Nat.ble (d + 1) N = true := by rfl) (h : SLx P N all F (i + 1) rest (St.of ((d, v) :: S) M) K) :
    SLx P N all F i (⟨some d, .move x, ty, pos, after, none⟩ :: rest) (St.of S M) K :=
  X.ofOp (v := v) (U := []) (R := []) (.move x v (evO_spec hv)) hd (okB_nil _) h
theorem X.assign {x : Operand} {v : PV} (hv : evO S x = some v := by rfl) (hd : Nat.ble (d + 1) N = true := by rfl) (h : SLx P N all F (i + 1) rest (St.of ((d, v) :: S) M) K) :
    SLx P N all F i (⟨some d, .assign x, ty, pos, after, none⟩ :: rest) (St.of S M) K :=
  X.ofOp (v := v) (U := []) (R := []) (.assign x v (evO_spec hv)) hd (okB_nil _) h
theorem X.pickT {c x y : Operand} {b : Bool} {v : PV} (hc : evO S c = some (.lit (.bool b)) := by rfl) (hb : b = true := by first | rfl | assumption) (hv : evO S x = some v := by rfl) (hd : Nat.ble (d + 1) N = true := by rfl) (h : SLx P N all F (i + 1) rest (St.of ((d, v) :: S) M) K) :
    SLx P N all F i (⟨some d, .pick c x y, ty, pos, after, none⟩ :: rest) (St.of S M) K :=
  X.ofOp (v := v) (U := []) (R := []) (.pick c x y b v (evO_spec hc) (by rw [hb]; exact evO_spec hv)) hd (okB_nil _) h
theorem X.pickF {c x y : Operand} {b : Bool} {v : PV} (hc : evO S c = some (.lit (.bool b)) := by rfl) (hb : b = false := by first | rfl | assumption) (hv : evO S y = some v := by rfl) (hd : Nat.ble (d + 1) N = true := by rfl) (h : SLx P N all F (i + 1) rest (St.of ((d, v) :: S) M) K) :
    SLx P N all F i (⟨some d, .pick c x y, ty, pos, after, none⟩ :: rest) (St.of S M) K :=
  X.ofOp (v := v) (U := []) (R := []) (.pick c x y b v (evO_spec hc) (by rw [hb]; exact evO_spec hv)) hd (okB_nil _) h
theorem X.bin {op : BinOp} {t t' : TypeId} {x y : Operand} {p q v : PV} (hx : evO S x = some p := by rfl) (hy : evO S y = some q := by rfl) (hk : sameKind p q = true := by rfl) (hv : binPV op p q = some v := by rfl) (hs : op ≠ .add := by (intro h; cases h)) (hd : Nat.ble (d + 1) N = true := by rfl) (h : SLx P N all F (i + 1) rest (St.of ((d, v) :: S) M) K) :
    SLx P N all F i (⟨some d, .binOp op t x y t', ty, pos, after, none⟩ :: rest) (St.of S M) K :=
  X.ofOp (v := v) (U := []) (R := []) (.bin op t t' x y p q v (evO_spec hx) (evO_spec hy) hk hv (fun _ _ _ _ e => absurd e hs)) hd (okB_nil _) h
theorem X.add {t t' : TypeId} {x y : Operand} {a b : Int} (hx : evO S x = some (.lit (.int .i64 a)) := by rfl) (hy : evO S y = some (.lit (.int .i64 b)) := by rfl) (hr : -9223372036854775808 ≤ a + b ∧ a + b ≤ 9223372036854775807 := by omega) (hd : Nat.ble (d + 1) N = true := by rfl) (h : SLx P N all F (i + 1) rest (St.of ((d, .lit (.int .i64 (a + b))) :: S) M) K) :
    SLx P N all F i (⟨some d, .binOp .add t x y t', ty, pos, after, none⟩ :: rest) (St.of S M) K :=
  X.ofOp (v := .lit (.int .i64 (a + b))) (U := []) (R := []) (.bin .add t t' x y _ _ _ (evO_spec hx) (evO_spec hy) rfl (by simp only [binPV]; rw [show IntKind.i64.wrap (a + b) = a + b from by rw [IntKind.wrap_i64]; omega]) (fun _ _ e => by cases e)) hd (okB_nil _) h
theorem X.addW {t t' : TypeId} {x y : Operand} {a b : Int} (hx : evO S x = some (.lit (.int .i64 a)) := by rfl) (hy : evO S y = some (.lit (.int .i64 b)) := by rfl) (hd : Nat.ble (d + 1) N = true := by rfl) (h : SLx P N all F (i + 1) rest (St.of ((d, .lit (.int .i64 (IntKind.i64.wrap (a + b)))) :: S) M) K) :
    SLx P N all F i (⟨some d, .binOp .add t x y t', ty, pos, after, none⟩ :: rest) (St.of S M) K :=
  X.ofOp (v := .lit (.int .i64 (IntKind.i64.wrap (a + b)))) (U := []) (R := []) (.bin .add t t' x y _ _ _ (evO_spec hx) (evO_spec hy) rfl rfl (fun _ _ e => by cases e)) hd (okB_nil _) h
theorem X.sub {t t' : TypeId} {x y : Operand} {a b : Int} (hx : evO S x = some (.lit (.int .i64 a)) := by rfl) (hy : evO S y = some (.lit (.int .i64 b)) := by rfl) (hr : -9223372036854775808 ≤ a - b ∧ a - b ≤ 9223372036854775807 := by omega) (hd : Nat.ble (d + 1) N = true := by rfl) (h : SLx P N all F (i + 1) rest (St.of ((d, .lit (.int .i64 (a - b))) :: S) M) K) :
    SLx P N all F i (⟨some d, .binOp .sub t x y t', ty, pos, after, none⟩ :: rest) (St.of S M) K :=
  X.ofOp (v := .lit (.int .i64 (a - b))) (U := []) (R := []) (.bin .sub t t' x y _ _ _ (evO_spec hx) (evO_spec hy) rfl (by simp only [binPV]; rw [show IntKind.i64.wrap (a - b) = a - b from by rw [IntKind.wrap_i64]; omega]) (fun _ _ e => by cases e)) hd (okB_nil _) h
theorem X.subW {t t' : TypeId} {x y : Operand} {a b : Int} (hx : evO S x = some (.lit (.int .i64 a)) := by rfl) (hy : evO S y = some (.lit (.int .i64 b)) := by rfl) (hd : Nat.ble (d + 1) N = true := by rfl) (h : SLx P N all F (i + 1) rest (St.of ((d, .lit (.int .i64 (IntKind.i64.wrap (a - b)))) :: S) M) K) :
    SLx P N all F i (⟨some d, .binOp .sub t x y t', ty, pos, after, none⟩ :: rest) (St.of S M) K :=
  X.ofOp (v := .lit (.int .i64 (IntKind.i64.wrap (a - b)))) (U := []) (R := []) (.bin .sub t t' x y _ _ _ (evO_spec hx) (evO_spec hy) rfl rfl (fun _ _ e => by cases e)) hd (okB_nil _) h
theorem X.mul {t t' : TypeId} {x y : Operand} {a b : Int} (hx : evO S x = some (.lit (.int .i64 a)) := by rfl) (hy : evO S y = some (.lit (.int .i64 b)) := by rfl) (hr : -9223372036854775808 ≤ a * b ∧ a * b ≤ 9223372036854775807 := by omega) (hd : Nat.ble (d + 1) N = true := by rfl) (h : SLx P N all F (i + 1) rest (St.of ((d, .lit (.int .i64 (a * b))) :: S) M) K) :
    SLx P N all F i (⟨some d, .binOp .mul t x y t', ty, pos, after, none⟩ :: rest) (St.of S M) K :=
  X.ofOp (v := .lit (.int .i64 (a * b))) (U := []) (R := []) (.bin .mul t t' x y _ _ _ (evO_spec hx) (evO_spec hy) rfl (by simp only [binPV]; rw [show IntKind.i64.wrap (a * b) = a * b from by rw [IntKind.wrap_i64]; omega]) (fun _ _ e => by cases e)) hd (okB_nil _) h
theorem X.mulW {t t' : TypeId} {x y : Operand} {a b : Int} (hx : evO S x = some (.lit (.int .i64 a)) := by rfl) (hy : evO S y = some (.lit (.int .i64 b)) := by rfl) (hd : Nat.ble (d + 1) N = true := by rfl) (h : SLx P N all F (i + 1) rest (St.of ((d, .lit (.int .i64 (IntKind.i64.wrap (a * b)))) :: S) M) K) :
    SLx P N all F i (⟨some d, .binOp .mul t x y t', ty, pos, after, none⟩ :: rest) (St.of S M) K :=
  X.ofOp (v := .lit (.int .i64 (IntKind.i64.wrap (a * b)))) (U := []) (R := []) (.bin .mul t t' x y _ _ _ (evO_spec hx) (evO_spec hy) rfl rfl (fun _ _ e => by cases e)) hd (okB_nil _) h
theorem X.cat {t t' : TypeId} {x y : Operand} {a b : ByteArray} (hx : evO S x = some (.lit (.string a)) := by rfl) (hy : evO S y = some (.lit (.string b)) := by rfl) (hs : a.size + b.size ≤ 9223372036854775807) (hd : Nat.ble (d + 1) N = true := by rfl) (h : SLx P N all F (i + 1) rest (St.of ((d, .lit (.string (a ++ b))) :: S) M) K) :
    SLx P N all F i (⟨some d, .binOp .add t x y t', ty, pos, after, none⟩ :: rest) (St.of S M) K :=
  X.ofOp (v := .lit (.string (a ++ b))) (U := []) (R := []) (.bin .add t t' x y _ _ _ (evO_spec hx) (evO_spec hy) rfl rfl (fun b c e1 e2 _ => by cases e1; cases e2; exact hs)) hd (okB_nil _) h
theorem X.neqErr {t t' : TypeId} {x : Operand} {ms : Array (String × TypeId)} (ht : P.underlying t = some (.interface ms)) (hx : evO S x = some .err := by rfl) (hd : Nat.ble (d + 1) N = true := by rfl) (h : SLx P N all F (i + 1) rest (St.of ((d, .lit (.bool true)) :: S) M) K) :
    SLx P N all F i (⟨some d, .binOp .neq t x (.const .nilIface) t', ty, pos, after, none⟩ :: rest) (St.of S M) K :=
  X.ofOp (v := .lit (.bool true)) (U := []) (R := []) (.neqErr t t' x ms ht (evO_spec hx)) hd (okB_nil _) h
theorem X.neqNil {t t' : TypeId} {x : Operand} {ms : Array (String × TypeId)} (ht : P.underlying t = some (.interface ms)) (hx : evO S x = some (.lit .nilIface) := by rfl) (hd : Nat.ble (d + 1) N = true := by rfl) (h : SLx P N all F (i + 1) rest (St.of ((d, .lit (.bool false)) :: S) M) K) :
    SLx P N all F i (⟨some d, .binOp .neq t x (.const .nilIface) t', ty, pos, after, none⟩ :: rest) (St.of S M) K :=
  X.ofOp (v := .lit (.bool false)) (U := []) (R := []) (.neqNil t t' x ms ht (evO_spec hx)) hd (okB_nil _) h
theorem X.un {op : UnOp} {t : TypeId} {x : Operand} {p v : PV} (hx : evO S x = some p := by rfl) (hv : unPV op p = some v := by rfl) (hd : Nat.ble (d + 1) N = true := by rfl) (h : SLx P N all F (i + 1) rest (St.of ((d, v) :: S) M) K) :
    SLx P N all F i (⟨some d, .unOp op t x, ty, pos, after, none⟩ :: rest) (St.of S M) K :=
  X.ofOp (v := v) (U := []) (R := []) (.un op t x p v (evO_spec hx) hv) hd (okB_nil _) h
theorem X.conv {t t' : TypeId} {x : Operand} {k k' : IntKind} {n : Int} (ht : P.underlying t' = some (.int k')) (hs : (P.underlying t).isSome = true) (hx : evO S x = some (.lit (.int k n)) := by rfl) (hd : Nat.ble (d + 1) N = true := by rfl) (h : SLx P N all F (i + 1) rest (St.of ((d, .lit (.int k' (k'.wrap n))) :: S) M) K) :
    SLx P N all F i (⟨some d, .convert t t' x, ty, pos, after, none⟩ :: rest) (St.of S M) K :=
  X.ofOp (v := .lit (.int k' (k'.wrap n))) (U := []) (R := []) (.conv t t' x k k' n ht hs (evO_spec hx)) hd (okB_nil _) h
theorem X.load_l {t : TypeId} {x : Operand} {n off : Nat} {y : Bool} {cs : List PV} {v : PV} {g : Bool} {sz : Nat} (ht : shp P t = some (g, sz)) (hg : (g || Nat.beq sz 1) = true := by rfl) (hx : evO S x = some (.lptr n off) := by rfl) (hm : look M n = some (.blk y cs) := by rfl) (hv : loadK g sz off cs = some v := by rfl) (hd : Nat.ble (d + 1) N = true := by rfl) (hF : (F i).okB [n] [] = true := by rfl) (h : SLx P N all F (i + 1) rest (St.of ((d, v) :: S) M) K) :
    SLx P N all F i (⟨some d, .load t x, ty, pos, after, none⟩ :: rest) (St.of S M) K :=
  X.ofOp (v := v) (U := []) (R := [n]) (.load_l t x g sz n off y cs v ht (by cases g <;> simp_all) (evO_spec hx) (look_mem hm) (loadK_spec hv)) hd hF h
theorem X.load_c {t : TypeId} {x : Operand} {off : Nat} {cs : List PV} {v : PV} {g : Bool} {sz : Nat} (ht : shp P t = some (g, sz)) (hg : (g || Nat.beq sz 1) = true := by rfl) (hx : evO S x = some (.cptr cs off) := by rfl) (hv : loadK g sz off cs = some v := by rfl) (hd : Nat.ble (d + 1) N = true := by rfl) (h : SLx P N all F (i + 1) rest (St.of ((d, v) :: S) M) K) :
    SLx P N all F i (⟨some d, .load t x, ty, pos, after, none⟩ :: rest) (St.of S M) K :=
  X.ofOp (v := v) (U := []) (R := []) (.load_c t x g sz off cs v ht (by cases g <;> simp_all) (evO_spec hx) (loadK_spec hv)) hd (okB_nil _) h
theorem X.load_e {t : TypeId} {x : Operand} {n k j off : Nat} {y : Bool} {e sz' : Nat} {l : List PV} {el v : PV} {g : Bool} {sz : Nat} (ht : shp P t = some (g, sz)) (hg : (g || Nat.beq sz 1) = true := by rfl) (hx : evO S x = some (.eptr n k j off) := by rfl) (hm : look M n = some (.obj y e sz' l) := by rfl) (hk : k = l.length) (hi : l[j]? = some el) (hv : loadK g sz off el.cells = some v := by rfl) (hd : Nat.ble (d + 1) N = true := by rfl) (hF : (F i).okB [n] [] = true := by rfl) (h : SLx P N all F (i + 1) rest (St.of ((d, v) :: S) M) K) :
    SLx P N all F i (⟨some d, .load t x, ty, pos, after, none⟩ :: rest) (St.of S M) K :=
  X.ofOp (v := v) (U := []) (R := [n]) (.load_e t x g sz n k j off y e sz' l el v ht (by cases g <;> simp_all) (evO_spec hx) (look_mem hm) hk hi (loadK_spec hv)) hd hF h
theorem X.store_l {t : TypeId} {x y : Operand} {n off : Nat} {cs cs' : List PV} {p : PV} {R : List Nat} {C : List (Nat × Nat)} {g : Bool} {sz : Nat} (ht : shp P t = some (g, sz)) (hx : evO S x = some (.lptr n off) := by rfl) (hm : look M n = some (.blk true cs) := by rfl) (hy : evO S y = some p := by rfl) (hp : curO M p = some (R, C) := by rfl) (hC : AllEq C := by repeat (first | exact trivial | refine ⟨rfl, ?_⟩)) (hl : p.cells.length = sz := by rfl) (hc : spliceK off cs p.cells some = some cs' := by rfl) (hF : (F i).okB (n :: R) [n] = true := by rfl) (h : SLx P N all F (i + 1) rest (St.of S ((n, .blk true cs') :: M)) K) :
    SLx P N all F i (⟨none, .store t x y, ty, pos, after, none⟩ :: rest) (St.of S M) K :=
  X.ofOp0 (v := .undef) (U := [(n, .blk true cs')]) (R := (n :: R)) (by obtain ⟨h1, e⟩ := spliceK_eq hc hl; subst e; exact .store_l t x y g sz n off cs p ht (evO_spec hx) (look_mem hm) (evO_spec hy) (curO_spec hp hC).1 hl h1 R (curO_spec (S := S) hp hC).2) hF h
theorem X.store_e {t : TypeId} {x y : Operand} {n k j off e sz' : Nat} {l : List PV} {el p p' : PV} {R : List Nat} {C : List (Nat × Nat)} {g : Bool} {sz : Nat} (ht : shp P t = some (g, sz)) (hx : evO S x = some (.eptr n k j off) := by rfl) (hm : look M n = some (.obj true e sz' l) := by rfl) (hk : k = l.length) (hi : l[j]? = some el) (hy : evO S y = some p := by rfl) (hp : purL M [p] = some ([p'], R, C) := by rfl) (hC : AllEq C := by repeat (first | exact trivial | refine ⟨rfl, ?_⟩)) (h0 : Nat.ble 1 sz = true := by rfl) (hl : p'.cells.length = sz := by rfl) (hfit : Nat.ble (off + sz) sz' = true := by rfl) (hF : (F i).okB (n :: R) [n] = true := by rfl) (h : SLx P N all F (i + 1) rest (St.of S ((n, .obj true e sz' (l.set j (setEl el off p'))) :: M)) K) :
    SLx P N all F i (⟨none, .store t x y, ty, pos, after, none⟩ :: rest) (St.of S M) K :=
  X.ofOp0 (v := .undef) (U := [(n, .obj true e sz' (l.set j (setEl el off p')))]) (R := (n :: R)) (.store_e t x y g sz n k j off e sz' l el p p' R ht (Nat.le_of_ble_eq_true h0) (evO_spec hx) (look_mem hm) hk hi (evO_spec hy) (purL_spec hp hC) hl (Nat.le_of_ble_eq_true hfit)) hF h
theorem X.nilChk {x : Operand} {v : PV} (hx : evO S x = some v := by rfl) (hp : isPtr v = true := by rfl) (hd : Nat.ble (d + 1) N = true := by rfl) (h : SLx P N all F (i + 1) rest (St.of ((d, v) :: S) M) K) :
    SLx P N all F i (⟨some d, .nilCheck x, ty, pos, after, none⟩ :: rest) (St.of S M) K :=
  X.ofOp (v := v) (U := []) (R := []) (.nilChk x v (evO_spec hx) hp) hd (okB_nil _) h
theorem X.alloc {t : TypeId} {z : List PV} (hz : zeroPV P t = some z) (hm : look M (64 * d) = none := by rfl) (hd : Nat.ble (d + 1) N = true := by rfl) (hF : (F i).okB [64 * d] [64 * d] = true := by rfl) (h : SLx P N all F (i + 1) rest (St.of ((d, .lptr (64 * d) 0) :: S) ((64 * d, .blk true z) :: M)) K) :
    SLx P N all F i (⟨some d, .alloc t, ty, pos, after, none⟩ :: rest) (St.of S M) K :=
  X.ofOp (v := .lptr (64 * d) 0) (U := [(64 * d, .blk true z)]) (R := [64 * d]) (.alloc t z hz (look_none hm)) hd hF h
theorem X.box {t : TypeId} {x : Operand} {p : PV} {R : List Nat} {C : List (Nat × Nat)} (hx : evO S x = some p := by rfl) (hp : curO M p = some (R, C) := by rfl) (hC : AllEq C := by repeat (first | exact trivial | refine ⟨rfl, ?_⟩)) (hm : look M (64 * d) = none := by rfl) {cs : List PV} (hcs : some p.cells = some cs := by rfl) (hd : Nat.ble (d + 1) N = true := by rfl) (hF : (F i).okB (64 * d :: R) [64 * d] = true := by rfl) (h : SLx P N all F (i + 1) rest (St.of ((d, .lptr (64 * d) 0) :: S) ((64 * d, .blk true cs) :: M)) K) :
    SLx P N all F i (⟨some d, .box t x, ty, pos, after, none⟩ :: rest) (St.of S M) K :=
  X.ofOp (v := .lptr (64 * d) 0) (U := [(64 * d, .blk true cs)]) (R := (64 * d :: R)) (by cases hcs; exact .box t x p R (evO_spec hx) (curO_spec hp hC).1 (look_none hm) (curO_spec (S := S) hp hC).2) hd hF h
theorem X.fieldAddr_l {t : TypeId} {x : Operand} {f n off o' : Nat} (ht : fldOff P t f = some o') (hx : evO S x = some (.lptr n off) := by rfl) (hd : Nat.ble (d + 1) N = true := by rfl) (h : SLx P N all F (i + 1) rest (St.of ((d, .lptr n (off + o')) :: S) M) K) :
    SLx P N all F i (⟨some d, .fieldAddr t x f, ty, pos, after, none⟩ :: rest) (St.of S M) K :=
  X.ofOp (v := .lptr n (off + o')) (U := []) (R := []) (.fieldAddr_l t x f n off o' ht (evO_spec hx)) hd (okB_nil _) h
theorem X.fieldAddr_c {t : TypeId} {x : Operand} {f off o' : Nat} {cs : List PV} (ht : fldOff P t f = some o') (hx : evO S x = some (.cptr cs off) := by rfl) (hd : Nat.ble (d + 1) N = true := by rfl) (h : SLx P N all F (i + 1) rest (St.of ((d, .cptr cs (off + o')) :: S) M) K) :
    SLx P N all F i (⟨some d, .fieldAddr t x f, ty, pos, after, none⟩ :: rest) (St.of S M) K :=
  X.ofOp (v := .cptr cs (off + o')) (U := []) (R := []) (.fieldAddr_c t x f off o' cs ht (evO_spec hx)) hd (okB_nil _) h
theorem X.fieldAddr_e {t : TypeId} {x : Operand} {f n k j off o' : Nat} {y : Bool} {e sz : Nat} {l : List PV} (ht : fldOff P t f = some o') (hx : evO S x = some (.eptr n k j off) := by rfl) (hm : look M n = some (.obj y e sz l) := by rfl) (hk : k = l.length) (hd : Nat.ble (d + 1) N = true := by rfl) (hF : (F i).okB [n] [] = true := by rfl) (h : SLx P N all F (i + 1) rest (St.of ((d, .eptr n k j (off + o')) :: S) M) K) :
    SLx P N all F i (⟨some d, .fieldAddr t x f, ty, pos, after, none⟩ :: rest) (St.of S M) K :=
  X.ofOp (v := .eptr n k j (off + o')) (U := []) (R := [n]) (.fieldAddr_e t x f n k j off o' y e sz l ht (evO_spec hx) (look_mem hm) hk) hd hF h
theorem X.index_s {t : TypeId} {x y : Operand} {e sz by' : Nat} {l : List PV} {k : IntKind} {j : Int} {el : PV} {cs : List PV} (ht : eltOf P t = some (e, sz, by')) (hx : evO S x = some (.slice l) := by rfl) (hy : evO S y = some (.lit (.int k j)) := by rfl) (h0 : 0 ≤ j) (hi : l[j.toNat]? = some el) (hcs : el.cells = cs) (hsz : cs.length = sz) (hd : Nat.ble (d + 1) N = true := by rfl) (h : SLx P N all F (i + 1) rest (St.of ((d, .cptr cs 0) :: S) M) K) :
    SLx P N all F i (⟨some d, .indexAddr t x y, ty, pos, after, none⟩ :: rest) (St.of S M) K :=
  X.ofOp (v := .cptr cs 0) (U := []) (R := []) (by subst hcs; exact .indexAddr_s t x y e sz by' l k j el ht (evO_spec hx) (evO_spec hy) h0 hi hsz) hd (okB_nil _) h
theorem X.index_o {t : TypeId} {x y : Operand} {e sz by' n k' : Nat} {l : List PV} {k : IntKind} {j : Int} {el : PV} {cs : List PV} (ht : eltOf P t = some (e, sz, by')) (hx : evO S x = some (.own n k') := by rfl) (hm : look M n = some (.obj false e sz l) := by rfl) (hk : k' = l.length) (hy : evO S y = some (.lit (.int k j)) := by rfl) (h0 : 0 ≤ j) (hi : l[j.toNat]? = some el) (hcs : el.cells = cs) (hd : Nat.ble (d + 1) N = true := by rfl) (hF : (F i).okB [n] [] = true := by rfl) (h : SLx P N all F (i + 1) rest (St.of ((d, .cptr cs 0) :: S) M) K) :
    SLx P N all F i (⟨some d, .indexAddr t x y, ty, pos, after, none⟩ :: rest) (St.of S M) K :=
  X.ofOp (v := .cptr cs 0) (U := []) (R := [n]) (by subst hcs; exact .indexAddr_o t x y e sz by' n k' l k j el ht (evO_spec hx) (look_mem hm) hk (evO_spec hy) h0 hi) hd hF h
theorem X.index_x {t : TypeId} {x y : Operand} {e sz by' n k' : Nat} {b : Bool} {l : List PV} {k : IntKind} {j : Int} {m : Nat} (ht : eltOf P t = some (e, sz, by')) (hx : evO S x = some (.own n k') := by rfl) (hm : look M n = some (.obj b e sz l) := by rfl) (hk : k' = l.length) (hy : evO S y = some (.lit (.int k j)) := by rfl) (hj : j = m) (hi : m < l.length) (hd : Nat.ble (d + 1) N = true := by rfl) (hF : (F i).okB [n] [] = true := by rfl) (h : SLx P N all F (i + 1) rest (St.of ((d, .eptr n k' m 0) :: S) M) K) :
    SLx P N all F i (⟨some d, .indexAddr t x y, ty, pos, after, none⟩ :: rest) (St.of S M) K :=
  X.ofOp (v := .eptr n k' m 0) (U := []) (R := [n]) (by subst hj; exact .indexAddr_x t x y e sz by' n k' b l k _ ht (evO_spec hx) (look_mem hm) hk (evO_spec hy) (by omega) (by omega)) hd hF h
theorem X.index_a {t : TypeId} {x y : Operand} {len sz n off m : Nat} {k : IntKind} {j : Int} (ht : arrOf P t = some (len, sz)) (hx : evO S x = some (.lptr n off) := by rfl) (hy : evO S y = some (.lit (.int k j)) := by rfl) (hj : j = m) (hi : m < len) (hd : Nat.ble (d + 1) N = true := by rfl) (h : SLx P N all F (i + 1) rest (St.of ((d, .lptr n (off + m * sz)) :: S) M) K) :
    SLx P N all F i (⟨some d, .indexAddr t x y, ty, pos, after, none⟩ :: rest) (St.of S M) K :=
  X.ofOp (v := .lptr n (off + m * sz)) (U := []) (R := []) (by subst hj; exact .indexAddr_a t x y len sz n off k _ ht (evO_spec hx) (evO_spec hy) (by omega) (by omega)) hd (okB_nil _) h
theorem X.indexStr {t : TypeId} {x y : Operand} {b : ByteArray} {k : IntKind} {j : Int} {u : UInt8} (ht : P.underlying t = some .string) (hx : evO S x = some (.lit (.string b)) := by rfl) (hy : evO S y = some (.lit (.int k j)) := by rfl) (h0 : 0 ≤ j) (hi : b[j.toNat]? = some u) (hd : Nat.ble (d + 1) N = true := by rfl) (h : SLx P N all F (i + 1) rest (St.of ((d, .lit (.int .u8 u.toNat)) :: S) M) K) :
    SLx P N all F i (⟨some d, .index t x y, ty, pos, after, none⟩ :: rest) (St.of S M) K :=
  X.ofOp (v := .lit (.int .u8 u.toNat)) (U := []) (R := []) (.indexStr t x y b k j u ht (evO_spec hx) (evO_spec hy) h0 hi) hd (okB_nil _) h
theorem X.extract {x : Operand} {j : Nat} {vs : List PV} {v : PV} (hx : evO S x = some (.tuple vs) := by rfl) (hv : vs[j]? = some v := by rfl) (hd : Nat.ble (d + 1) N = true := by rfl) (h : SLx P N all F (i + 1) rest (St.of ((d, v) :: S) M) K) :
    SLx P N all F i (⟨some d, .extract x j, ty, pos, after, none⟩ :: rest) (St.of S M) K :=
  X.ofOp (v := v) (U := []) (R := []) (.extract x j vs v (evO_spec hx) hv) hd (okB_nil _) h
theorem X.lenStr {t : TypeId} {x : Operand} {b : ByteArray} (ht : P.underlying t = some .string) (hx : evO S x = some (.lit (.string b)) := by rfl) (hd : Nat.ble (d + 1) N = true := by rfl) (h : SLx P N all F (i + 1) rest (St.of ((d, .lit (.int .i64 b.size)) :: S) M) K) :
    SLx P N all F i (⟨some d, .call { callee := .builtin .len, args := #[x], argTypes := #[t] }, ty, pos, after, none⟩ :: rest) (St.of S M) K :=
  X.ofOp (v := .lit (.int .i64 b.size)) (U := []) (R := []) (.lenStr t x b ht (evO_spec hx)) hd (okB_nil _) h
theorem X.len_s {t : TypeId} {x : Operand} {e sz by' : Nat} {l : List PV} (ht : eltOf P t = some (e, sz, by')) (hx : evO S x = some (.slice l) := by rfl) {n : Nat} (hn : l.length = n) (hd : Nat.ble (d + 1) N = true := by rfl) (h : SLx P N all F (i + 1) rest (St.of ((d, .lit (.int .i64 n)) :: S) M) K) :
    SLx P N all F i (⟨some d, .call { callee := .builtin .len, args := #[x], argTypes := #[t] }, ty, pos, after, none⟩ :: rest) (St.of S M) K :=
  X.ofOp (v := .lit (.int .i64 n)) (U := []) (R := []) (by subst hn; exact .lenLst t x _ l [] e sz by' ht (evO_spec hx) (.pure l)) hd (okB_nil _) h
theorem X.len_n {t : TypeId} {x : Operand} {e sz by' : Nat} (ht : eltOf P t = some (e, sz, by')) (hx : evO S x = some .nils := by rfl) (hd : Nat.ble (d + 1) N = true := by rfl) (h : SLx P N all F (i + 1) rest (St.of ((d, .lit (.int .i64 0)) :: S) M) K) :
    SLx P N all F i (⟨some d, .call { callee := .builtin .len, args := #[x], argTypes := #[t] }, ty, pos, after, none⟩ :: rest) (St.of S M) K :=
  X.ofOp (v := .lit (.int .i64 0)) (U := []) (R := []) (.lenLst t x _ [] [] e sz by' ht (evO_spec hx) .nils) hd (okB_nil _) h
theorem X.len_o {t : TypeId} {x : Operand} {e sz by' n k : Nat} {y : Bool} {e' sz' : Nat} {l : List PV} (ht : eltOf P t = some (e, sz, by')) (hx : evO S x = some (.own n k) := by rfl) (hm : look M n = some (.obj y e' sz' l) := by rfl) (hk : k = l.length) {m : Nat} (hn : l.length = m) (hd : Nat.ble (d + 1) N = true := by rfl) (hF : (F i).okB [n] [] = true := by rfl) (h : SLx P N all F (i + 1) rest (St.of ((d, .lit (.int .i64 m)) :: S) M) K) :
    SLx P N all F i (⟨some d, .call { callee := .builtin .len, args := #[x], argTypes := #[t] }, ty, pos, after, none⟩ :: rest) (St.of S M) K :=
  X.ofOp (v := .lit (.int .i64 m)) (U := []) (R := [n]) (by subst hn; exact .lenLst t x _ l [n] e sz by' ht (evO_spec hx) (.own n k y e' sz' l (look_mem hm) hk)) hd hF h
theorem X.max2 {t t' : TypeId} {x y : Operand} {k : IntKind} {a b : Int} (hx : evO S x = some (.lit (.int k a)) := by rfl) (hy : evO S y = some (.lit (.int k b)) := by rfl) (hd : Nat.ble (d + 1) N = true := by rfl) (h : SLx P N all F (i + 1) rest (St.of ((d, .lit (.int k (max a b))) :: S) M) K) :
    SLx P N all F i (⟨some d, .call { callee := .builtin .max, args := #[x, y], argTypes := #[t, t'] }, ty, pos, after, none⟩ :: rest) (St.of S M) K :=
  X.ofOp (v := .lit (.int k (max a b))) (U := []) (R := []) (.max2 t t' x y k a b (evO_spec hx) (evO_spec hy)) hd (okB_nil _) h
theorem X.min2 {t t' : TypeId} {x y : Operand} {k : IntKind} {a b : Int} (hx : evO S x = some (.lit (.int k a)) := by rfl) (hy : evO S y = some (.lit (.int k b)) := by rfl) (hd : Nat.ble (d + 1) N = true := by rfl) (h : SLx P N all F (i + 1) rest (St.of ((d, .lit (.int k (min a b))) :: S) M) K) :
    SLx P N all F i (⟨some d, .call { callee := .builtin .min, args := #[x, y], argTypes := #[t, t'] }, ty, pos, after, none⟩ :: rest) (St.of S M) K :=
  X.ofOp (v := .lit (.int k (min a b))) (U := []) (R := []) (.min2 t t' x y k a b (evO_spec hx) (evO_spec hy)) hd (okB_nil _) h
theorem X.buildSlice {t len : Nat} {parts : Array (Nat × Operand)} {e sz by' : Nat} {z ps ps' : List PV} {R : List Nat} {C : List (Nat × Nat)} (y : Bool) (ht : eltOf P t = some (e, sz, by')) (hz : zeroPV P e = some z) (h0 : Nat.ble 1 sz = true := by rfl) (hlen : Nat.ble (len * sz) 65536 = true := by rfl) (hzl : z.length = sz := by rfl) (hidx : parts.toList.map (·.1) = List.range len := by rfl) (hps : evL S (parts.toList.map (·.2)) = some ps := by rfl) (hp : purL M ps = some (ps', R, C) := by rfl) (hC : AllEq C := by repeat (first | exact trivial | refine ⟨rfl, ?_⟩)) (hsz : ∀ p ∈ ps', p.cells.length = sz := by simp [PV.cells]) (hm : look M (64 * d) = none := by rfl) (hd : Nat.ble (d + 1) N = true := by rfl) (hF : (F i).okB (64 * d :: R) [64 * d] = true := by rfl) (h : SLx P N all F (i + 1) rest (St.of ((d, .own (64 * d) ps'.length) :: S) ((64 * d, .obj y e sz ps') :: M)) K) :
    SLx P N all F i (⟨some d, .buildSlice t len parts, ty, pos, after, none⟩ :: rest) (St.of S M) K :=
  X.ofOp (v := .own (64 * d) ps'.length) (U := [(64 * d, .obj y e sz ps')]) (R := (64 * d :: R)) (.buildSlice y t len parts e sz by' ps ps' R ht (Nat.le_of_ble_eq_true h0) (Nat.le_of_ble_eq_true hlen) (by rw [hz]; rfl) (fun z' e => by rw [hz] at e; cases e; exact hzl) hidx (by have := evL_spec (M := M) hps; rw [List.map_map] at this; exact this) (purL_spec hp hC) hsz (look_none hm)) hd hF h
theorem X.append {t : TypeId} {x y : Operand} {n k : Nat} {b : Bool} {e sz by' : Nat} {l lb : List PV} {z : List PV} {q : PV} {R : List Nat} (ht : eltOf P t = some (e, sz, by')) (hz : zeroPV P e = some z) (hx : evO S x = some (.own n k) := by rfl) (hm : look M n = some (.obj b e sz l) := by rfl) (hk : k = l.length) (hy : evO S y = some q := by rfl) (hq : Lst (St.of S M).mem q lb R) (hlb : ∀ e ∈ lb, e.cells.length = sz) (hn : l.length + lb.length ≤ 1099511627776) {l2 : List PV} (hl : l ++ lb = l2) (hzl : z.length = sz := by rfl) (hb : Nat.ble by' 128 = true := by rfl) (hd : Nat.ble (d + 1) N = true := by rfl) (hF : (F i).okB (n :: R) [n] = true := by rfl) (h : SLx P N all F (i + 1) rest (St.of ((d, .own n l2.length) :: S) ((n, .obj b e sz l2) :: M)) K) :
    SLx P N all F i (⟨some d, .call { callee := .builtin .append, args := #[x, y], argTypes := #[t, t] }, ty, pos, after, none⟩ :: rest) (St.of S M) K :=
  X.ofOp (v := .own n l2.length) (U := [(n, .obj b e sz l2)]) (R := (n :: R)) (by subst hl; rw [List.length_append]; exact .append t x y n k b e sz by' l lb z q R ht hz hzl (evO_spec hx) (look_mem hm) hk (evO_spec hy) hq hlb (Nat.le_of_ble_eq_true hb) hn) hd hF h
theorem X.appendNil {t : TypeId} {x y : Operand} {e sz by' : Nat} {lb : List PV} {z : List PV} {q : PV} {R : List Nat} (b : Bool) (ht : eltOf P t = some (e, sz, by')) (hz : zeroPV P e = some z) (hx : evO S x = some .nils := by rfl) (hy : evO S y = some q := by rfl) (hq : Lst (St.of S M).mem q lb R) (hlb : ∀ e ∈ lb, e.cells.length = sz) (hn : lb.length ≤ 1099511627776) (h0 : Nat.ble 1 sz = true := by rfl) (hzl : z.length = sz := by rfl) (hb : Nat.ble by' 128 = true := by rfl) (hm : look M (64 * d) = none := by rfl) (hd : Nat.ble (d + 1) N = true := by rfl) (hF : (F i).okB (64 * d :: R) [64 * d] = true := by rfl) (h : SLx P N all F (i + 1) rest (St.of ((d, .own (64 * d) lb.length) :: S) ((64 * d, .obj b e sz lb) :: M)) K) :
    SLx P N all F i (⟨some d, .call { callee := .builtin .append, args := #[x, y], argTypes := #[t, t] }, ty, pos, after, none⟩ :: rest) (St.of S M) K :=
  X.ofOp (v := .own (64 * d) lb.length) (U := [(64 * d, .obj b e sz lb)]) (R := (64 * d :: R)) (.appendNil b t x y e sz by' lb z q R ht (Nat.le_of_ble_eq_true h0) hz hzl (evO_spec hx) (evO_spec hy) hq hlb (Nat.le_of_ble_eq_true hb) hn (look_none hm)) hd hF h
theorem X.makeSlice {t : TypeId} {x y : Operand} {e sz by' : Nat} {z : List PV} {k k' : IntKind} {j : Int} {n : Nat} (el : PV) (ht : eltOf P t = some (e, sz, by')) (hz : zeroPV P e = some z) (hel : el.cells = z ∨ el.cells = z.map zc) (hx : evO S x = some (.lit (.int k j)) := by rfl) (hy : evO S y = some (.lit (.int k' j)) := by rfl) (hj : j = n) (hn : n ≤ 1099511627776) (hp : ∀ c ∈ z, c.plain = true := by simp [PV.plain]) (h0 : Nat.ble 1 sz = true := by rfl) (hzl : z.length = sz := by rfl) (hb : Nat.ble by' 128 = true := by rfl) (hm : look M (64 * d) = none := by rfl) (hd : Nat.ble (d + 1) N = true := by rfl) (hF : (F i).okB [64 * d] [64 * d] = true := by rfl) (h : SLx P N all F (i + 1) rest (St.of ((d, .own (64 * d) n) :: S) ((64 * d, .obj true e sz (List.replicate n el)) :: M)) K) :
    SLx P N all F i (⟨some d, .makeSlice t x y, ty, pos, after, none⟩ :: rest) (St.of S M) K :=
  X.ofOp (v := .own (64 * d) n) (U := [(64 * d, .obj true e sz (List.replicate n el))]) (R := [64 * d]) (by subst hj; have := AOp.makeSlice (P := P) (σ := (St.of S M).ev) (m := (St.of S M).mem) (d := d) t x y e sz by' z el k k' (n : Int) ht (Nat.le_of_ble_eq_true h0) hz hel hzl hp (evO_spec hx) (evO_spec hy) (by omega) (by omega) (Nat.le_of_ble_eq_true hb) (look_none hm); simpa using this) hd hF h
theorem X.makeFunc {f : FuncId} {caps : Array Operand} {ps ps' : List PV} {R : List Nat} {C : List (Nat × Nat)} (hps : evL S caps.toList = some ps := by rfl) (hp : purL M ps = some (ps', R, C) := by rfl) (hC : AllEq C := by repeat (first | exact trivial | refine ⟨rfl, ?_⟩)) (hd : Nat.ble (d + 1) N = true := by rfl) (hF : (F i).okB R [] = true := by rfl) (h : SLx P N all F (i + 1) rest (St.of ((d, .fn f ps') :: S) M) K) :
    SLx P N all F i (⟨some d, .makeFunc (.func f) #[] caps, ty, pos, after, none⟩ :: rest) (St.of S M) K :=
  X.ofOp (v := .fn f ps') (U := []) (R := R) (.makeFunc f caps ps ps' R (evL_spec hps) (purL_spec hp hC)) hd hF h

/-- A call. -/
theorem X.call {fo : Operand} {args : Array Operand} {ats : Array TypeId} {f : FuncId} {caps ps ps' ps2 : List PV} {r p : PV} {R : List Nat} {C : List (Nat × Nat)} {U : List (Nat × PV)} {n' : Nat} (hf : evO S fo = some (.fn f caps)) (hps : evL S args.toList = some ps) (hp : purL M ps = some (ps', R, C)) (hC : AllEq C)
    (ha : ps' ++ caps = ps2) (hc : PC P f ps2 r) (hr : RecvL (64 * d) [r] [p] U n') (hU : ∀ q ∈ U, look M q.1 = none) (hd : Nat.ble (d + 1) N = true) (hF : (F i).okB R (U.map (·.1)) = true) (h : SLx P N all F (i + 1) rest (St.of ((d, p) :: S) (U.reverse ++ M)) K) :
    SLx P N all F i (⟨some d, .call { callee := .value fo, args := args, argTypes := ats }, ty, pos, after, none⟩ :: rest) (St.of S M) K := by
  subst ha
  refine ⟨_, .call _ d fo args ats ty pos after none f caps ps ps' r p R U n' (fun g want e => by cases e) (evO_spec hf) (evL_spec hps) (purL_spec hp hC) hc hr (fun q hq => look_none (hU q hq)) (Nat.le_of_ble_eq_true hd) (okB_spec hF), ?_⟩
  rw [slot_of, upds_of S U M]
  exact h
/-- A call whose result is plain. -/
theorem X.callP {fo : Operand} {args : Array Operand} {ats : Array TypeId} {f : FuncId} {caps ps ps' ps2 : List PV} {r : PV} {R : List Nat} {C : List (Nat × Nat)} (hc : PC P f ps2 r) (hf : evO S fo = some (.fn f caps) := by rfl) (hps : evL S args.toList = some ps := by rfl) (hp : purL M ps = some (ps', R, C) := by rfl)
    (hC : AllEq C := by repeat (first | exact trivial | refine ⟨rfl, ?_⟩)) (ha : ps' ++ caps = ps2 := by rfl) (hr : r.plain = true := by rfl) (hd : Nat.ble (d + 1) N = true := by rfl) (hF : (F i).okB R [] = true := by rfl) (h : SLx P N all F (i + 1) rest (St.of ((d, r) :: S) M) K) :
    SLx P N all F i (⟨some d, .call { callee := .value fo, args := args, argTypes := ats }, ty, pos, after, none⟩ :: rest) (St.of S M) K :=
  X.call hf hps hp hC ha hc (.plain _ r [] [] [] _ hr (.nil _)) (fun q hq => by cases hq) hd hF h
/-- A call whose result is a slice that the caller owns. -/
theorem X.callF {fo : Operand} {args : Array Operand} {ats : Array TypeId} {f : FuncId} {caps ps ps' ps2 : List PV} {x : Bool} {e sz : Nat} {l : List PV} {R : List Nat} {C : List (Nat × Nat)} (hc : PC P f ps2 (.fresh x e sz l)) (hf : evO S fo = some (.fn f caps) := by rfl) (hps : evL S args.toList = some ps := by rfl) (hp : purL M ps = some (ps', R, C) := by rfl)
    (hC : AllEq C := by repeat (first | exact trivial | refine ⟨rfl, ?_⟩)) (ha : ps' ++ caps = ps2 := by rfl) (hm : look M (64 * d) = none := by rfl) (hd : Nat.ble (d + 1) N = true := by rfl) (hF : (F i).okB R [64 * d] = true := by rfl) (h : SLx P N all F (i + 1) rest (St.of ((d, .own (64 * d) l.length) :: S) ((64 * d, .obj x e sz l) :: M)) K) :
    SLx P N all F i (⟨some d, .call { callee := .value fo, args := args, argTypes := ats }, ty, pos, after, none⟩ :: rest) (St.of S M) K :=
  X.call hf hps hp hC ha hc (.fresh _ x e sz l [] [] [] _ (.nil _)) (fun q hq => by simp at hq; subst hq; exact hm) hd hF h

theorem AStep.with_guard {F : Foot} {s s' : St} {dst : Option Nat} {op : Op} {g : Nat} {want : Bool} (h : AStep P N all F ⟨dst, op, ty, pos, after, none⟩ s s') (hy : gyield all s g (some want)) : AStep P N all F ⟨dst, op, ty, pos, after, some (g, want)⟩ s s' := by
  cases h with
  | op _ d op ty pos after gd p U R hg ha hd hF => exact .op s d op ty pos after _ p U R (fun g' w' e => by cases e; exact hy) ha hd hF
  | op0 _ op ty pos after gd p U R hg ha hF => exact .op0 s op ty pos after _ p U R (fun g' w' e => by cases e; exact hy) ha hF
  | call _ d fo args ats ty pos after gd f caps ps ps' r p R U n' hg hf hps hp hc hr hU hd hF => exact .call s d fo args ats ty pos after _ f caps ps ps' r p R U n' (fun g' w' e => by cases e; exact hy) hf hps hp hc hr hU hd hF
  | skip _ _ g want b hgd hy hb hd => cases hgd

theorem X.gyes {dst : Option Nat} {op : Op} {g t : Nat} {want b : Bool} (hg : gslot all g = some t := by rfl) (hs : look S t = some (.lit (.bool b)) := by rfl) (hb : b = want := by first | rfl | assumption) (h : SLx P N all F i (⟨dst, op, ty, pos, after, none⟩ :: rest) (St.of S M) K) :
    SLx P N all F i (⟨dst, op, ty, pos, after, some (g, want)⟩ :: rest) (St.of S M) K := by
  obtain ⟨s', h1, h2⟩ := h
  exact ⟨s', h1.with_guard ⟨t, hg, by subst hb; exact look_slot hs⟩, h2⟩
theorem X.gno {op : Op} {g t : Nat} {want b : Bool} (hg : gslot all g = some t := by rfl) (hs : look S t = some (.lit (.bool b)) := by rfl) (hb : b = !want := by first | rfl | assumption) (hd : Nat.ble (d + 1) N = true := by rfl) (h : SLx P N all F (i + 1) rest (St.of ((d, .tuple []) :: S) M) K) :
    SLx P N all F i (⟨some d, op, ty, pos, after, some (g, want)⟩ :: rest) (St.of S M) K := by
  refine ⟨_, .skip _ _ g want (some b) rfl ⟨t, hg, look_slot hs⟩ (by subst hb; cases want <;> simp) (fun d' e => by cases e; exact Nat.le_of_ble_eq_true hd), ?_⟩
  have e : (St.of S M).put (some d) (.tuple []) = St.of ((d, .tuple []) :: S) M := by simp only [St.put]; rw [slot_of]; rfl
  rw [e]; exact h
theorem X.gU {op : Op} {g t : Nat} {want : Bool} (hg : gslot all g = some t := by rfl) (hs : look S t = some (.tuple []) := by rfl) (hd : Nat.ble (d + 1) N = true := by rfl) (h : SLx P N all F (i + 1) rest (St.of ((d, .tuple []) :: S) M) K) :
    SLx P N all F i (⟨some d, op, ty, pos, after, some (g, want)⟩ :: rest) (St.of S M) K := by
  refine ⟨_, .skip _ _ g want none rfl ⟨t, hg, look_slot hs⟩ (fun e => by cases e) (fun d' e => by cases e; exact Nat.le_of_ble_eq_true hd), ?_⟩
  have e : (St.of S M).put (some d) (.tuple []) = St.of ((d, .tuple []) :: S) M := by simp only [St.put]; rw [slot_of]; rfl
  rw [e]; exact h
theorem X.nil {s : St} (h : K s) : SLx P N all F i [] s K := h

/-- What a state forgets: only listed slots and names stay. -/
def Sub (S' M' S M : List (Nat × PV)) : Prop := (∀ t v, look S' t = some v → look S t = some v) ∧ (∀ n p, look M' n = some p → look M n = some p)
/-- The names that a value refers to. -/
def PV.refs : PV → List Nat
  | .own n _ => [n]
  | .lptr n _ => [n]
  | .eptr n _ _ _ => [n]
  | _ => []
def PV.refs2 : PV → List Nat
  | .agg cs => cs.flatMap PV.refs
  | .tuple cs => cs.flatMap fun c => match c with | .agg cs => cs.flatMap PV.refs | c => c.refs
  | .blk _ cs => cs.flatMap fun c => match c with | .agg cs => cs.flatMap PV.refs | c => c.refs
  | p => p.refs
end
end Go.Px
namespace Go.Px
set_option linter.unusedSimpArgs false
set_option linter.unusedVariables false
open Go.RowKit

/-- The references of a value lie among G; 'd': the depth that is looked at. -/
def refsB : Nat → List Nat → PV → Bool
  | _, G, .own n _ => G.contains n
  | _, G, .lptr n _ => G.contains n
  | _, G, .eptr n _ _ _ => G.contains n
  | 0, _, .agg _ => false
  | 0, _, .tuple _ => false
  | d + 1, G, .agg cs => cs.all (refsB d G)
  | d + 1, G, .tuple cs => cs.all (refsB d G)
  | _, _, _ => true
def refsM (G : List Nat) : PV → Bool
  | .blk _ cs => cs.all (refsB 2 G)
  | _ => true

theorem RV.forget {pub : Nat → Nat → Prop} {w : World} {V : Nat → Value} {m m' : Nat → PV} {G : List Nat} (hm : ∀ n ∈ G, m' n = m n) {p : PV} {v : Value} (h : RV pub w V m p v) : ∀ d, refsB d G p = true → RV pub w V m' p v := by
  induction h with
  | undef v => intro d _; exact .undef v
  | pure h => intro d _; exact .pure h
  | ref h =>
    intro d hd
    refine .ref ?_
    cases h with
    | own n k _ x e sz l h1 h2 h3 =>
      have : n ∈ G := by cases d <;> simpa [refsB] using hd
      exact .own n k _ x e sz l ((hm n this).trans h1) h2 h3
    | lptr n off x cs b h1 h2 =>
      have : n ∈ G := by cases d <;> simpa [refsB] using hd
      exact .lptr n off x cs b ((hm n this).trans h1) h2
    | eptr n k i off _ x e sz l h1 h2 h3 =>
      have : n ∈ G := by cases d <;> simpa [refsB] using hd
      exact .eptr n k i off _ x e sz l ((hm n this).trans h1) h2 h3
  | agg cs arr hs hd hc ih =>
    intro d hdd
    cases d with
    | zero => simp [refsB] at hdd
    | succ d =>
      simp only [refsB, List.all_eq_true] at hdd
      exact .agg cs arr hs hd fun j c hj => ih j c hj d (hdd c (List.mem_of_getElem? hj))
  | tuple cs arr hs hc ih =>
    intro d hdd
    cases d with
    | zero => simp [refsB] at hdd
    | succ d =>
      simp only [refsB, List.all_eq_true] at hdd
      exact .tuple cs arr hs fun j c hj => ih j c hj d (hdd c (List.mem_of_getElem? hj))

def memB : Nat → List Nat → Bool
  | _, [] => false
  | n, m :: L => bif Nat.beq m n then true else memB n L
/-- What the second list says, the first says too (of each name the first entry counts). -/
def AllLookD (S : List (Nat × PV)) : List Nat → List (Nat × PV) → Prop
  | _, [] => True
  | seen, (t, v) :: S' => bif memB t seen then AllLookD S seen S' else look S t = some v ∧ AllLookD S (t :: seen) S'
abbrev AllLook (S S' : List (Nat × PV)) : Prop := AllLookD S [] S'
theorem AllLookD.at {S : List (Nat × PV)} : ∀ {S' : List (Nat × PV)} {seen : List Nat}, AllLookD S seen S' → ∀ {t v}, memB t seen = false → look S' t = some v → look S t = some v
  | [], _, _, _, _, _, h => by cases h
  | (u, p) :: S', seen, hA, t, v, hs, h => by
    unfold look at h
    unfold AllLookD at hA
    cases hb : Nat.beq u t with
    | true =>
      rw [hb] at h; simp at h; subst h
      have := Nat.eq_of_beq_eq_true hb; subst this
      rw [hs] at hA
      exact hA.1
    | false =>
      rw [hb] at h
      cases hu : memB u seen with
      | true => rw [hu] at hA; exact AllLookD.at hA hs h
      | false =>
        rw [hu] at hA
        exact AllLookD.at hA.2 (by unfold memB; rw [hb]; exact hs) h
theorem AllLook.at {S S' : List (Nat × PV)} (h : AllLook S S') {t : Nat} {v : PV} (hl : look S' t = some v) : look S t = some v := AllLookD.at h rfl hl
theorem look_mem_key : ∀ {S : List (Nat × PV)} {t : Nat} {v : PV}, look S t = some v → (t, v) ∈ S
  | [], _, _, h => by cases h
  | (u, p) :: S, t, v, h => by
    unfold look at h
    cases hb : Nat.beq u t with
    | true =>
      rw [hb] at h; simp at h; subst h
      have := Nat.eq_of_beq_eq_true hb; subst this
      exact List.mem_cons_self ..
    | false => rw [hb] at h; exact List.mem_cons_of_mem _ (look_mem_key h)
theorem look_of_key : ∀ {S : List (Nat × PV)} {t : Nat}, t ∈ S.map (·.1) → ∃ v, look S t = some v
  | [], _, h => by cases h
  | (u, p) :: S, t, h => by
    unfold look
    cases hb : Nat.beq u t with
    | true => exact ⟨p, rfl⟩
    | false =>
      rw [List.map_cons, List.mem_cons] at h
      rcases h with h | h
      · subst h; simp at hb
      · exact look_of_key h

/-- A state forgets. -/
theorem Weak.sub {N : Nat} {S M S' M' : List (Nat × PV)} (hS : AllLook S S') (hM : AllLook M M') (hr : (S'.all fun q => refsB 3 (M'.map (·.1)) q.2) = true) (hrm : (M'.all fun q => refsM (M'.map (·.1)) q.2) = true) : Weak N (St.of S M) (St.of S' M') := by
  intro w0 pub0 a w ⟨pub, V, c1, c2, h⟩
  have hG : ∀ n ∈ M'.map (·.1), (St.of S' M').mem n = (St.of S M).mem n := fun n hn => by
    obtain ⟨v, hv⟩ := look_of_key hn
    rw [look_mem hv, look_mem (hM.at hv)]
  refine ⟨pub, V, c1, c2, ⟨h.defers, h.size, h.below, h.pubLt, fun t => ?_, fun n => ?_, fun n m g h1 h2 => ?_⟩⟩
  · cases ht : look S' t with
    | none => simp only [St.of, ht]; exact .undef _
    | some v =>
      have h1 := h.slots t
      rw [look_slot (hS.at ht)] at h1
      rw [look_slot ht]
      exact h1.forget hG 3 (List.all_eq_true.1 hr _ (look_mem_key ht))
  · cases hn : look M' n with
    | none => rw [look_none hn]; exact .undef
    | some p =>
      have h1 := h.mem n
      rw [look_mem (hM.at hn)] at h1
      rw [look_mem hn]
      have hrn := List.all_eq_true.1 hrm _ (look_mem_key hn)
      cases h1 with
      | undef => exact .undef
      | blk x cs g arr T hv hB hg hs hp hq hc hr' =>
        simp only [refsM, List.all_eq_true] at hrn
        exact .blk x cs g arr T hv hB hg hs hp hq (fun j c hj => ⟨(hc j c hj).1, (hc j c hj).2.forget hG 2 (hrn c (List.mem_of_getElem? hj))⟩) hr'
      | obj x e sz l xs hsz hmx hl how hp hq hc => exact .obj x e sz l xs hsz hmx hl how hp hq hc
  · have e : ∀ k, (St.of S' M').mem k ≠ .undef → (St.of S M).mem k ≠ .undef := fun k hk => by
      cases hk' : look M' k with
      | none => exact absurd (look_none hk') hk
      | some p => rw [look_mem (hM.at hk')]; rw [look_mem hk'] at hk; exact hk
    exact h.apart n m g (e n h1) (e m h2)

section
variable {P : Program} {N : Nat} {Q : St → Prop} {k : List Item} {S M : List (Nat × PV)}

/-- The beginning of a proof of a contract. -/
def slotsOf : Nat → List PV → List (Nat × PV)
  | _, [] => []
  | i, p :: ps => (i, p) :: slotsOf (i + 1) ps
theorem look_slotsOf : ∀ (ps : List PV) (i t : Nat), look (slotsOf i ps) t = if t < i then none else ps[t - i]?
  | [], i, t => by simp [slotsOf, look]
  | p :: ps, i, t => by
    unfold slotsOf look
    cases hb : Nat.beq i t with
    | true =>
      have := Nat.eq_of_beq_eq_true hb; subst this
      simp
    | false =>
      have hne : i ≠ t := fun e => by subst e; simp at hb
      rw [cond_false, look_slotsOf ps (i + 1) t]
      by_cases h : t < i
      · rw [if_pos h, if_pos (by omega)]
      · rw [if_neg h, if_neg (by omega), show t - i = (t - (i + 1)) + 1 by omega]; simp
theorem PC.start {f : FuncId} {fn : Func} {c : Code} {args : List PV} {r : PV} (hf : P.funcs[f]? = some fn) (hN : fn.ntmps = N) (hb : fn.body = some c) (hok : okFn P f = true) (hn : Nat.ble args.length N = true) (h : Run P N (Fin P fn r) [.code c] (St.of (slotsOf 0 args) [])) : PC P f args r := by
  subst hN
  refine PC.intro hf hb hok (Nat.le_of_ble_eq_true hn) ?_
  have e : (⟨initSlot args, fun _ => .undef⟩ : St) = St.of (slotsOf 0 args) [] := by
    unfold St.of
    congr 1
    funext t
    rw [initSlot_get, look_slotsOf]; simp
  rw [e]; exact h

theorem R.cond {c : Operand} {x y : Code} {b : Bool} (hc : evO S c = some (.lit (.bool b))) (h1 : b = true → Run P N Q (.code x :: k) (St.of S M)) (h2 : b = false → Run P N Q (.code y :: k) (St.of S M)) : Run P N Q (.code (.cond c x y) :: k) (St.of S M) := Run.cond (evO_spec hc) h1 h2
theorem R.condT {c : Operand} {x y : Code} {b : Bool} (hb : b = true) (hc : evO S c = some (.lit (.bool b)) := by rfl) (h1 : Run P N Q (.code x :: k) (St.of S M)) : Run P N Q (.code (.cond c x y) :: k) (St.of S M) := Run.cond (evO_spec hc) (fun _ => h1) (fun h => by rw [hb] at h; cases h)
theorem R.condF {c : Operand} {x y : Code} {b : Bool} (hb : b = false) (hc : evO S c = some (.lit (.bool b)) := by rfl) (h1 : Run P N Q (.code y :: k) (St.of S M)) : Run P N Q (.code (.cond c x y) :: k) (St.of S M) := Run.cond (evO_spec hc) (fun h => by rw [hb] at h; cases h) (fun _ => h1)
theorem R.forget {S' M' : List (Nat × PV)} (hS : AllLook S S') (hM : AllLook M M') (hr : (S'.all fun q => refsB 3 (M'.map (·.1)) q.2) = true) (hrm : (M'.all fun q => refsM (M'.map (·.1)) q.2) = true) (h : Run P N Q k (St.of S' M')) : Run P N Q k (St.of S M) := Run.weak (Weak.sub hS hM hr hrm) h

/-- A region whose ways meet again in one bool. -/
def Ends (N : Nat) (S M : List (Nat × PV)) (t : Nat) (e : Bool) (s : St) : Prop := Weak N s (St.of ((t, .lit (.bool e)) :: S) M)
theorem R.regB {id : Nat} {l : List Oper} (t : Nat) {e : Bool} (h : SLx P N l.toArray (fun _ => none) 0 l (St.of S M) (Ends N S M t e)) (h2 : Run P N Q k (St.of ((t, .lit (.bool e)) :: S) M)) : Run P N Q (.code (.region id l.toArray false) :: k) (St.of S M) := fun w0 pub0 a w hR =>
  wp_region_lit (SLx.sound (fun s a w hs hR => h2 w0 pub0 a w (hs _ _ _ _ hR)) l 0 _ a w h hR)
theorem SLx.mono {all : Array Oper} {F : Nat → Foot} {K K' : St → Prop} (hK : ∀ s, K s → K' s) : ∀ (l : List Oper) (i : Nat) (s : St), SLx P N all F i l s K → SLx P N all F i l s K'
  | [], _, s, h => hK s h
  | _ :: l, i, _, ⟨s', h1, h2⟩ => ⟨s', h1, SLx.mono hK l (i + 1) s' h2⟩
theorem R.drawB {id : Nat} {l : List Oper} (t : Nat) {e : Bool} (F : Nat → Foot) (hm : P.follows .mixedOrders = true) (hB : Region.lexB .any l.toArray = true) (hF : footFrom l.toArray F l.length 0 (Array.replicate l.length false) = true)
    (h : SLx P N l.toArray F 0 l (St.of S M) (Ends N S M t e)) (h2 : Run P N Q k (St.of ((t, .lit (.bool e)) :: S) M)) : Run P N Q (.code (.region id l.toArray true) :: k) (St.of S M) :=
  Run.draw F hm hB hF (SLx.mono (fun s hs w0 pub0 a w hR => h2 w0 pub0 a w (hs _ _ _ _ hR)) l 0 _ h)
theorem X.splitAnd {all : Array Oper} {F : Nat → Foot} {i : Nat} {l : List Oper} {s : St} {S0 M0 : List (Nat × PV)} {t : Nat} (b : Bool) {e : Bool} (h1 : b = true → SLx P N all F i l s (Ends N S0 M0 t e)) (h2 : b = false → SLx P N all F i l s (Ends N S0 M0 t false)) : SLx P N all F i l s (Ends N S0 M0 t (b && e)) := by
  cases b
  · exact h2 rfl
  · exact h1 rfl
theorem X.splitOr {all : Array Oper} {F : Nat → Foot} {i : Nat} {l : List Oper} {s : St} {S0 M0 : List (Nat × PV)} {t : Nat} (b : Bool) {e : Bool} (h1 : b = false → SLx P N all F i l s (Ends N S0 M0 t e)) (h2 : b = true → SLx P N all F i l s (Ends N S0 M0 t true)) : SLx P N all F i l s (Ends N S0 M0 t (b || e)) := by
  cases b
  · exact h1 rfl
  · exact h2 rfl

/-- A pure slice in a variable: published already; a variable of the call's own is published: it stays as it is from then on. -/
theorem R.pubBlk {n : Nat} {cs qs : List PV} {R : List Nat} {C : List (Nat × Nat)} (hm : look M n = some (.blk true cs)) (hp : purC M cs = some (qs, R, C)) (hC : AllEq C) (h : Run P N Q k (St.of S ((n, .blk false qs) :: M))) : Run P N Q k (St.of S M) := by
  refine Run.weak (s' := St.of S ((n, .blk false qs) :: M)) ?_ h
  intro w0 pub0 a w ⟨pub, V, c1, c2, hrel⟩
  have hpur := purC_spec (S := S) hp hC
  have hmn := hrel.mem n
  rw [look_mem hm] at hmn
  generalize hVn : V n = v at hmn
  cases hmn with
  | blk _ _ g arr T hv hB hg hs hpp hq hc hr =>
    have hlen := hpur.length
    have hrep : ∀ (j : Nat) c, qs[j]? = some c → Rep pub w c (arr.getD j Go.undef) := fun j c hj => by
      have hjl : j < cs.length := by rw [← hlen]; exact (List.getElem?_eq_some_iff.1 hj).1
      exact hpur.rep hrel j _ c _ (List.getElem?_eq_getElem hjl) hj (hc j _ (List.getElem?_eq_getElem hjl)).2
    subst hv
    have hlt : g < w.heap.size := (Array.getElem?_eq_some_iff.1 hg).1
    have ht := hrel.touch (pub' := fun b o => pub b o ∨ (b = g ∧ o < arr.size)) (w' := w) n (by rw [look_mem hm]; intro e; cases e) (V n) (.blk false qs) (fun e => by cases e) (Nat.le_refl _) rfl rfl rfl (fun _ _ _ => rfl) (fun b o h => .inl h)
      (fun b o ho => ho.imp id fun h => by rw [hVn, h.1]; rfl) (fun b hb => by rw [hVn] at hb; simp [blockOf] at hb; omega) (fun _ _ _ => rfl) (.inl rfl) (fun q u hq => by rw [updV_self]; exact refs_blk (look_mem hm) hq)
      (fun t => .blk false qs g arr T hVn hB hg (hs.trans hlen.symm) (fun o _ => rfl) (fun _ o ho => .inr ⟨rfl, ho⟩) (fun j c hj => ⟨(hc j _ (List.getElem?_eq_getElem (by rw [← hlen]; exact (List.getElem?_eq_some_iff.1 hj).1))).1, .pure (t.rep (hrep j c hj))⟩) (fun _ j c hj => t.rep (hrep j c hj)))
    rw [updV_self] at ht
    have e : ({ (St.of S M) with mem := upd (St.of S M).mem n (.blk false qs) } : St) = St.of S ((n, .blk false qs) :: M) := by
      have := mem_of S M n (.blk false qs)
      simp only [upds] at this
      rw [this]; rfl
    rw [e] at ht
    exact ⟨_, V, fun b o ho => .inl (c1 b o ho), fun b o ho => ho.elim (c2 b o) (fun h => .inr (by rw [h.1]; exact hB)), ht⟩
end
end Go.Px
namespace Go.Px
set_option linter.unusedSimpArgs false
set_option linter.unusedVariables false
open Go.RowKit

/-- A table of footprints. -/
def footOf : List (Nat × (List Nat × List Nat)) → Nat → Foot
  | [], _ => some ([], [])
  | (m, v) :: L, n => bif Nat.beq m n then some v else footOf L n

section
variable {P : Program} {N : Nat} {Q : St → Prop} {k : List Item} {S M : List (Nat × PV)} {all : Array Oper} {F : Nat → Foot} {i : Nat} {rest : List Oper} {d : Nat} {ty : TypeId} {pos : String} {after : Array Edge}

/-- A guard that is not known: both ways; the region's bool is told by cases. -/
theorem X.ifS {op : Op} {g t : Nat} {want b : Bool} {S0 M0 : List (Nat × PV)} {u : Nat} {e1 e0 : Bool} (hg : gslot all g = some t) (hs : look S t = some (.lit (.bool b))) (hd : Nat.ble (d + 1) N = true)
    (h1 : b = want → SLx P N all F i (⟨some d, op, ty, pos, after, none⟩ :: rest) (St.of S M) (Ends N S0 M0 u e1)) (h2 : b = !want → SLx P N all F (i + 1) rest (St.of ((d, .tuple []) :: S) M) (Ends N S0 M0 u e0)) :
    SLx P N all F i (⟨some d, op, ty, pos, after, some (g, want)⟩ :: rest) (St.of S M) (Ends N S0 M0 u (bif b == want then e1 else e0)) := by
  by_cases hb : b = want
  · subst hb
    simp only [beq_self_eq_true, cond_true]
    exact X.gyes hg hs rfl (h1 rfl)
  · have hb' : b = !want := by cases b <;> cases want <;> simp_all
    have : (b == want) = false := by simpa using hb
    simp only [this, cond_false]
    exact X.gno hg hs hb' hd (h2 hb')

theorem X.end {S0 M0 : List (Nat × PV)} {u : Nat} {e : Bool} (hS : AllLook S ((u, .lit (.bool e)) :: S0)) (hM : AllLook M M0) (hr : (((u, PV.lit (.bool e)) :: S0).all fun q => refsB 3 (M0.map (·.1)) q.2) = true) (hrm : (M0.all fun q => refsM (M0.map (·.1)) q.2) = true) :
    SLx P N all F i [] (St.of S M) (Ends N S0 M0 u e) := X.nil (K := Ends N S0 M0 u e) (Weak.sub hS hM hr hrm)

/-- A LOOP: 'b': what the rounds change; 'S0', 'M0': what stays. -/
theorem R.loop {β : Type} {c : Code} (S0 M0 : List (Nat × PV)) (X Y : β → List (Nat × PV) → List (Nat × PV)) (J : Nat → β → Prop) (n0 : Nat) (b0 : β) (hS : AllLook S (X b0 S0)) (hM : AllLook M (Y b0 M0)) (hr : ((X b0 S0).all fun q => refsB 3 ((Y b0 M0).map (·.1)) q.2) = true) (hrm : ((Y b0 M0).all fun q => refsM ((Y b0 M0).map (·.1)) q.2) = true)
    (h0 : J n0 b0) (hrun : ∀ n b, J n b → Run P N Q (.code c :: .again (fun s => ∃ m b', m < n ∧ J m b' ∧ s = St.of (X b' S0) (Y b' M0)) :: k) (St.of (X b S0) (Y b M0))) : Run P N Q (.code (.loop c) :: k) (St.of S M) := by
  refine Run.loop (fun n s => ∃ b, J n b ∧ s = St.of (X b S0) (Y b M0)) n0 (Weak.sub hS hM hr hrm) ⟨b0, h0, rfl⟩ ?_
  rintro n s ⟨b, hJ, rfl⟩
  have := hrun n b hJ
  have e : (fun s => ∃ m b', m < n ∧ J m b' ∧ s = St.of (X b' S0) (Y b' M0)) = (fun s' => ∃ m, m < n ∧ ∃ b, J m b ∧ s' = St.of (X b S0) (Y b M0)) := by
    funext s
    apply propext
    constructor
    · rintro ⟨m, b', h1, h2, h3⟩; exact ⟨m, h1, b', h2, h3⟩
    · rintro ⟨m, h1, b', h2, h3⟩; exact ⟨m, b', h1, h2, h3⟩
  rw [← e]; exact this
theorem R.again {β : Type} {S0 M0 : List (Nat × PV)} {X Y : β → List (Nat × PV) → List (Nat × PV)} {J : Nat → β → Prop} {n : Nat} (m : Nat) (b' : β) (hlt : m < n) (hJ : J m b') (hS : AllLook S (X b' S0)) (hM : AllLook M (Y b' M0)) (hr : ((X b' S0).all fun q => refsB 3 ((Y b' M0).map (·.1)) q.2) = true)
    (hrm : ((Y b' M0).all fun q => refsM ((Y b' M0).map (·.1)) q.2) = true) : Run P N Q (.again (fun s => ∃ m b', m < n ∧ J m b' ∧ s = St.of (X b' S0) (Y b' M0)) :: k) (St.of S M) :=
  Run.again (Weak.sub hS hM hr hrm) ⟨m, b', hlt, hJ, rfl⟩

/-- The end: one result in a slot. -/
theorem R.fin1 {fn : Func} {t : Nat} {v r : PV} (hres : fn.results = #[.tmp t]) (hv : look S t = some v) (hp : v.plain = true) (hr : v = r) : Run P N (Fin P fn r) (.code .ret :: k) (St.of S M) :=
  Run.ret ⟨[v], [v], [], by rw [hres]; exact .tmp t v [] [] (look_slot hv) .nil, .plain v [] [] [] hp .nil, hr⟩
/-- The end: one slice of the call's own. -/
theorem R.fin1o {fn : Func} {t n j e sz : Nat} {x : Bool} {l : List PV} {r : PV} (hres : fn.results = #[.tmp t]) (hv : look S t = some (.own n j)) (hm : look M n = some (.obj x e sz l)) (hj : j = l.length) (hr : .fresh x e sz l = r) : Run P N (Fin P fn r) (.code .ret :: k) (St.of S M) :=
  Run.ret ⟨[.own n j], [.fresh x e sz l], [n], by rw [hres]; exact .tmp t _ [] [] (look_slot hv) .nil, .own n j x e sz l [] [] [] (look_mem hm) hj (by simp) .nil, hr⟩
/-- The end: one nil slice. -/
theorem R.fin1n {fn : Func} {t e sz : Nat} {x : Bool} {r : PV} (hres : fn.results = #[.tmp t]) (hv : look S t = some .nils) (hsz : 0 < sz) (hr : .fresh x e sz [] = r) : Run P N (Fin P fn r) (.code .ret :: k) (St.of S M) :=
  Run.ret ⟨[.nils], [.fresh x e sz []], [], by rw [hres]; exact .tmp t _ [] [] (look_slot hv) .nil, .nils x e sz [] [] [] hsz .nil, hr⟩
end
end Go.Px
namespace Go.Px
set_option linter.unusedSimpArgs false
set_option linter.unusedVariables false
open Go.RowKit

/-- A struct's parts laid into its cells. -/
def buildK (pl : Nat → Option (Nat × Nat)) : List PV → List (Nat × PV) → Option (List PV)
  | cs, [] => some cs
  | cs, (i, p) :: rest => match pl i with
    | some (off, sz) => bif Nat.beq p.cells.length sz then (match spliceK off cs p.cells some with | some cs' => buildK pl cs' rest | none => none) else none
    | none => none
theorem buildK_spec {pl : Nat → Option (Nat × Nat)} : ∀ (ips : List (Nat × PV)) (z cs : List PV), buildK pl z ips = some cs → fillPV pl z ips = some cs
  | [], z, cs, h => by simpa [buildK, fillPV] using h
  | (i, p) :: rest, z, cs, h => by
    simp only [buildK] at h
    simp only [fillPV]
    split at h
    · rename_i off sz hp
      cases hb : Nat.beq p.cells.length sz with
      | false => rw [hb] at h; cases h
      | true =>
        rw [hb] at h
        simp only [cond_true] at h
        split at h
        · rename_i cs' hs
          obtain ⟨h1, e⟩ := spliceK_eq hs (Nat.eq_of_beq_eq_true hb)
          subst e
          rw [hp]
          simp only
          rw [if_pos ⟨Nat.eq_of_beq_eq_true hb, h1⟩]
          exact buildK_spec rest _ _ h
        · cases h
    · cases h
def curL (M : List (Nat × PV)) : List PV → Option (List Nat × List (Nat × Nat))
  | [] => some ([], [])
  | p :: ps => match curO M p with
    | some (R, C) => match curL M ps with
      | some (R', C') => some (R ++ R', C ++ C')
      | none => none
    | none => none
theorem curL_spec {S M : List (Nat × PV)} : ∀ {ps : List PV} {R : List Nat} {C : List (Nat × Nat)}, curL M ps = some (R, C) → AllEq C → (∀ p ∈ ps, Cur (St.of S M).mem p) ∧ ∀ p ∈ ps, ∀ j k, p = .own j k → j ∈ R
  | [], R, C, _, _ => ⟨by simp, by simp⟩
  | p :: ps, R, C, h, hC => by
    simp only [curL] at h
    split at h <;> try cases h
    rename_i R1 C1 h1
    split at h <;> try cases h
    rename_i R2 C2 h2
    obtain ⟨c1, c2⟩ := hC.app
    have a1 := curO_spec (S := S) h1 c1
    have a2 := curL_spec (S := S) h2 c2
    refine ⟨fun q hq => ?_, fun q hq j k e => ?_⟩
    · rcases List.mem_cons.1 hq with rfl | hq
      · exact a1.1
      · exact a2.1 q hq
    · rcases List.mem_cons.1 hq with rfl | hq
      · exact List.mem_append_left _ (a1.2 j k e)
      · exact List.mem_append_right _ (a2.2 q hq j k e)

section
variable {P : Program} {N : Nat} {all : Array Oper} {F : Nat → Foot} {i : Nat} {rest : List Oper} {S M : List (Nat × PV)} {K : St → Prop} {d : Nat} {ty : TypeId} {pos : String} {after : Array Edge}

theorem X.build {t : TypeId} {parts : Array (Nat × Operand)} {z cs ps : List PV} {pl : List (Nat × Nat)} {R : List Nat} {C : List (Nat × Nat)} (hz : zeroPV P t = some z) (hpl : fldPlaces P t = some pl) (hps : evL S (parts.toList.map (·.2)) = some ps) (hp : curL M ps = some (R, C)) (hC : AllEq C)
    (hcs : buildK (fun i => pl[i]?) z ((parts.toList.map (·.1)).zip ps) = some cs) (hd : Nat.ble (d + 1) N = true) (hF : (F i).okB R [] = true) (h : SLx P N all F (i + 1) rest (St.of ((d, .agg cs) :: S) M) K) :
    SLx P N all F i (⟨some d, .build t parts, ty, pos, after, none⟩ :: rest) (St.of S M) K :=
  X.ofOp (v := .agg cs) (U := []) (R := R) (.build t parts z cs pl ps R hz hpl (by have := evL_spec (M := M) hps; rw [List.map_map] at this; exact this) (curL_spec (S := S) hp hC).1 (curL_spec (S := S) hp hC).2 (buildK_spec _ _ _ hcs)) hd hF h
/-- An array's parts. -/
theorem X.buildArr {t : TypeId} {parts : Array (Nat × Operand)} {z cs ps : List PV} {n sz : Nat} {R : List Nat} {C : List (Nat × Nat)} (hz : zeroPV P t = some z) (ha : arrOf P t = some (n, sz)) (hps : evL S (parts.toList.map (·.2)) = some ps) (hp : curL M ps = some (R, C)) (hC : AllEq C)
    (hcs : buildK (fun i => some (i * sz, sz)) z ((parts.toList.map (·.1)).zip ps) = some cs) (hd : Nat.ble (d + 1) N = true) (hF : (F i).okB R [] = true) (h : SLx P N all F (i + 1) rest (St.of ((d, .agg cs) :: S) M) K) :
    SLx P N all F i (⟨some d, .build t parts, ty, pos, after, none⟩ :: rest) (St.of S M) K :=
  X.ofOp (v := .agg cs) (U := []) (R := R) (.buildArr t parts z cs n sz ps R hz ha (by have := evL_spec (M := M) hps; rw [List.map_map] at this; exact this) (curL_spec (S := S) hp hC).1 (curL_spec (S := S) hp hC).2 (buildK_spec _ _ _ hcs)) hd hF h

theorem X.eqlAgg {t t' : TypeId} {x y : Operand} {ks : List Nat} {cs ds : List PV} {r : Bool} (hf : flatOf P t = some ks) (hx : evO S x = some (.agg cs)) (hy : evO S y = some (.agg ds)) (he : eqLits ks cs ds = some r) (hd : Nat.ble (d + 1) N = true) (h : SLx P N all F (i + 1) rest (St.of ((d, .lit (.bool r)) :: S) M) K) :
    SLx P N all F i (⟨some d, .binOp .eql t x y t', ty, pos, after, none⟩ :: rest) (St.of S M) K :=
  X.ofOp (U := []) (R := []) (.eqlAgg t t' x y ks cs ds r hf (evO_spec hx) (evO_spec hy) he) hd (okB_nil _) h
theorem X.neqAgg {t t' : TypeId} {x y : Operand} {ks : List Nat} {cs ds : List PV} {r : Bool} (hf : flatOf P t = some ks) (hx : evO S x = some (.agg cs)) (hy : evO S y = some (.agg ds)) (he : eqLits ks cs ds = some r) (hd : Nat.ble (d + 1) N = true) (h : SLx P N all F (i + 1) rest (St.of ((d, .lit (.bool (!r))) :: S) M) K) :
    SLx P N all F i (⟨some d, .binOp .neq t x y t', ty, pos, after, none⟩ :: rest) (St.of S M) K :=
  X.ofOp (U := []) (R := []) (.neqAgg t t' x y ks cs ds r hf (evO_spec hx) (evO_spec hy) he) hd (okB_nil _) h
theorem X.eqlNilS {t t' : TypeId} {x : Operand} {e sz by' : Nat} {p : PV} {l : List PV} {R : List Nat} (ht : eltOf P t = some (e, sz, by')) (hx : evO S x = some p) (hl : Lst (St.of S M).mem p l R) (h0 : l ≠ [] ∨ p = .nils) (hd : Nat.ble (d + 1) N = true) (hF : (F i).okB R [] = true) (h : SLx P N all F (i + 1) rest (St.of ((d, .lit (.bool l.isEmpty)) :: S) M) K) :
    SLx P N all F i (⟨some d, .binOp .eql t x (.const (.slice none 0 0)) t', ty, pos, after, none⟩ :: rest) (St.of S M) K :=
  X.ofOp (U := []) (R := R) (.eqlNilS t t' x e sz by' p l R ht (evO_spec hx) hl h0) hd hF h
theorem X.neqNilS {t t' : TypeId} {x : Operand} {e sz by' : Nat} {p : PV} {l : List PV} {R : List Nat} (ht : eltOf P t = some (e, sz, by')) (hx : evO S x = some p) (hl : Lst (St.of S M).mem p l R) (h0 : l ≠ [] ∨ p = .nils) (hd : Nat.ble (d + 1) N = true) (hF : (F i).okB R [] = true) (h : SLx P N all F (i + 1) rest (St.of ((d, .lit (.bool (!l.isEmpty))) :: S) M) K) :
    SLx P N all F i (⟨some d, .binOp .neq t x (.const (.slice none 0 0)) t', ty, pos, after, none⟩ :: rest) (St.of S M) K :=
  X.ofOp (U := []) (R := R) (.neqNilS t t' x e sz by' p l R ht (evO_spec hx) hl h0) hd hF h

/-- The bounds of a part. -/
def Bound (S : List (Nat × PV)) (o : Option Operand) (dflt i : Int) : Prop := match o with | some o => ∃ k, evO S o = some (.lit (.int k i)) | none => i = dflt
theorem X.sliceStr {t : TypeId} {x : Operand} {b : ByteArray} {lo hi : Option Operand} {a c : Int} (ht : P.underlying t = some .string) (hx : evO S x = some (.lit (.string b))) (hlo : Bound S lo 0 a) (hhi : Bound S hi b.size c) (h0 : 0 ≤ a ∧ a ≤ c ∧ c ≤ b.size) (hd : Nat.ble (d + 1) N = true) (h : SLx P N all F (i + 1) rest (St.of ((d, .lit (.string (b.extract a.toNat c.toNat))) :: S) M) K) :
    SLx P N all F i (⟨some d, .slice t x lo hi none, ty, pos, after, none⟩ :: rest) (St.of S M) K :=
  X.ofOp (U := []) (R := []) (.sliceStr t x b lo hi a c ht (evO_spec hx) (by cases lo with | none => exact hlo | some o => obtain ⟨k, hk⟩ := hlo; exact ⟨k, evO_spec hk⟩) (by cases hi with | none => exact hhi | some o => obtain ⟨k, hk⟩ := hhi; exact ⟨k, evO_spec hk⟩) h0.1 h0.2.1 h0.2.2) hd (okB_nil _) h
theorem X.sliceS {t : TypeId} {x : Operand} {l : List PV} {lo hi : Option Operand} {e sz by' : Nat} {a c : Int} (ht : eltOf P t = some (e, sz, by')) (hx : evO S x = some (.slice l)) (hsz : ∀ e ∈ l, e.cells.length = sz) (hlo : Bound S lo 0 a) (hhi : Bound S hi l.length c) (h0 : 0 ≤ a ∧ a ≤ c ∧ c ≤ l.length) (hd : Nat.ble (d + 1) N = true)
    (h : SLx P N all F (i + 1) rest (St.of ((d, .slice ((l.take c.toNat).drop a.toNat)) :: S) M) K) :
    SLx P N all F i (⟨some d, .slice t x lo hi none, ty, pos, after, none⟩ :: rest) (St.of S M) K :=
  X.ofOp (U := []) (R := []) (.sliceS t x l lo hi e sz by' a c ht hsz (evO_spec hx) (by cases lo with | none => exact hlo | some o => obtain ⟨k, hk⟩ := hlo; exact ⟨k, evO_spec hk⟩) (by cases hi with | none => exact hhi | some o => obtain ⟨k, hk⟩ := hhi; exact ⟨k, evO_spec hk⟩) h0.1 h0.2.1 h0.2.2) hd (okB_nil _) h
theorem X.sliceO {t : TypeId} {x : Operand} {n k : Nat} {l : List PV} {lo hi : Option Operand} {e sz by' : Nat} {a c : Int} (ht : eltOf P t = some (e, sz, by')) (hx : evO S x = some (.own n k)) (hm : look M n = some (.obj false e sz l)) (hk : k = l.length) (hlo : Bound S lo 0 a) (hhi : Bound S hi l.length c) (h0 : 0 ≤ a ∧ a ≤ c ∧ c ≤ l.length) (hd : Nat.ble (d + 1) N = true) (hF : (F i).okB [n] [] = true)
    (h : SLx P N all F (i + 1) rest (St.of ((d, .slice ((l.take c.toNat).drop a.toNat)) :: S) M) K) :
    SLx P N all F i (⟨some d, .slice t x lo hi none, ty, pos, after, none⟩ :: rest) (St.of S M) K :=
  X.ofOp (U := []) (R := [n]) (.sliceO t x n k l lo hi e sz by' a c ht (evO_spec hx) (look_mem hm) hk (by cases lo with | none => exact hlo | some o => obtain ⟨k, hk⟩ := hlo; exact ⟨k, evO_spec hk⟩) (by cases hi with | none => exact hhi | some o => obtain ⟨k, hk⟩ := hhi; exact ⟨k, evO_spec hk⟩) h0.1 h0.2.1 h0.2.2) hd hF h
end

section
variable {P : Program} {N : Nat} {Q : St → Prop} {k : List Item} {S M : List (Nat × PV)}
/-- The end: whatever results. -/
theorem R.fin {fn : Func} {r : PV} {ps ps' : List PV} {G : List Nat} (h1 : ResAt P (St.of S M) fn.results.toList ps) (h2 : ResL (St.of S M).mem ps ps' G) (hr : resOf ps' = r) : Run P N (Fin P fn r) (.code .ret :: k) (St.of S M) := Run.ret ⟨ps, ps', G, h1, h2, hr⟩
end
end Go.Px
namespace Go.Px
set_option linter.unusedSimpArgs false
set_option linter.unusedVariables false
open Go.RowKit
abbrev int (n : Int) : PV := .lit (.int .i64 n)
abbrev bool (b : Bool) : PV := .lit (.bool b)
abbrev str (b : ByteArray) : PV := .lit (.string b)
abbrev W (n : Int) : Int := IntKind.i64.wrap n
theorem idx_map {α : Type} (f : α → PV) {L : List α} {i : Nat} (h : i < L.length) : (L.map f)[((i : Nat) : Int).toNat]? = some (f L[i]) := by simp [h]
theorem idx_mapI {α : Type} (f : α → PV) {L : List α} {i : Int} (h0 : 0 ≤ i) (h : i < L.length) : (L.map f)[i.toNat]? = some (f (L[i.toNat]'(by omega))) := by
  rw [List.getElem?_map, List.getElem?_eq_getElem (by omega)]; rfl
theorem drop_cons {α : Type} {L : List α} {i : Nat} (h : i < L.length) : L.drop i = L[i] :: L.drop (i + 1) := List.drop_eq_getElem_cons h
theorem ba_eq_self (b : ByteArray) : (b == b) = true := by rw [beq_toListBytes]; simp
theorem ba_ne_self (b : ByteArray) : (b != b) = false := by rw [bne, ba_eq_self]; rfl
theorem loadK_at {n : Nat} {v : PV} : ∀ {off : Nat} {cs : List PV}, cs[off]? = some v → loadK false n off cs = some v
  | 0, c :: cs, h => by simpa [loadK, dropK] using h
  | 0, [], h => by simp at h
  | off + 1, c :: cs, h => loadK_at (n := n) (off := off) (cs := cs) (by simpa using h)
  | off + 1, [], h => by simp at h
end Go.Px
namespace Go.Px
set_option linter.unusedSimpArgs false
set_option linter.unusedVariables false
open Go.RowKit
theorem PC.lits {P : Program} {f : FuncId} (vals : List Value) (ho : ∀ v ∈ vals, v.oneCell' = true) (h : PC P f (vals.map .lit) (.lit (.bool true))) (w : World) :
    Calls P f vals.toArray w fun e w' => e = .returned (.bool true) ∧ Below w.heap.size w w' := by
  refine (h.2 w (fun _ _ => False) vals (fun _ _ h => h.elim) (by simp) (fun i p v hp hv => ?_)).mono ?_
  · rw [List.getElem?_map, hv] at hp
    cases hp
    exact .lit v (ho v (List.mem_of_getElem? hv))
  · rintro e w' ⟨v, rfl, hb, pub', gs, _, _, _, hr, _⟩
    cases hr with
    | pure _ _ h => cases h; exact ⟨rfl, hb⟩
end Go.Px
namespace Go.Px
set_option linter.unusedSimpArgs false
set_option linter.unusedVariables false
open Go.RowKit

inductive Ty where
  | int | bool | str
  | slice (e : Ty)
  | agg (fs : List Ty)

mutual
def Ty.size : Ty → Nat
  | .agg fs => Ty.sizes fs
  | _ => 1
def Ty.sizes : List Ty → Nat
  | [] => 0
  | f :: fs => f.size + Ty.sizes fs
end

mutual
/-- A type of the program has this form. -/
def Ty.ok (P : Program) : Ty → TypeId → Bool
  | .int, t => (match P.underlying t with | some (.int k) => k == .i64 | _ => false)
  | .bool, t => (match P.underlying t with | some .bool => true | _ => false)
  | .str, t => (match P.underlying t with | some .string => true | _ => false)
  | .slice e, t => (match P.underlying t with | some (.slice u) => Nat.beq (P.cellsOf u) e.size && Nat.ble 1 e.size && e.ok P u | _ => false)
  | .agg fs, t => (match P.underlying t with | some (.struct l) => Nat.beq (P.cellsOf t) (Ty.sizes fs) && Ty.oks P 0 fs l.toList | _ => false)
def Ty.oks (P : Program) : Nat → List Ty → List Field → Bool
  | _, [], [] => true
  | o, T :: Ts, f :: fs => Nat.beq f.offset o && Nat.beq (P.cellsOf f.type) T.size && T.ok P f.type && Ty.oks P (o + T.size) Ts fs
  | _, _, _ => false
end

mutual
/-- A pure value of this form. -/
def Val : Ty → PV → Prop
  | .int, p => ∃ n : Int, p = int n ∧ -9223372036854775808 ≤ n ∧ n ≤ 9223372036854775807
  | .bool, p => ∃ b, p = bool b
  | .str, p => ∃ s : ByteArray, p = str s ∧ s.size ≤ 9223372036854775807
  | .slice e, p => ∃ l, p = .slice l ∧ l.length ≤ 9223372036854775807 ∧ ∀ x ∈ l, Val e x
  | .agg fs, p => ∃ xs, p = .agg (flat xs) ∧ Vals fs xs
def Vals : List Ty → List PV → Prop
  | [], [] => True
  | T :: Ts, x :: xs => Val T x ∧ Vals Ts xs
  | _, _ => False
end

theorem list_choice {Q : Nat → PV → Prop} : ∀ n, (∀ i, i < n → ∃ p, Q i p) → ∃ l : List PV, l.length = n ∧ ∀ (i : Nat) p, l[i]? = some p → Q i p
  | 0, _ => ⟨[], rfl, by simp⟩
  | n + 1, h => by
    obtain ⟨l, h1, h2⟩ := list_choice n fun i hi => h i (by omega)
    obtain ⟨p, hp⟩ := h n (by omega)
    refine ⟨l ++ [p], by simp [h1], fun i q hq => ?_⟩
    by_cases hi : i < l.length
    · rw [List.getElem?_append_left hi] at hq; exact h2 i q hq
    · rw [List.getElem?_append_right (by omega)] at hq
      have : i - l.length = 0 := by
        have := (List.getElem?_eq_some_iff.1 hq).1
        simp at this; omega
      rw [this] at hq
      simp at hq; subst hq
      rw [show i = n by omega]; exact hp

section
variable {H : Type} {enc : TypeId × Value → H} {P : Program} {w : World} {spare : Nat → Bool} {held : Bool} {pub : Nat → Nat → Prop}

/-- What is read: a pure value, cell by cell. -/
def Got (pub : Nat → Nat → Prop) (w : World) (T : Ty) (cs : List Value) : Prop :=
  ∃ p, Val T p ∧ p.cells.length = T.size ∧ cs.length = T.size ∧ ∀ (j : Nat) c, p.cells[j]? = some c → ∃ v, cs[j]? = some v ∧ v.oneCell' = true ∧ Rep pub w c v

mutual
theorem got (hpub : ∀ b o, b < w.heap.size → pub b o) : ∀ (T : Ty) (fuel : Nat) (t : TypeId) (cs : List Value) (x : DataW H × List MemPlace), T.ok P t = true → DataW.trod enc P w 0 spare held fuel t cs = some x → Got pub w T cs
  | .int, fuel, t, cs, x, hT, h => by
    simp only [Ty.ok] at hT
    split at hT <;> try cases hT
    rename_i k hu
    have hk : k = .i64 := by simpa using hT
    subst hk
    obtain ⟨n, rfl, _, hw⟩ := DataW.trod_int hu h
    have hb : -9223372036854775808 ≤ n ∧ n ≤ 9223372036854775807 := by
      simp only [Lit.wf, Bool.and_eq_true, decide_eq_true_eq] at hw; exact ⟨hw.1, hw.2⟩
    exact ⟨int n, ⟨n, rfl, hb⟩, rfl, rfl, fun j c hj => by
      match j with
      | 0 => simp [PV.cells] at hj; subst hj; exact ⟨_, rfl, rfl, .lit _ rfl⟩
      | j + 1 => simp [PV.cells] at hj⟩
  | .bool, fuel, t, cs, x, hT, h => by
    simp only [Ty.ok] at hT
    split at hT <;> try cases hT
    rename_i hu
    obtain ⟨b, rfl, _⟩ := DataW.trod_bool hu h
    exact ⟨bool b, ⟨b, rfl⟩, rfl, rfl, fun j c hj => by
      match j with
      | 0 => simp [PV.cells] at hj; subst hj; exact ⟨_, rfl, rfl, .lit _ rfl⟩
      | j + 1 => simp [PV.cells] at hj⟩
  | .str, fuel, t, cs, x, hT, h => by
    simp only [Ty.ok] at hT
    split at hT <;> try cases hT
    rename_i hu
    obtain ⟨s, rfl, _, hs⟩ := DataW.trod_string hu h
    exact ⟨str s, ⟨s, rfl, hs⟩, rfl, rfl, fun j c hj => by
      match j with
      | 0 => simp [PV.cells] at hj; subst hj; exact ⟨_, rfl, rfl, .lit _ rfl⟩
      | j + 1 => simp [PV.cells] at hj⟩
  | .slice e, fuel, t, cs, x, hT, h => by
    simp only [Ty.ok] at hT
    split at hT <;> try cases hT
    rename_i u hu
    simp only [Bool.and_eq_true, Nat.beq_eq, Nat.ble_eq] at hT
    obtain ⟨⟨hc, h1⟩, he⟩ := hT
    have fin : ∀ l v, cs = [v] → v.oneCell' = true → l.length ≤ 9223372036854775807 → (∀ x ∈ l, Val e x) → Rep pub w (.slice l) v → Got pub w (.slice e) cs := by
      intro l v h1 h2 h3 h4 h5
      subst h1
      exact ⟨.slice l, ⟨l, rfl, h3, h4⟩, rfl, rfl, fun j c hj => by
        match j with
        | 0 => simp [PV.cells] at hj; subst hj; exact ⟨_, rfl, h2, h5⟩
        | j + 1 => simp [PV.cells] at hj⟩
    rcases DataW.trod_slice hu h with ⟨rfl, _⟩ | ⟨a, len, cap, elems, rest, n, rfl, rfl, _, hb, hl, hm, hlen, hel, _, _⟩
    · exact fin [] _ rfl rfl (by simp) (by simp) (.slice0 _ _)
    by_cases h0 : len = 0
    · subst h0
      exact fin [] _ rfl rfl (by simp) (by simp) (.slice0 _ _)
    have key : ∀ i, i < len → ∃ p, Val e p ∧ p.cells.length = e.size ∧ ∀ (j : Nat) c, p.cells[j]? = some c → ∃ v, w.cell? (a.add (i * e.size + j)) = some v ∧ v.oneCell' = true ∧ Rep pub w c v := by
      intro i hi
      have h2 := hel i hi
      rw [List.getElem?_eq_getElem (by omega), Option.bind_eq_some_iff] at h2
      obtain ⟨cs', h3, h4⟩ := h2
      obtain ⟨p, q1, q2, q3, q4⟩ := got hpub e n u cs' _ he h4
      refine ⟨p, q1, q2, fun j c hj => ?_⟩
      obtain ⟨v, r1, r2, r3⟩ := q4 j c hj
      refine ⟨v, ?_, r2, r3⟩
      have hj' : j < P.cellsOf u := by rw [hc, ← q2]; exact (List.getElem?_eq_some_iff.1 hj).1
      have := (World.cells?_some h3).2.2 j hj'
      rw [r1, hc] at this
      rw [← this]
      rw [Addr.add_add]
    obtain ⟨l, hll, hl2⟩ := list_choice len key
    have hspot : a.spot = none := by
      obtain ⟨p, _, q2, q3⟩ := key 0 (by omega)
      obtain ⟨c, hc'⟩ : ∃ c, p.cells[0]? = some c := by
        rw [List.getElem?_eq_getElem (by omega)]; exact ⟨_, rfl⟩
      obtain ⟨v, r1, _⟩ := q3 0 c hc'
      unfold World.cell? at r1
      cases hs : a.spot with
      | none => rfl
      | some s => simp [Addr.add, hs] at r1; split at r1 <;> cases r1
    obtain ⟨b, o, sp⟩ := a
    simp only at hspot
    subst hspot
    have hsz : ∀ x ∈ l, x.cells.length = e.size := fun x hx => by
      obtain ⟨i, hi, rfl⟩ := List.mem_iff_getElem.1 hx
      exact (hl2 i _ (List.getElem?_eq_getElem hi)).2.1
    refine fin l _ rfl rfl (by have : maxLen = 9223372036854775807 := rfl; omega) (fun x hx => ?_) ?_
    · obtain ⟨i, hi, rfl⟩ := List.mem_iff_getElem.1 hx
      exact (hl2 i _ (List.getElem?_eq_getElem hi)).1
    · have hcell : ∀ (k : Nat) c, (flat l)[k]? = some c → ∃ v, w.cell? ⟨b, o + k, none⟩ = some v ∧ v.oneCell' = true ∧ Rep pub w c v := by
        intro k c hk
        obtain ⟨i, el, j, g1, g2, rfl, g4⟩ := flat_at hsz hk
        obtain ⟨v, r1, r2, r3⟩ := (hl2 i el g1).2.2 j c g2
        exact ⟨v, by rw [Addr.add_lit] at r1; exact r1, r2, r3⟩
      rw [← hll]
      refine .slice b o cap e.size l (fun k => (w.cell? ⟨b, o + k, none⟩).getD undef) hsz (by omega) (by have : maxLen = 9223372036854775807 := rfl; omega) (fun k c hk => ?_) (fun k c hk => ?_)
      · obtain ⟨v, r1, r2, r3⟩ := hcell k c hk
        refine ⟨hpub _ _ ?_, by rw [r1]; rfl, by rw [r1]; exact r2⟩
        unfold World.cell? at r1
        rcases Nat.lt_or_ge b w.heap.size with hlt | hge
        · exact hlt
        · rw [Array.getElem?_eq_none hge] at r1; cases r1
      · obtain ⟨v, r1, r2, r3⟩ := hcell k c hk
        rw [r1]; exact r3
  | .agg fs, fuel, t, cs, x, hT, h => by
    simp only [Ty.ok] at hT
    split at hT <;> try cases hT
    rename_i l hu
    simp only [Bool.and_eq_true, Nat.beq_eq] at hT
    obtain ⟨hc, hf⟩ := hT
    obtain ⟨xs, n, _, _, hl, _, hx⟩ := DataW.trod_struct hu h
    rw [hc] at hl
    obtain ⟨ps, q1, q2, q3⟩ := gots hpub fs n 0 l.toList cs hf (fun i f hi => by
      have := hx i f (by simpa using hi)
      rename_i hlen
      exact ⟨xs[i]?.get (by
        rw [Option.isSome_iff_exists]
        have : i < l.size := by have := (List.getElem?_eq_some_iff.1 hi).1; simpa using this
        exact ⟨_, List.getElem?_eq_getElem (by omega)⟩), by rw [this]; simp⟩) (by omega)
    exact ⟨.agg (flat ps), ⟨ps, rfl, q1⟩, by simpa [PV.cells, Ty.size] using q2, by simpa [Ty.size] using hl, fun j c hj => by simpa using q3 j c hj⟩
theorem gots (hpub : ∀ b o, b < w.heap.size → pub b o) : ∀ (Ts : List Ty) (n o : Nat) (fs : List Field) (cs : List Value), Ty.oks P o Ts fs = true →
    (∀ (i : Nat) f, fs[i]? = some f → ∃ x, DataW.trod enc P w 0 spare held n f.type ((cs.drop f.offset).take (P.cellsOf f.type)) = some x) → o + Ty.sizes Ts ≤ cs.length →
    ∃ ps, Vals Ts ps ∧ (flat ps).length = Ty.sizes Ts ∧ ∀ (j : Nat) c, (flat ps)[j]? = some c → ∃ v, cs[o + j]? = some v ∧ v.oneCell' = true ∧ Rep pub w c v
  | [], n, o, [], cs, hf, hx, hl => ⟨[], trivial, rfl, by simp⟩
  | [], n, o, _ :: _, cs, hf, hx, hl => by simp [Ty.oks] at hf
  | _ :: _, n, o, [], cs, hf, hx, hl => by simp [Ty.oks] at hf
  | T :: Ts, n, o, f :: fs, cs, hf, hx, hl => by
    simp only [Ty.oks, Bool.and_eq_true, Nat.beq_eq] at hf
    obtain ⟨⟨⟨h1, h2⟩, h3⟩, h4⟩ := hf
    simp only [Ty.sizes] at hl
    obtain ⟨x, hx0⟩ := hx 0 f rfl
    obtain ⟨p, a1, a2, a3, a4⟩ := got hpub T n f.type _ x h3 hx0
    obtain ⟨ps, b1, b2, b3⟩ := gots hpub Ts n (o + T.size) fs cs h4 (fun i g hi => hx (i + 1) g (by simpa using hi)) (by omega)
    refine ⟨p :: ps, ⟨a1, b1⟩, by simp [Ty.sizes, a2, b2], fun j c hj => ?_⟩
    rw [flat_cons] at hj
    by_cases hlt : j < p.cells.length
    · rw [List.getElem?_append_left hlt] at hj
      obtain ⟨v, r1, r2, r3⟩ := a4 j c hj
      refine ⟨v, ?_, r2, r3⟩
      rw [List.getElem?_take, if_pos (by rw [h2, ← a2]; exact hlt), List.getElem?_drop, h1] at r1
      exact r1
    · rw [List.getElem?_append_right (by omega)] at hj
      obtain ⟨v, r1, r2, r3⟩ := b3 _ c hj
      refine ⟨v, ?_, r2, r3⟩
      rw [← r1]; congr 1; omega
end
end
end Go.Px
namespace Go.Px
set_option linter.unusedSimpArgs false
set_option linter.unusedVariables false
open Go.RowKit Go.WideShapes Go.ChangeShapes

section
variable {H : Type} {enc : TypeId × Value → H} {P : Program} {w : World} {pub : Nat → Nat → Prop}

theorem got_rep {T : Ty} {t : TypeId} {v : Value} {r : Reach} {base : Nat} (hT : T.ok P t = true) (hv : Value.okWide P w r base t v) (h : Got pub w T v.cells.toList) : ∃ p, Val T p ∧ Rep pub w p v := by
  obtain ⟨p, h1, h2, h3, h4⟩ := h
  have one : p.cells = [p] → v.cells.toList = [v] → ∃ p, Val T p ∧ Rep pub w p v := fun e1 e2 => by
    obtain ⟨u, q1, q2, q3⟩ := h4 0 p (by rw [e1]; rfl)
    rw [e2] at q1
    simp at q1; subst q1
    exact ⟨p, h1, q3⟩
  cases T with
  | int =>
    obtain ⟨n, rfl, _⟩ := h1
    simp only [Ty.ok] at hT
    split at hT <;> try cases hT
    rename_i k hu
    obtain ⟨m, rfl⟩ := okWide_int hu hv
    exact one rfl rfl
  | bool =>
    obtain ⟨n, rfl⟩ := h1
    simp only [Ty.ok] at hT
    split at hT <;> try cases hT
    rename_i hu
    obtain ⟨m, rfl⟩ := okWide_bool hu hv
    exact one rfl rfl
  | str =>
    obtain ⟨n, rfl, _⟩ := h1
    simp only [Ty.ok] at hT
    split at hT <;> try cases hT
    rename_i hu
    obtain ⟨m, rfl⟩ := okWide_string hu hv
    exact one rfl rfl
  | slice e =>
    obtain ⟨l, rfl, _⟩ := h1
    simp only [Ty.ok] at hT
    split at hT <;> try cases hT
    rename_i u hu
    obtain ⟨a, len, cap, rfl⟩ := okWide_slice hu hv
    exact one rfl rfl
  | agg fs =>
    obtain ⟨xs, rfl, hxs⟩ := h1
    simp only [Ty.ok] at hT
    split at hT <;> try cases hT
    rename_i l hu
    simp only [Value.okWide, hu] at hv
    obtain ⟨cs, rfl, hs, _⟩ := hv
    have hlen : (flat xs).length = cs.size := by
      have : (PV.agg (flat xs)).cells.length = (Value.agg cs).cells.toList.length := h2.trans h3.symm
      simpa [PV.cells, Value.cells] using this
    refine ⟨.agg (flat xs), ⟨xs, rfl, hxs⟩, .agg _ _ hlen.symm (fun j c hj => ?_) (fun j c hj => ?_)⟩
    all_goals
      obtain ⟨u, q1, q2, q3⟩ := h4 j c hj
      have q1' : cs[j]? = some u := by simpa [Value.cells] using q1
      have e : cs.getD j Go.undef = u := by rw [Array.getD_eq_getD_getElem?, q1']; rfl
      rw [e]
    · exact q2
    · exact q3

def okTs (P : Program) : List Ty → List TypeId → Bool
  | [], [] => true
  | T :: Ts, t :: ts => T.ok P t && P.readableRec t && Nat.blt t P.types.size && okTs P Ts ts
  | _, _ => false

theorem gotAll (hpub : ∀ b o, b < w.heap.size → pub b o) {r : Reach} {base : Nat} : ∀ (Ts : List Ty) (ts : List TypeId) (vs : List Value) (ds : List (DataW H)) (p : List MemPlace), okTs P Ts ts = true → DataW.TrodAll enc P w 0 (fun _ => true) true ts vs ds p →
    (∀ (j : Nat) t v, ts[j]? = some t → vs[j]? = some v → Value.okWide P w r base t v) → ∃ ps, Vals Ts ps ∧ vs.length = ps.length ∧ ∀ (i : Nat) p v, ps[i]? = some p → vs[i]? = some v → Rep pub w p v
  | [], [], [], _, p, hT, h, hv => ⟨[], trivial, rfl, by simp⟩
  | [], [], _ :: _, ds, p, hT, h, hv => by cases ds <;> simp [DataW.TrodAll] at h
  | [], _ :: _, _, _, _, hT, h, hv => by simp [okTs] at hT
  | _ :: _, [], _, _, _, hT, h, hv => by simp [okTs] at hT
  | _ :: _, _ :: _, [], ds, _, hT, h, hv => by cases ds <;> simp [DataW.TrodAll] at h
  | _ :: _, _ :: _, _ :: _, [], _, hT, h, hv => by simp [DataW.TrodAll] at h
  | T :: Ts, t :: ts, v :: vs, d :: ds, p, hT, h, hv => by
    simp only [okTs, Bool.and_eq_true] at hT
    obtain ⟨⟨⟨h1, h2⟩, h3⟩, h4⟩ := hT
    obtain ⟨p1, q1, ⟨fuel, a1⟩, a2, a3⟩ := h
    obtain ⟨pv, b1, b2⟩ := got_rep h1 (hv 0 t v rfl rfl) (got hpub T fuel t _ _ h1 a1)
    obtain ⟨ps, c1, c2, c3⟩ := gotAll hpub Ts ts vs ds q1 h4 a2 fun j t v hj hk => hv (j + 1) t v (by simpa using hj) (by simpa using hk)
    refine ⟨pv :: ps, ⟨b1, c1⟩, by simp [c2], fun i p v hi hk => ?_⟩
    match i with
    | 0 => simp at hi hk; subst hi; subst hk; exact b2
    | i + 1 => exact c3 i p v (by simpa using hi) (by simpa using hk)

theorem stillAll (hl : laidOutB P = true) {W W' : World} (hb : Below W.heap.size W W') : ∀ (Ts : List Ty) (ts : List TypeId) (vs : List Value) (ds : List (DataW H)) (p : List MemPlace), okTs P Ts ts = true → DataW.TrodAll enc P W 0 (fun _ => true) true ts vs ds p →
    DataW.TrodAll enc P W' 0 (fun b => decide (b < W.heap.size)) true ts vs ds p
  | [], [], [], ds, p, hT, h => by cases ds <;> simp_all [DataW.TrodAll]
  | [], [], _ :: _, ds, p, hT, h => by cases ds <;> simp [DataW.TrodAll] at h
  | [], _ :: _, _, _, _, hT, h => by simp [okTs] at hT
  | _ :: _, [], _, _, _, hT, h => by simp [okTs] at hT
  | _ :: _, _ :: _, [], ds, _, hT, h => by cases ds <;> simp [DataW.TrodAll] at h
  | _ :: _, _ :: _, _ :: _, [], _, hT, h => by simp [DataW.TrodAll] at h
  | T :: Ts, t :: ts, v :: vs, d :: ds, p, hT, h => by
    simp only [okTs, Bool.and_eq_true] at hT
    obtain ⟨⟨⟨h1, h2⟩, h3⟩, h4⟩ := hT
    obtain ⟨p1, q1, a1, a2, a3⟩ := h
    have hlt : ∀ x ∈ p1, x.block < W.heap.size := by obtain ⟨m, hm⟩ := a1; exact DataW.trod_lt m _ _ _ hm
    exact ⟨p1, q1, Below.trod hl h2 (by simpa using h3) a1 hb hlt, stillAll hl hb Ts ts vs ds q1 h4 a2, a3⟩

theorem PC.row (hl : laidOutB P = true) {f : FuncId} (Ts : List Ty) (hc : ∀ ps, Vals Ts ps → PC P f ps (bool true)) {ts : List TypeId} (hT : okTs P Ts ts = true) {r : Reach} {base : Nat} {W : World} {args : Array Value} {ds : List (DataW H)} {p : List MemPlace}
    (hA : DataW.TrodAll enc P W 0 (fun _ => true) true ts args.toList ds p) (hv : ∀ (j : Nat) t v, ts[j]? = some t → args[j]? = some v → Value.okWide P W r base t v) :
    Calls P f args W fun e W' => e = .returned (.bool true) ∧ Below W.heap.size W W' ∧ DataW.TrodAll enc P W' 0 (fun b => decide (b < W.heap.size)) true ts args.toList ds p := by
  obtain ⟨ps, h1, h2, h3⟩ := gotAll (pub := fun b _ => b < W.heap.size) (fun _ _ h => h) Ts ts args.toList ds p hT hA fun j t v hj hk => hv j t v hj (by simpa using hk)
  have := (hc ps h1).2 W (fun b _ => b < W.heap.size) args.toList (fun _ _ h => h) h2 h3
  rw [show args.toList.toArray = args from by simp] at this
  refine this.mono ?_
  rintro e w' ⟨v, rfl, hb, pub', gs, _, _, _, hr, _⟩
  cases hr with
  | pure _ _ h => cases h; exact ⟨rfl, hb, stillAll hl hb Ts ts args.toList ds p hT hA⟩
end
end Go.Px
namespace Go.Px
set_option linter.unusedSimpArgs false
set_option linter.unusedVariables false
open Go.RowKit
def fillL {α : Type} (f : α → PV) (z : PV) (L : List α) (i : Nat) : List PV := (L.take i).map f ++ List.replicate (L.length - i) z
theorem fillL_zero {α : Type} (f : α → PV) (z : PV) (L : List α) : List.replicate L.length z = fillL f z L 0 := by simp [fillL]
theorem fillL_length {α : Type} {f : α → PV} {z : PV} {L : List α} {i : Nat} {l : List PV} (h : l = fillL f z L i) (hi : i ≤ L.length) : l.length = L.length := by subst h; simp [fillL]; omega
theorem fillL_at {α : Type} {f : α → PV} {z : PV} {L : List α} {i : Nat} {l : List PV} (h : l = fillL f z L i) (hi : i < L.length) : l[i]? = some z := by
  subst h
  unfold fillL
  have e1 : ((L.take i).map f).length = i := by simp; omega
  rw [List.getElem?_append_right (by omega), e1, Nat.sub_self, List.getElem?_replicate, if_pos (by omega)]
theorem fillL_set {α : Type} {f : α → PV} {z : PV} {L : List α} {i : Nat} {l : List PV} (h : l = fillL f z L i) (hi : i < L.length) : l.set i (f L[i]) = fillL f z L (i + 1) := by
  subst h
  unfold fillL
  have e1 : ((L.take i).map f).length = i := by simp; omega
  rw [List.set_append_right _ _ (by omega), e1, Nat.sub_self, show L.length - i = (L.length - (i + 1)) + 1 by omega, List.replicate_succ, List.set_cons_zero, show (L.take (i + 1)).map f = (L.take i).map f ++ [f L[i]] from by rw [List.take_add_one, List.getElem?_eq_getElem hi, List.map_append]; rfl]
  simp
theorem fillL_end {α : Type} {f : α → PV} {z : PV} {L : List α} {i : Nat} {l : List PV} (h : l = fillL f z L i) (hi : L.length ≤ i) : l = L.map f := by
  subst h
  simp [fillL, List.take_of_length_le hi, Nat.sub_eq_zero_of_le hi]
end Go.Px
namespace Go.Px
set_option linter.unusedSimpArgs false
set_option linter.unusedVariables false
open Go.RowKit
section
variable {P : Program} {N : Nat} {Q : St → Prop} {k : List Item} {S M : List (Nat × PV)}
theorem R.pubObj {n e sz : Nat} {l : List PV} (hm : look M n = some (.obj true e sz l)) (h : Run P N Q k (St.of S ((n, .obj false e sz l) :: M))) : Run P N Q k (St.of S M) := by
  refine Run.weak (s' := St.of S ((n, .obj false e sz l) :: M)) ?_ h
  intro w0 pub0 a w ⟨pub, V, c1, c2, hrel⟩
  have hmn := hrel.mem n
  rw [look_mem hm] at hmn
  have hge : ∀ b, blockOf (V n) = some b → b < w.heap.size ∧ w0.heap.size ≤ b := fun b hb => And.symm ((hrel.mem n).block_ge (by rw [look_mem hm]; intro e; cases e) hb)
  cases hmn with
  | obj _ _ _ _ xs hsz hmx hl how hpp hq hc =>
    have ht := hrel.touch (pub' := fun b o => pub b o ∨ ((V n).ownBlock = some b ∧ o < l.length * sz)) (w' := w) n (by rw [look_mem hm]; intro e; cases e) (V n) (.obj false e sz l) (fun e => by cases e) (Nat.le_refl _) rfl rfl rfl (fun _ _ _ => rfl) (fun b o h => .inl h)
      (fun b o ho => ho.imp id fun h => ownBlock_blockOf h.1) (fun b hb => (hge b hb).1) (fun _ _ _ => rfl) (.inl rfl) (fun q u hq => by exact refs_obj (look_mem hm) (Nat.le_refl _) (fun _ => rfl) hq)
      (fun t => .obj false e sz l xs hsz hmx hl how (fun g o hg ho => ⟨rfl, by
          rcases ho with ho | ho
          · exact (hpp g o hg ho).2
          · exact ho.2⟩) (fun _ g o hg ho => .inr ⟨hg, ho⟩) (fun i c hi => ⟨(hc i c hi).1, t.rep (hc i c hi).2⟩))
    rw [updV_self] at ht
    have e : ({ (St.of S M) with mem := upd (St.of S M).mem n (.obj false e sz l) } : St) = St.of S ((n, .obj false e sz l) :: M) := by
      have := mem_of S M n (.obj false e sz l)
      simp only [upds] at this
      rw [this]; rfl
    rw [e] at ht
    exact ⟨_, V, fun b o ho => .inl (c1 b o ho), fun b o ho => ho.elim (c2 b o) (fun h => .inr (hge b (ownBlock_blockOf h.1)).2), ht⟩
end
end Go.Px
namespace Go.Px
set_option linter.unusedSimpArgs false
set_option linter.unusedVariables false
open Go.RowKit

/-- A result's parts are taken into the caller's state. -/
def recvF : Nat → List PV → Option (List PV × List (Nat × PV) × Nat)
  | n, [] => some ([], [], n)
  | n, .fresh x e sz l :: ps => match recvF (n + 1) ps with
    | some (ps', U, n') => some (.own n l.length :: ps', (n, .obj x e sz l) :: U, n')
    | none => none
  | n, p :: ps => bif p.plain then (match recvF n ps with
    | some (ps', U, n') => some (p :: ps', U, n')
    | none => none) else none
theorem recvF_spec : ∀ (ps : List PV) (n : Nat) (ps' : List PV) (U : List (Nat × PV)) (n' : Nat), recvF n ps = some (ps', U, n') → RecvL n ps ps' U n'
  | [], n, ps', U, n', h => by
    simp only [recvF, Option.some.injEq, Prod.mk.injEq] at h
    obtain ⟨rfl, rfl, rfl⟩ := h
    exact .nil n
  | p :: ps, n, ps', U, n', h => by
    unfold recvF at h
    split at h
    · rename_i heq; cases heq
    · rename_i x e sz l qs heq
      cases heq
      split at h <;> cases h
      rename_i h1
      exact .fresh _ _ _ _ _ _ _ _ _ (recvF_spec ps _ _ _ _ h1)
    · rename_i q qs hne heq
      cases heq
      cases hp : p.plain with
      | false => rw [hp] at h; cases h
      | true =>
        rw [hp] at h
        simp only [cond_true] at h
        split at h <;> cases h
        rename_i h1
        exact .plain _ _ _ _ _ _ hp (recvF_spec ps _ _ _ _ h1)
def noneIn (M : List (Nat × PV)) : List (Nat × PV) → Bool
  | [] => true
  | (n, _) :: U => (look M n).isNone && noneIn M U
theorem noneIn_spec {M : List (Nat × PV)} : ∀ {U : List (Nat × PV)}, noneIn M U = true → ∀ q ∈ U, look M q.1 = none
  | [], _, q, hq => by cases hq
  | (n, p) :: U, h, q, hq => by
    simp only [noneIn, Bool.and_eq_true, Option.isNone_iff_eq_none] at h
    rcases List.mem_cons.1 hq with rfl | hq
    · exact h.1
    · exact noneIn_spec h.2 q hq

section
variable {P : Program} {N : Nat} {all : Array Oper} {F : Nat → Foot} {i : Nat} {rest : List Oper} {S M : List (Nat × PV)} {K : St → Prop} {d : Nat} {ty : TypeId} {pos : String} {after : Array Edge}
/-- A call whose result is a struct. -/
theorem X.callA {fo : Operand} {args : Array Operand} {ats : Array TypeId} {f : FuncId} {caps ps ps' ps2 cs cs' : List PV} {R : List Nat} {C : List (Nat × Nat)} {U M' : List (Nat × PV)} {n' : Nat} (hc : PC P f ps2 (.agg cs)) (hf : evO S fo = some (.fn f caps)) (hps : evL S args.toList = some ps) (hp : purL M ps = some (ps', R, C))
    (hC : AllEq C) (ha : ps' ++ caps = ps2) (hr : recvF (64 * d) cs = some (cs', U, n')) (hM : U.reverse ++ M = M') (hU : noneIn M U = true) (hd : Nat.ble (d + 1) N = true) (hF : (F i).okB R (U.map (·.1)) = true) (h : SLx P N all F (i + 1) rest (St.of ((d, .agg cs') :: S) M') K) :
    SLx P N all F i (⟨some d, .call { callee := .value fo, args := args, argTypes := ats }, ty, pos, after, none⟩ :: rest) (St.of S M) K := by
  subst hM
  have := RecvL.agg (64 * d) cs cs' [] [] U [] n' n' (recvF_spec _ _ _ _ _ hr) (.nil n')
  rw [List.append_nil] at this
  exact X.call hf hps hp hC ha hc this (noneIn_spec hU) hd hF h
/-- A call with several results. -/
theorem X.callT {fo : Operand} {args : Array Operand} {ats : Array TypeId} {f : FuncId} {caps ps ps' ps2 cs cs' : List PV} {R : List Nat} {C : List (Nat × Nat)} {U M' : List (Nat × PV)} {n' : Nat} (hc : PC P f ps2 (.tuple cs)) (hf : evO S fo = some (.fn f caps)) (hps : evL S args.toList = some ps) (hp : purL M ps = some (ps', R, C))
    (hC : AllEq C) (ha : ps' ++ caps = ps2) (hr : recvF (64 * d) cs = some (cs', U, n')) (hM : U.reverse ++ M = M') (hU : noneIn M U = true) (hd : Nat.ble (d + 1) N = true) (hF : (F i).okB R (U.map (·.1)) = true) (h : SLx P N all F (i + 1) rest (St.of ((d, .tuple cs') :: S) M') K) :
    SLx P N all F i (⟨some d, .call { callee := .value fo, args := args, argTypes := ats }, ty, pos, after, none⟩ :: rest) (St.of S M) K := by
  subst hM
  have := RecvL.tuple (64 * d) cs cs' [] [] U [] n' n' (recvF_spec _ _ _ _ _ hr) (.nil n')
  rw [List.append_nil] at this
  exact X.call hf hps hp hC ha hc this (noneIn_spec hU) hd hF h
end
end Go.Px
namespace Go.Px
set_option linter.unusedSimpArgs false
set_option linter.unusedVariables false
open Go.RowKit

/-- The parts of a result, as the caller sees them: own slices are handed over (their names: the second list; lengths that must agree: the third). -/
def handF (M : List (Nat × PV)) : List PV → Option (List PV × List Nat × List (Nat × Nat))
  | [] => some ([], [], [])
  | .own n k :: ps => match look M n with
    | some (.obj x e sz l) => match handF M ps with
      | some (ps', G, C) => bif memB n G then none else some (.fresh x e sz l :: ps', n :: G, (k, l.length) :: C)
      | none => none
    | _ => none
  | p :: ps => bif p.plain then (match handF M ps with
    | some (ps', G, C) => some (p :: ps', G, C)
    | none => none) else none
theorem memB_not {n : Nat} : ∀ {G : List Nat}, memB n G = false → n ∉ G
  | [], _, h => by cases h
  | m :: G, h, hn => by
    simp only [memB] at h
    rcases List.mem_cons.1 hn with rfl | hn
    · simp at h
    · cases hm : Nat.beq n m <;> simp_all [memB_not]
theorem handF_spec {S M : List (Nat × PV)} : ∀ (ps ps' : List PV) (G : List Nat) (C : List (Nat × Nat)), handF M ps = some (ps', G, C) → AllEq C → ResL (St.of S M).mem ps ps' G
  | [], ps', G, C, h, hC => by
    simp only [handF, Option.some.injEq, Prod.mk.injEq] at h
    obtain ⟨rfl, rfl, rfl⟩ := h
    exact .nil
  | p :: ps, ps', G, C, h, hC => by
    unfold handF at h
    split at h
    · rename_i heq; cases heq
    · rename_i n k qs heq
      cases heq
      split at h <;> try cases h
      rename_i x e sz l hm
      split at h <;> try cases h
      rename_i ps1 G1 C1 h1
      cases hb : memB n G1 with
      | true => rw [hb] at h; cases h
      | false =>
        rw [hb] at h
        cases h
        exact .own n k x e sz l _ _ _ (look_mem hm) hC.1 (memB_not hb) (handF_spec _ _ _ _ h1 hC.2)
    · rename_i q qs hne heq
      cases heq
      cases hp : p.plain with
      | false => rw [hp] at h; cases h
      | true =>
        rw [hp] at h
        simp only [cond_true] at h
        split at h <;> cases h
        rename_i h1
        exact .plain _ _ _ _ hp (handF_spec _ _ _ _ h1 hC)

section
variable {P : Program} {N : Nat} {Q : St → Prop} {k : List Item} {S M : List (Nat × PV)}
/-- The end: a struct in a variable of the call's own. -/
theorem R.finC {fn : Func} {t n off ty sz : Nat} {y : Bool} {cs cs1 cs2 : List PV} {G : List Nat} {C : List (Nat × Nat)} {r : PV} (hres : fn.results = #[.cell t ty]) (ht : shp P ty = some (true, sz)) (hv : look S t = some (.lptr n off)) (hm : look M n = some (.blk y cs)) (hl : loadK true sz off cs = some (.agg cs1))
    (hh : handF M cs1 = some (cs2, G, C)) (hC : AllEq C) (hr : .agg cs2 = r) : Run P N (Fin P fn r) (.code .ret :: k) (St.of S M) := by
  refine Run.ret ⟨[.agg cs1], [.agg cs2], G ++ [], by rw [hres]; exact .cell t ty true sz n off y cs _ [] [] ht (.inl rfl) (look_slot hv) (look_mem hm) (loadK_spec hl) .nil, .agg cs1 cs2 [] [] G [] (handF_spec _ _ _ _ hh hC) (by simp) .nil, hr⟩
/-- The end: a struct in a slot. -/
theorem R.finA {fn : Func} {t : Nat} {cs1 cs2 : List PV} {G : List Nat} {C : List (Nat × Nat)} {r : PV} (hres : fn.results = #[.tmp t]) (hv : look S t = some (.agg cs1))
    (hh : handF M cs1 = some (cs2, G, C)) (hC : AllEq C) (hr : .agg cs2 = r) : Run P N (Fin P fn r) (.code .ret :: k) (St.of S M) := by
  refine Run.ret ⟨[.agg cs1], [.agg cs2], G ++ [], by rw [hres]; exact .tmp t _ [] [] (look_slot hv) .nil, .agg cs1 cs2 [] [] G [] (handF_spec _ _ _ _ hh hC) (by simp) .nil, hr⟩
/-- The end: two results in slots. -/
theorem R.fin2 {fn : Func} {t u : Nat} {p q : PV} {cs2 : List PV} {G : List Nat} {C : List (Nat × Nat)} {r : PV} (hres : fn.results = #[.tmp t, .tmp u]) (hv : look S t = some p) (hu : look S u = some q) (hh : handF M [p, q] = some (cs2, G, C)) (hC : AllEq C) (hr : resOf cs2 = r) : Run P N (Fin P fn r) (.code .ret :: k) (St.of S M) :=
  Run.ret ⟨[p, q], cs2, G, by rw [hres]; exact .tmp t _ _ _ (look_slot hv) (.tmp u _ [] [] (look_slot hu) .nil), handF_spec _ _ _ _ hh hC, hr⟩
end
end Go.Px
namespace Go.Px
set_option linter.unusedSimpArgs false
set_option linter.unusedVariables false
open Go.RowKit

/-! ### Optional values -/
theorem bindE {α β : Type} {x : Option α} {K : α → Option β} {r : β} (h : x.bind K = some r) : ∃ v, x = some v ∧ K v = some r := by
  cases x with
  | none => cases h
  | some v => exact ⟨v, rfl, h⟩
theorem condT {α : Type} {c : Bool} {x y : Option α} {r : α} (hc : c = true) (h : (bif c then x else y) = some r) : x = some r := by subst hc; exact h
theorem condF {α : Type} {c : Bool} {x y : Option α} {r : α} (hc : c = false) (h : (bif c then x else y) = some r) : y = some r := by subst hc; exact h

/-- An element of a list, by a number of Go. -/
def idxL {α : Type} (l : List α) (i : Int) : Option α := if 0 ≤ i then l[i.toNat]? else none
theorem idxL_spec {α : Type} {l : List α} {i : Int} {v : α} (h : idxL l i = some v) : 0 ≤ i ∧ l[i.toNat]? = some v := by
  unfold idxL at h
  split at h
  · exact ⟨by assumption, h⟩
  · cases h
theorem idxL_map {α : Type} (f : α → PV) {l : List α} {i : Int} {v : α} (h : idxL l i = some v) : (l.map f)[i.toNat]? = some (f v) := by
  rw [List.getElem?_map, (idxL_spec h).2]; rfl
theorem idxL_lt {α : Type} {l : List α} {i : Int} {v : α} (h : idxL l i = some v) : i.toNat < l.length := (List.getElem?_eq_some_iff.1 (idxL_spec h).2).1
theorem idxL_ofNat {α : Type} {l : List α} {i : Nat} {v : α} (h : l[i]? = some v) : idxL l (i : Int) = some v := by simpa [idxL] using h
def idxS (b : ByteArray) (i : Int) : Option Int := if 0 ≤ i then (b[i.toNat]?).map (fun u => (u.toNat : Int)) else none
theorem idxS_spec {b : ByteArray} {i : Int} {v : Int} (h : idxS b i = some v) : 0 ≤ i ∧ ∃ u : UInt8, b[i.toNat]? = some u ∧ v = u.toNat := by
  unfold idxS at h
  split at h
  · obtain ⟨u, h1, h2⟩ := Option.map_eq_some_iff.1 h
    exact ⟨by assumption, u, h1, h2.symm⟩
  · cases h
/-- Lists put together, within the model's bound. -/
def appL {α : Type} (a b : List α) : Option (List α) := if a.length + b.length ≤ 1099511627776 then some (a ++ b) else none
theorem appL_spec {α : Type} {a b c : List α} (h : appL a b = some c) : a.length + b.length ≤ 1099511627776 ∧ c = a ++ b := by
  unfold appL at h
  split at h
  · exact ⟨by assumption, (Option.some.inj h).symm⟩
  · cases h
theorem appL_map {α : Type} (f : α → PV) {a b c : List α} (h : appL a b = some c) : a.map f ++ b.map f = c.map f := by rw [(appL_spec h).2, List.map_append]
theorem appL_len {α : Type} (f : α → PV) {a b c : List α} (h : appL a b = some c) : (a.map f).length + (b.map f).length ≤ 1099511627776 := by simpa using (appL_spec h).1
theorem appL_len0 {α : Type} (f : α → PV) {a c : List α} (h : appL [] a = some c) : (a.map f).length ≤ 1099511627776 := by simpa using (appL_spec h).1
theorem appL_nil {α : Type} (f : α → PV) {a c : List α} (h : appL [] a = some c) : a.map f = c.map f := by rw [(appL_spec h).2]; rfl
def catS (a b : ByteArray) : Option ByteArray := if a.size + b.size ≤ 9223372036854775807 then some (a ++ b) else none
theorem catS_spec {a b c : ByteArray} (h : catS a b = some c) : a.size + b.size ≤ 9223372036854775807 ∧ c = a ++ b := by
  unfold catS at h
  split at h
  · exact ⟨by assumption, (Option.some.inj h).symm⟩
  · cases h
/-- A part of a list. -/
def subL {α : Type} (l : List α) (lo hi : Int) : Option (List α) := if 0 ≤ lo ∧ lo ≤ hi ∧ hi ≤ l.length then some ((l.take hi.toNat).drop lo.toNat) else none
theorem subL_spec {α : Type} {l r : List α} {lo hi : Int} (h : subL l lo hi = some r) : (0 ≤ lo ∧ lo ≤ hi ∧ hi ≤ l.length) ∧ r = (l.take hi.toNat).drop lo.toNat := by
  unfold subL at h
  split at h
  · exact ⟨by assumption, (Option.some.inj h).symm⟩
  · cases h
theorem subL_map {α : Type} (f : α → PV) {l r : List α} {lo hi : Int} (h : subL l lo hi = some r) : ((l.map f).take hi.toNat).drop lo.toNat = r.map f := by rw [(subL_spec h).2, List.map_drop, List.map_take]
theorem subL_le {α : Type} (f : α → PV) {l r : List α} {lo hi : Int} (h : subL l lo hi = some r) : 0 ≤ lo ∧ lo ≤ hi ∧ hi ≤ (l.map f).length := by simpa using (subL_spec h).1
def subS (b : ByteArray) (lo hi : Int) : Option ByteArray := if 0 ≤ lo ∧ lo ≤ hi ∧ hi ≤ b.size then some (b.extract lo.toNat hi.toNat) else none
theorem subS_spec {b r : ByteArray} {lo hi : Int} (h : subS b lo hi = some r) : (0 ≤ lo ∧ lo ≤ hi ∧ hi ≤ b.size) ∧ r = b.extract lo.toNat hi.toNat := by
  unfold subS at h
  split at h
  · exact ⟨by assumption, (Option.some.inj h).symm⟩
  · cases h
/-- A new list of a number of zero values. -/
def makeL {α : Type} (z : α) (n : Int) : Option (List α) := if 0 ≤ n ∧ n ≤ 1099511627776 then some (List.replicate n.toNat z) else none
theorem makeL_spec {α : Type} {z : α} {n : Int} {r : List α} (h : makeL z n = some r) : n = (n.toNat : Int) ∧ n.toNat ≤ 1099511627776 ∧ r = List.replicate n.toNat z := by
  unfold makeL at h
  split at h
  · exact ⟨by omega, by omega, (Option.some.inj h).symm⟩
  · cases h
def setL {α : Type} (l : List α) (i : Int) (v : α) : List α := l.set i.toNat v
theorem setL_map {α : Type} (f : α → PV) (l : List α) (i : Int) (v : α) : (l.map f).set i.toNat (f v) = (setL l i v).map f := by unfold setL; rw [List.map_set]
theorem setL_len {α : Type} (f : α → PV) (l : List α) (i : Int) (v : α) : (l.map f).length = ((setL l i v).map f).length := by simp [setL]
/-- The bound of loops that no list bounds. -/
def F0 : Nat := 18446744073709551616
theorem drop_at {α : Type} {l : List α} {i : Nat} (h : i < l.length) : ∃ x xs, l.drop i = x :: xs ∧ l[i]? = some x ∧ l.drop (i + 1) = xs :=
  ⟨l[i], l.drop (i + 1), List.drop_eq_getElem_cons h, List.getElem?_eq_getElem h, rfl⟩
theorem drop_end {α : Type} {l : List α} {i : Nat} (h : ¬ i < l.length) : l.drop i = [] := List.drop_eq_nil_of_le (by omega)
theorem lt_of_dec {i n : Nat} (h : decide ((i : Int) < (n : Int)) = true) : i < n := by have := of_decide_eq_true h; omega
theorem not_lt_of_dec {i n : Nat} (h : decide ((i : Int) < (n : Int)) = false) : ¬ i < n := by have := of_decide_eq_false h; omega
theorem nat_at {α : Type} (f : α → PV) {l : List α} {i : Nat} {x : α} (h : l[i]? = some x) : (l.map f)[((i : Nat) : Int).toNat]? = some (f x) := by simp [h]
theorem cells_map {α : Type} {f : α → PV} {sz : Nat} (h : ∀ x, (f x).cells.length = sz) {l : List α} : ∀ e ∈ l.map f, e.cells.length = sz := by
  intro e he; obtain ⟨x, _, rfl⟩ := List.mem_map.1 he; exact h x

section
variable {P : Program} {N : Nat} {Q : St → Prop} {k : List Item} {S M : List (Nat × PV)}

/-! ### Lengths are within Go's numbers -/
theorem RV.slice_len {pub : Nat → Nat → Prop} {w : World} {V : Nat → Value} {m : Nat → PV} {l : List PV} {v : Value} (h : RV pub w V m (.slice l) v) : l.length ≤ 9223372036854775807 := by
  have h := h.slice_inv
  cases h with
  | slice0 => simp
  | slice b o cap sz _ W hsz hcap hmx hd hc => exact hmx
theorem R.bndS {t : Nat} {l : List PV} (hs : look S t = some (.slice l)) (h : l.length ≤ 9223372036854775807 → Run P N Q k (St.of S M)) : Run P N Q k (St.of S M) := fun w0 pub0 a w hR => by
  have hR' := hR
  obtain ⟨pub, V, c1, c2, hrel⟩ := hR'
  have h1 := hrel.slots t
  rw [look_slot hs] at h1
  exact h h1.slice_len w0 pub0 a w hR
theorem R.bndC {n j : Nat} {x : Bool} {cs : List PV} {l : List PV} (hs : look M n = some (.blk x cs)) (hj : cs[j]? = some (.slice l)) (h : l.length ≤ 9223372036854775807 → Run P N Q k (St.of S M)) : Run P N Q k (St.of S M) := fun w0 pub0 a w hR => by
  have hR' := hR
  obtain ⟨pub, V, c1, c2, hrel⟩ := hR'
  have h1 := hrel.mem n
  rw [look_mem hs] at h1
  cases h1 with
  | blk _ _ g arr T hv hB hg hs' hp hq hc hr => exact h (hc j _ hj).2.slice_len w0 pub0 a w hR
theorem R.bndO {n e sz : Nat} {x : Bool} {l : List PV} (hs : look M n = some (.obj x e sz l)) (h : l.length ≤ 9223372036854775807 → Run P N Q k (St.of S M)) : Run P N Q k (St.of S M) := fun w0 pub0 a w hR => by
  have hR' := hR
  obtain ⟨pub, V, c1, c2, hrel⟩ := hR'
  have h1 := hrel.mem n
  rw [look_mem hs] at h1
  cases h1 with
  | obj _ _ _ _ xs hsz hmx hl how hp hq hc => exact h hmx w0 pub0 a w hR

/-! ### Casts -/
/-- One value said otherwise. -/
def Cast (M : List (Nat × PV)) (p q : PV) : Prop :=
  p = q ∨ (p = .nils ∧ q = .slice []) ∨ ∃ n k e sz l, p = .own n k ∧ look M n = some (.obj false e sz l) ∧ k = l.length ∧ q = .slice l
theorem Cast.rv {p q : PV} (h : Cast M p q) {w0 : World} {pub : Nat → Nat → Prop} {V : Nat → Value} {a : Act} {w : World} (hrel : Rel0 N w0 pub V (St.of S M) a w) {v : Value} (hv : RV pub w V (St.of S M).mem p v) : RV pub w V (St.of S M).mem q v := by
  rcases h with rfl | ⟨rfl, rfl⟩ | ⟨n, k, e, sz, l, rfl, hm, hk, rfl⟩
  · exact hv
  · rw [hv.nils_inv]; exact .pure (.slice0 none 0)
  · obtain ⟨x', e', sz', l', hm', _, hv'⟩ := hv.own_inv
    rw [look_mem hm] at hm'; cases hm'
    rw [hv' hk]
    exact .pure (Rep.slice_own (by have := hrel.mem n; rwa [look_mem hm] at this))
inductive Casts (M : List (Nat × PV)) : List PV → List PV → Prop where
  | nil : Casts M [] []
  | cons {p q : PV} {ps qs : List PV} (h : Cast M p q) (hs : Casts M ps qs) : Casts M (p :: ps) (q :: qs)
theorem Casts.at {ps qs : List PV} (h : Casts M ps qs) : ps.length = qs.length ∧ ∀ (j : Nat) q, qs[j]? = some q → ∃ p, ps[j]? = some p ∧ Cast M p q := by
  induction h with
  | nil => exact ⟨rfl, fun j q h => by simp at h⟩
  | cons h hs ih =>
    refine ⟨by simp [ih.1], fun j q hj => ?_⟩
    cases j with
    | zero => simp at hj; subst hj; exact ⟨_, rfl, h⟩
    | succ j => simpa using ih.2 j q (by simpa using hj)
theorem Weak.slot {t : Nat} {p q : PV} (hl : look S t = some p) (hq : ∀ w0 pub V a w, Rel0 N w0 pub V (St.of S M) a w → ∀ v, RV pub w V (St.of S M).mem p v → RV pub w V (St.of S M).mem q v) : Weak N (St.of S M) (St.of ((t, q) :: S) M) := by
  intro w0 pub0 a w ⟨pub, V, c1, c2, h⟩
  refine ⟨pub, V, c1, c2, ⟨h.defers, h.size, h.below, h.pubLt, fun u => ?_, h.mem, h.apart⟩⟩
  by_cases hu : u = t
  · subst hu
    have h1 := h.slots u
    rw [look_slot hl] at h1
    rw [look_slot (show look ((u, q) :: S) u = some q by simp [look])]
    exact hq _ _ _ _ _ h _ h1
  · have : (St.of ((t, q) :: S) M).slot u = (St.of S M).slot u := by
      have := congrFun (look_upd S t q) u
      simp only [St.of]
      rw [← this, upd_ne _ _ hu]
    rw [this]; exact h.slots u
theorem R.castS {t : Nat} {p : PV} (q : PV) (hl : look S t = some p) (hq : Cast M p q) (h : Run P N Q k (St.of ((t, q) :: S) M)) : Run P N Q k (St.of S M) :=
  Run.weak (Weak.slot hl fun _ _ _ _ _ hrel _ hv => hq.rv hrel hv) h
theorem R.castA {t : Nat} {cs : List PV} (ds : List PV) (hl : look S t = some (.agg cs)) (hq : Casts M cs ds) (h : Run P N Q k (St.of ((t, .agg ds) :: S) M)) : Run P N Q k (St.of S M) :=
  Run.weak (Weak.slot hl fun _ _ _ _ _ hrel v hv => by
    obtain ⟨arr, rfl, hs, hc⟩ := hv.agg_inv
    have ha := hq.at
    refine .agg ds arr (hs.trans ha.1) (fun j c hj => ?_) (fun j c hj => ?_)
    all_goals obtain ⟨p, h1, h2⟩ := ha.2 j c hj
    · exact (hc j p h1).1
    · exact h2.rv hrel (hc j p h1).2) h
/-- A variable's cells said otherwise. -/
theorem R.castB {n : Nat} {cs : List PV} (ds : List PV) (hm : look M n = some (.blk true cs)) (hq : Casts M cs ds) (h : Run P N Q k (St.of S ((n, .blk true ds) :: M))) : Run P N Q k (St.of S M) := by
  refine Run.weak (s' := St.of S ((n, .blk true ds) :: M)) ?_ h
  intro w0 pub0 a w ⟨pub, V, c1, c2, hrel⟩
  have ha := hq.at
  have hmn := hrel.mem n
  rw [look_mem hm] at hmn
  generalize hVn : V n = v at hmn
  cases hmn with
  | blk _ _ g arr T hv hB hg hs hpp hqq hc hr =>
    subst hv
    have hlt : g < w.heap.size := (Array.getElem?_eq_some_iff.1 hg).1
    have ht := hrel.touch (pub' := pub) (w' := w) n (by rw [look_mem hm]; intro e; cases e) (V n) (.blk true ds) (fun e => by cases e) (Nat.le_refl _) rfl rfl rfl (fun _ _ _ => rfl) (fun b o h => h)
      (fun b o ho => .inl ho) (fun b hb => by rw [hVn] at hb; simp [blockOf] at hb; omega) (fun _ _ _ => rfl) (.inl rfl) (fun q u hq => by rw [updV_self]; exact refs_blk (look_mem hm) hq)
      (fun t => .blk true ds g arr T hVn hB hg (hs.trans ha.1) hpp (fun e => by cases e) (fun j c hj => by
        obtain ⟨p, h1, h2⟩ := ha.2 j c hj
        exact ⟨(hc j p h1).1, t.rv (h2.rv hrel (hc j p h1).2)⟩) (fun e => by cases e))
    rw [updV_self] at ht
    have e : ({ (St.of S M) with mem := upd (St.of S M).mem n (.blk true ds) } : St) = St.of S ((n, .blk true ds) :: M) := by
      have := mem_of S M n (.blk true ds)
      simp only [upds] at this
      rw [this]; rfl
    rw [e] at ht
    exact ⟨_, V, c1, c2, ht⟩
/-- A nil slice under a name of its own. -/
theorem Weak.nilObj (n : Nat) (x : Bool) (e sz : Nat) (hsz : 0 < sz) (hn : look M n = none) : Weak N (St.of S M) (St.of S ((n, .obj x e sz []) :: M)) ∧ ∀ w0 pub V a w, Rel0 N w0 pub V (St.of S M) a w →
    ∃ V', Rel0 N w0 pub V' (St.of S ((n, .obj x e sz []) :: M)) a w ∧ V' n = .slice none 0 0 ∧ ∀ p u, RV pub w V (St.of S M).mem p u → RV pub w V' (St.of S ((n, .obj x e sz []) :: M)).mem p u := by
  have key : ∀ w0 pub V a w, Rel0 N w0 pub V (St.of S M) a w → ∃ V', Rel0 N w0 pub V' (St.of S ((n, .obj x e sz []) :: M)) a w ∧ V' n = .slice none 0 0 ∧ ∀ p u, RV pub w V (St.of S M).mem p u → RV pub w V' (St.of S ((n, .obj x e sz []) :: M)).mem p u := by
    intro w0 pub V a w hrel
    obtain ⟨h1, h2⟩ := hrel.adopt n (look_none hn) (v := .slice none 0 0) (x := x) (e := e) (sz := sz) (l := []) (V' := fun _ => Go.undef) (m' := fun _ => .undef) (Nat.le_refl _)
      (.obj x e sz [] [] hsz (by simp) (fun _ h => by cases h) (World.ownsRow_nil w _ e sz) (fun g o h => by cases h) (fun _ g o h => by cases h) (fun i c h => by simp at h)) (fun k g _ _ h => by cases h)
    have e1 : upd (St.of S M).mem n (.obj x e sz []) = (St.of S ((n, .obj x e sz []) :: M)).mem := by
      have := mem_of S M n (.obj x e sz [])
      simpa only [upds] using this
    have e2 : ({ (St.of S M) with mem := upd (St.of S M).mem n (.obj x e sz []) } : St) = St.of S ((n, .obj x e sz []) :: M) := by rw [e1]; rfl
    rw [e2] at h1
    rw [e1] at h2
    exact ⟨_, h1, updV_same _ _ _, h2⟩
  exact ⟨fun w0 pub0 a w ⟨pub, V, c1, c2, h⟩ => by obtain ⟨V', h1, _⟩ := key _ _ _ _ _ h; exact ⟨pub, V', c1, c2, h1⟩, key⟩
theorem slot_cons_of {t : Nat} {q : PV} {S M' : List (Nat × PV)} {pub : Nat → Nat → Prop} {V' : Nat → Value} {w0 : World} {a : Act} {w : World} (h1 : Rel0 N w0 pub V' (St.of S M') a w) (hq : RV pub w V' (St.of S M').mem q (a.tmps.getD t Go.undef)) : Rel0 N w0 pub V' (St.of ((t, q) :: S) M') a w := by
  refine ⟨h1.defers, h1.size, h1.below, h1.pubLt, fun u => ?_, h1.mem, h1.apart⟩
  by_cases hu : u = t
  · subst hu
    rw [look_slot (show look ((u, q) :: S) u = some q by simp [look])]
    exact hq
  · have : (St.of ((t, q) :: S) M').slot u = (St.of S M').slot u := by
      have := congrFun (look_upd S t q) u
      simp only [St.of]
      rw [← this, upd_ne _ _ hu]
    rw [this]; exact h1.slots u
theorem R.nilOwnS {t : Nat} (n : Nat) (x : Bool) (e sz : Nat) (hsz : Nat.ble 1 sz = true) (hl : look S t = some .nils) (hn : look M n = none) (h : Run P N Q k (St.of ((t, .own n 0) :: S) ((n, .obj x e sz []) :: M))) : Run P N Q k (St.of S M) := by
  refine Run.weak (s' := St.of ((t, .own n 0) :: S) ((n, .obj x e sz []) :: M)) ?_ h
  intro w0 pub0 a w ⟨pub, V, c1, c2, hrel⟩
  obtain ⟨V', h1, h2, h3⟩ := (Weak.nilObj n x e sz (Nat.le_of_ble_eq_true hsz) hn).2 _ _ _ _ _ hrel
  have hv := hrel.slots t
  rw [look_slot hl] at hv
  exact ⟨pub, V', c1, c2, slot_cons_of h1 (.ref (.own n 0 _ x e sz [] (look_mem (by simp [look])) (by simp) (fun _ => hv.nils_inv.trans h2.symm)))⟩
/-- The same, of a struct's cell in a slot. -/
theorem R.nilOwnA {t : Nat} {cs : List PV} (j n : Nat) (x : Bool) (e sz : Nat) (hsz : Nat.ble 1 sz = true) (hl : look S t = some (.agg cs)) (hj : cs[j]? = some .nils) (hn : look M n = none) {ds : List PV} (hd : cs.set j (.own n 0) = ds) (h : Run P N Q k (St.of ((t, .agg ds) :: S) ((n, .obj x e sz []) :: M))) : Run P N Q k (St.of S M) := by
  subst hd
  refine Run.weak (s' := St.of ((t, .agg _) :: S) ((n, .obj x e sz []) :: M)) ?_ h
  intro w0 pub0 a w ⟨pub, V, c1, c2, hrel⟩
  obtain ⟨V', h1, h2, h3⟩ := (Weak.nilObj n x e sz (Nat.le_of_ble_eq_true hsz) hn).2 _ _ _ _ _ hrel
  have hv := hrel.slots t
  rw [look_slot hl] at hv
  obtain ⟨arr, e1, hs, hc⟩ := hv.agg_inv
  refine ⟨pub, V', c1, c2, slot_cons_of h1 ?_⟩
  rw [e1]
  refine .agg _ arr (by simpa using hs) (fun i c hi => ?_) (fun i c hi => ?_)
  all_goals
    rw [List.getElem?_set] at hi
    split at hi
  · rename_i hij; subst hij; exact (hc _ _ hj).1
  · exact (hc _ _ hi).1
  · rename_i hij; subst hij
    split at hi <;> cases hi
    exact .ref (.own n 0 _ x e sz [] (look_mem (by simp [look])) (by simp) (fun _ => (hc _ _ hj).2.nils_inv.trans h2.symm))
  · exact h3 _ _ (hc _ _ hi).2
/-- The same, of a cell of a variable. -/
theorem R.nilOwnB {m : Nat} {cs : List PV} (j n : Nat) (x : Bool) (e sz : Nat) (hsz : Nat.ble 1 sz = true) (hm : look M m = some (.blk true cs)) (hj : cs[j]? = some .nils) (hn : look M n = none) {ds : List PV} (hd : cs.set j (.own n 0) = ds) (h : Run P N Q k (St.of S ((m, .blk true ds) :: (n, .obj x e sz []) :: M))) : Run P N Q k (St.of S M) := by
  subst hd
  refine Run.weak (s' := St.of S ((m, .blk true (cs.set j (.own n 0))) :: (n, .obj x e sz []) :: M)) ?_ h
  intro w0 pub0 a w ⟨pub, V, c1, c2, hrel0⟩
  obtain ⟨V', hrel, h2, h3⟩ := (Weak.nilObj n x e sz (Nat.le_of_ble_eq_true hsz) hn).2 _ _ _ _ _ hrel0
  have hne : Nat.beq n m = false := by
    cases hb : Nat.beq n m with
    | false => rfl
    | true => have := Nat.eq_of_beq_eq_true hb; subst this; rw [hn] at hm; cases hm
  have hm' : look ((n, .obj x e sz []) :: M) m = some (.blk true cs) := by simp only [look, hne, cond_false]; exact hm
  have hn' : look ((n, PV.obj x e sz []) :: M) n = some (.obj x e sz []) := by simp [look]
  have hmn := hrel.mem m
  rw [look_mem hm'] at hmn
  generalize hVn : V' m = v at hmn
  cases hmn with
  | blk _ _ g arr T hv hB hg hs hpp hqq hc hr =>
    subst hv
    have hlt : g < w.heap.size := (Array.getElem?_eq_some_iff.1 hg).1
    have ht := hrel.touch (pub' := pub) (w' := w) m (by rw [look_mem hm']; intro e; cases e) (V' m) (.blk true (cs.set j (.own n 0))) (fun e => by cases e) (Nat.le_refl _) rfl rfl rfl (fun _ _ _ => rfl) (fun b o h => h)
      (fun b o ho => .inl ho) (fun b hb => by rw [hVn] at hb; simp [blockOf] at hb; omega) (fun _ _ _ => rfl) (.inl rfl) (fun q u hq => by rw [updV_self]; exact refs_blk (look_mem hm') hq)
      (fun t => .blk true _ g arr T hVn hB hg (by simpa using hs) hpp (fun e => by cases e) (fun i c hi => by
        rw [List.getElem?_set] at hi
        split at hi
        · rename_i hij; subst hij
          split at hi <;> cases hi
          refine ⟨(hc _ _ hj).1, ?_⟩
          have : n ≠ m := fun e => by subst e; simp at hne
          refine .ref (.own n 0 _ x e sz [] (by rw [upd_ne _ _ this]; exact look_mem hn') (by simp) (fun _ => ?_))
          rw [updV_self]
          exact (hc _ _ hj).2.nils_inv.trans h2.symm
        · exact ⟨(hc _ _ hi).1, t.rv (hc _ _ hi).2⟩) (fun e => by cases e))
    rw [updV_self] at ht
    have e : ({ (St.of S ((n, .obj x e sz []) :: M)) with mem := upd (St.of S ((n, .obj x e sz []) :: M)).mem m (.blk true (cs.set j (.own n 0))) } : St) = St.of S ((m, .blk true (cs.set j (.own n 0))) :: (n, .obj x e sz []) :: M) := by
      have := mem_of S ((n, .obj x e sz []) :: M) m (.blk true (cs.set j (.own n 0)))
      simp only [upds] at this
      rw [this]; rfl
    rw [e] at ht
    exact ⟨_, V', c1, c2, ht⟩

/-! ### Ways that meet again -/
theorem Run.cut {c : Code} {s : St} {J : St → Prop} (h : Run P N Q (.code c :: .again J :: k) s) (hk : ∀ s', J s' → Run P N Q k s') : Run P N Q (.code c :: k) s := fun w0 pub0 a w hR => by
  refine Code.wp_mono (fun e a w q => ?_) (h w0 pub0 a w hR)
  cases e with
  | normal =>
    obtain ⟨s2, hJ, hR2⟩ := q
    exact hk s2 hJ w0 pub0 a w hR2
  | _ => exact q
theorem R.join {β : Type} {c : Code} (S0 M0 : List (Nat × PV)) (X Y : β → List (Nat × PV) → List (Nat × PV)) (J : β → Prop) (hrun : Run P N Q (.code c :: .again (fun s => ∃ b, J b ∧ s = St.of (X b S0) (Y b M0)) :: k) (St.of S M))
    (hk : ∀ b, J b → Run P N Q k (St.of (X b S0) (Y b M0))) : Run P N Q (.code c :: k) (St.of S M) :=
  Run.cut hrun fun s' ⟨b, hJ, e⟩ => e ▸ hk b hJ
theorem R.meet {β : Type} {S0 M0 : List (Nat × PV)} {X Y : β → List (Nat × PV) → List (Nat × PV)} {J : β → Prop} (b : β) (hJ : J b) (hS : AllLook S (X b S0)) (hM : AllLook M (Y b M0)) (hr : ((X b S0).all fun q => refsB 3 ((Y b M0).map (·.1)) q.2) = true)
    (hrm : ((Y b M0).all fun q => refsM ((Y b M0).map (·.1)) q.2) = true) : Run P N Q (.again (fun s => ∃ b, J b ∧ s = St.of (X b S0) (Y b M0)) :: k) (St.of S M) :=
  Run.again (Weak.sub hS hM hr hrm) ⟨b, hJ, rfl⟩
theorem R.regG {id : Nat} {l : List Oper} (S1 M1 : List (Nat × PV)) (h : SLx P N l.toArray (fun _ => none) 0 l (St.of S M) (fun s => Weak N s (St.of S1 M1))) (h2 : Run P N Q k (St.of S1 M1)) : Run P N Q (.code (.region id l.toArray false) :: k) (St.of S M) := fun w0 pub0 a w hR =>
  wp_region_lit (SLx.sound (fun s a w hs hR => h2 w0 pub0 a w (hs _ _ _ _ hR)) l 0 _ a w h hR)
theorem R.drawG {id : Nat} {l : List Oper} (S1 M1 : List (Nat × PV)) (F : Nat → Foot) (hm : P.follows .mixedOrders = true) (hB : Region.lexB .any l.toArray = true) (hF : footFrom l.toArray F l.length 0 (Array.replicate l.length false) = true)
    (h : SLx P N l.toArray F 0 l (St.of S M) (fun s => Weak N s (St.of S1 M1))) (h2 : Run P N Q k (St.of S1 M1)) : Run P N Q (.code (.region id l.toArray true) :: k) (St.of S M) :=
  Run.draw F hm hB hF (SLx.mono (fun s hs w0 pub0 a w hR => h2 w0 pub0 a w (hs _ _ _ _ hR)) l 0 _ h)
theorem X.endG {all : Array Oper} {F : Nat → Foot} {i : Nat} {S1 M1 : List (Nat × PV)} (hS : AllLook S S1) (hM : AllLook M M1) (hr : (S1.all fun q => refsB 3 (M1.map (·.1)) q.2) = true) (hrm : (M1.all fun q => refsM (M1.map (·.1)) q.2) = true) :
    SLx P N all F i [] (St.of S M) (fun s => Weak N s (St.of S1 M1)) := X.nil (K := fun s => Weak N s (St.of S1 M1)) (Weak.sub hS hM hr hrm)
/-- A guard that is not known: both ways. -/
theorem X.ifG {all : Array Oper} {F : Nat → Foot} {i : Nat} {rest : List Oper} {d : Nat} {ty : TypeId} {pos : String} {after : Array Edge} {K : St → Prop} {op : Op} {g t : Nat} {want b : Bool} (hg : gslot all g = some t) (hs : look S t = some (.lit (.bool b))) (hd : Nat.ble (d + 1) N = true)
    (h1 : b = want → SLx P N all F i (⟨some d, op, ty, pos, after, none⟩ :: rest) (St.of S M) K) (h2 : b = !want → SLx P N all F (i + 1) rest (St.of ((d, .tuple []) :: S) M) K) :
    SLx P N all F i (⟨some d, op, ty, pos, after, some (g, want)⟩ :: rest) (St.of S M) K := by
  by_cases hb : b = want
  · exact X.gyes hg hs hb (h1 hb)
  · have hb' : b = !want := by cases b <;> cases want <;> simp_all
    exact X.gno hg hs hb' hd (h2 hb')
/-- A store into a slice of the call's own: what it holds then is told. -/
theorem X.store_e2 {all : Array Oper} {F : Nat → Foot} {i : Nat} {rest : List Oper} {ty : TypeId} {pos : String} {after : Array Edge} {K : St → Prop} {t : TypeId} {x y : Operand} {n k j off e sz' : Nat} {l l2 : List PV} {el p p' : PV} {R : List Nat} {C : List (Nat × Nat)} {g : Bool} {sz : Nat} (ht : shp P t = some (g, sz)) (hx : evO S x = some (.eptr n k j off)) (hm : look M n = some (.obj true e sz' l)) (hk : k = l.length) (hi : l[j]? = some el) (hy : evO S y = some p) (hp : purL M [p] = some ([p'], R, C)) (hC : AllEq C) (h0 : Nat.ble 1 sz = true) (hl : p'.cells.length = sz) (hfit : Nat.ble (off + sz) sz' = true) (hF : (F i).okB (n :: R) [n] = true) (h2 : l.set j (setEl el off p') = l2) (h : SLx P N all F (i + 1) rest (St.of S ((n, .obj true e sz' l2) :: M)) K) :
    SLx P N all F i (⟨none, .store t x y, ty, pos, after, none⟩ :: rest) (St.of S M) K := by
  subst h2
  exact X.store_e ht hx hm hk hi hy hp hC h0 hl hfit hF h
end
end Go.Px
namespace Go.Px
set_option linter.unusedSimpArgs false
set_option linter.unusedVariables false
open Go.RowKit

theorem elimL {α β γ : Type} {f : α → γ} {g : β → γ} {a : α} {x : γ} (h : Sum.elim f g (.inl a) = x) : f a = x := h
theorem elimR {α β γ : Type} {f : α → γ} {g : β → γ} {b : β} {x : γ} (h : Sum.elim f g (.inr b) = x) : g b = x := h

abbrev sumBind {α β γ : Type} (x : Option (α ⊕ β)) (g : β → Option γ) (f : α → Option γ) : Option γ := x.bind (Sum.elim f g)

theorem drop_atI {α : Type} {l : List α} {z : Int} (h0 : 0 ≤ z) (h : decide (z < (l.length : Int)) = true) : ∃ x xs, l.drop z.toNat = x :: xs ∧ idxL l z = some x ∧ l.drop (z + 1).toNat = xs ∧ z < (l.length : Int) := by
  have h := of_decide_eq_true h
  have hlt : z.toNat < l.length := by omega
  refine ⟨l[z.toNat], l.drop (z.toNat + 1), List.drop_eq_getElem_cons hlt, ?_, ?_, h⟩
  · simp [idxL, h0, hlt]
  · rw [show (z + 1).toNat = z.toNat + 1 by omega]
theorem drop_endI {α : Type} {l : List α} {z : Int} (h0 : 0 ≤ z) (h : decide (z < (l.length : Int)) = false) : l.drop z.toNat = [] := by
  have h := of_decide_eq_false h
  exact List.drop_eq_nil_of_le (by omega)

def allSz (sz : Nat) : List PV → Bool
  | [] => true
  | p :: ps => Nat.beq p.cells.length sz && allSz sz ps
theorem allSz_spec {sz : Nat} : ∀ {ps : List PV}, allSz sz ps = true → ∀ p ∈ ps, p.cells.length = sz
  | [], _, p, hp => by cases hp
  | q :: ps, h, p, hp => by
    simp only [allSz, Bool.and_eq_true] at h
    rcases List.mem_cons.1 hp with rfl | hp
    · exact Nat.eq_of_beq_eq_true h.1
    · exact allSz_spec h.2 p hp

section
variable {P : Program} {N : Nat} {Q : St → Prop} {k : List Item} {S M : List (Nat × PV)}
theorem R.loop2 {β : Type} {c : Code} (S0 M0 : List (Nat × PV)) (X Y : β → List (Nat × PV) → List (Nat × PV)) (J : Nat → β → Prop) (n0 : Nat) (b0 : β) (hS : AllLook S (X b0 S0)) (hM : AllLook M (Y b0 M0)) (hr : ((X b0 S0).all fun q => refsB 3 ((Y b0 M0).map (·.1)) q.2) = true) (hrm : ((Y b0 M0).all fun q => refsM ((Y b0 M0).map (·.1)) q.2) = true)
    (h0 : J n0 b0) (hrun : ∀ (JJ : St → Prop) n b, (∀ m b' S' M', m < n → J m b' → AllLook S' (X b' S0) → AllLook M' (Y b' M0) → ((X b' S0).all fun q => refsB 3 ((Y b' M0).map (·.1)) q.2) = true → ((Y b' M0).all fun q => refsM ((Y b' M0).map (·.1)) q.2) = true → Run P N Q (.again JJ :: k) (St.of S' M')) → J n b →
      Run P N Q (.code c :: .again JJ :: k) (St.of (X b S0) (Y b M0))) : Run P N Q (.code (.loop c) :: k) (St.of S M) :=
  R.loop S0 M0 X Y J n0 b0 hS hM hr hrm h0 fun n b hJ => hrun _ n b (fun m b' S' M' hlt hJ' h1 h2 h3 h4 => R.again m b' hlt hJ' h1 h2 h3 h4) hJ
theorem R.join2 {β : Type} {c : Code} (S0 M0 : List (Nat × PV)) (X Y : β → List (Nat × PV) → List (Nat × PV)) (J : β → Prop)
    (hrun : ∀ JJ : St → Prop, (∀ b S' M', J b → AllLook S' (X b S0) → AllLook M' (Y b M0) → ((X b S0).all fun q => refsB 3 ((Y b M0).map (·.1)) q.2) = true → ((Y b M0).all fun q => refsM ((Y b M0).map (·.1)) q.2) = true → Run P N Q (.again JJ :: k) (St.of S' M')) → Run P N Q (.code c :: .again JJ :: k) (St.of S M))
    (hk : ∀ b, J b → Run P N Q k (St.of (X b S0) (Y b M0))) : Run P N Q (.code c :: k) (St.of S M) :=
  R.join S0 M0 X Y J (hrun _ fun b S' M' hJ h1 h2 h3 h4 => R.meet b hJ h1 h2 h3 h4) hk

/-- The end: three results in slots. -/
theorem R.fin3 {fn : Func} {t u v : Nat} {p q p3 : PV} {cs2 : List PV} {G : List Nat} {C : List (Nat × Nat)} {r : PV} (hres : fn.results = #[.tmp t, .tmp u, .tmp v]) (hv : look S t = some p) (hu : look S u = some q) (hw : look S v = some p3) (hh : handF M [p, q, p3] = some (cs2, G, C)) (hC : AllEq C) (hr : resOf cs2 = r) : Run P N (Fin P fn r) (.code .ret :: k) (St.of S M) :=
  Run.ret ⟨[p, q, p3], cs2, G, by rw [hres]; exact .tmp t _ _ _ (look_slot hv) (.tmp u _ _ _ (look_slot hu) (.tmp v _ [] [] (look_slot hw) .nil)), handF_spec _ _ _ _ hh hC, hr⟩
end

section
variable {P : Program} {N : Nat} {all : Array Oper} {F : Nat → Foot} {i : Nat} {rest : List Oper} {S M : List (Nat × PV)} {K : St → Prop} {d : Nat} {ty : TypeId} {pos : String} {after : Array Edge}
theorem X.makeSlice2 {t : TypeId} {x y : Operand} {e sz by' : Nat} {z : List PV} {k k' : IntKind} {j : Int} {α : Type} {zv : α} {v : List α} (f : α → PV) (hv : makeL zv j = some v) (ht : eltOf P t = some (e, sz, by')) (hz : zeroPV P e = some z) (hel : (f zv).cells = z.map zc) (hx : evO S x = some (.lit (.int k j))) (hy : evO S y = some (.lit (.int k' j))) (hp : ∀ c ∈ z, c.plain = true) (h0 : Nat.ble 1 sz = true) (hzl : z.length = sz) (hb : Nat.ble by' 128 = true) (hm : look M (64 * d) = none) (hd : Nat.ble (d + 1) N = true) (hF : (F i).okB [64 * d] [64 * d] = true)
    (h : SLx P N all F (i + 1) rest (St.of ((d, .own (64 * d) (v.map f).length) :: S) ((64 * d, .obj true e sz (v.map f)) :: M)) K) : SLx P N all F i (⟨some d, .makeSlice t x y, ty, pos, after, none⟩ :: rest) (St.of S M) K := by
  obtain ⟨h1, h2, rfl⟩ := makeL_spec hv
  refine X.makeSlice (f zv) ht hz (.inr hel) hx hy h1 h2 hp h0 hzl hb hm hd hF ?_
  simpa using h
theorem X.sliceS2 {t : TypeId} {x : Operand} {l q : List PV} {lo hi : Option Operand} {e sz by' : Nat} {a c : Int} (ht : eltOf P t = some (e, sz, by')) (hx : evO S x = some (.slice l)) (hsz : ∀ e ∈ l, e.cells.length = sz) (hlo : Bound S lo 0 a) (hhi : Bound S hi l.length c) (h0 : 0 ≤ a ∧ a ≤ c ∧ c ≤ l.length) (hq : (l.take c.toNat).drop a.toNat = q) (hd : Nat.ble (d + 1) N = true)
    (h : SLx P N all F (i + 1) rest (St.of ((d, .slice q) :: S) M) K) : SLx P N all F i (⟨some d, .slice t x lo hi none, ty, pos, after, none⟩ :: rest) (St.of S M) K := by
  subst hq; exact X.sliceS ht hx hsz hlo hhi h0 hd h
theorem X.sliceO2 {t : TypeId} {x : Operand} {n k : Nat} {l q : List PV} {lo hi : Option Operand} {e sz by' : Nat} {a c : Int} (ht : eltOf P t = some (e, sz, by')) (hx : evO S x = some (.own n k)) (hm : look M n = some (.obj false e sz l)) (hk : k = l.length) (hlo : Bound S lo 0 a) (hhi : Bound S hi l.length c) (h0 : 0 ≤ a ∧ a ≤ c ∧ c ≤ l.length) (hq : (l.take c.toNat).drop a.toNat = q) (hd : Nat.ble (d + 1) N = true) (hF : (F i).okB [n] [] = true)
    (h : SLx P N all F (i + 1) rest (St.of ((d, .slice q) :: S) M) K) : SLx P N all F i (⟨some d, .slice t x lo hi none, ty, pos, after, none⟩ :: rest) (St.of S M) K := by
  subst hq; exact X.sliceO ht hx hm hk hlo hhi h0 hd hF h
theorem X.sliceStr2 {t : TypeId} {x : Operand} {b r : ByteArray} {lo hi : Option Operand} {a c : Int} (hv : subS b a c = some r) (ht : P.underlying t = some .string) (hx : evO S x = some (.lit (.string b))) (hlo : Bound S lo 0 a) (hhi : Bound S hi b.size c) (hd : Nat.ble (d + 1) N = true) (h : SLx P N all F (i + 1) rest (St.of ((d, .lit (.string r)) :: S) M) K) :
    SLx P N all F i (⟨some d, .slice t x lo hi none, ty, pos, after, none⟩ :: rest) (St.of S M) K := by
  obtain ⟨h1, rfl⟩ := subS_spec hv
  exact X.sliceStr ht hx hlo hhi h1 hd h
theorem X.indexStr2 {t : TypeId} {x y : Operand} {b : ByteArray} {k : IntKind} {j v : Int} (hv : idxS b j = some v) (ht : P.underlying t = some .string) (hx : evO S x = some (.lit (.string b))) (hy : evO S y = some (.lit (.int k j))) (hd : Nat.ble (d + 1) N = true) (h : SLx P N all F (i + 1) rest (St.of ((d, .lit (.int .u8 v)) :: S) M) K) :
    SLx P N all F i (⟨some d, .index t x y, ty, pos, after, none⟩ :: rest) (St.of S M) K := by
  obtain ⟨h0, u, hu, rfl⟩ := idxS_spec hv
  exact X.indexStr ht hx hy h0 hu hd h
theorem X.cat2 {t t' : TypeId} {x y : Operand} {a b c : ByteArray} (hv : catS a b = some c) (hx : evO S x = some (.lit (.string a))) (hy : evO S y = some (.lit (.string b))) (hd : Nat.ble (d + 1) N = true) (h : SLx P N all F (i + 1) rest (St.of ((d, .lit (.string c)) :: S) M) K) :
    SLx P N all F i (⟨some d, .binOp .add t x y t', ty, pos, after, none⟩ :: rest) (St.of S M) K := by
  obtain ⟨h1, rfl⟩ := catS_spec hv
  exact X.cat hx hy h1 hd h
theorem X.eqlBool {t t' : TypeId} {x y : Operand} {a b : Bool} (ht : P.underlying t = some .bool) (hx : evO S x = some (.lit (.bool a))) (hy : evO S y = some (.lit (.bool b))) (hd : Nat.ble (d + 1) N = true) (h : SLx P N all F (i + 1) rest (St.of ((d, .lit (.bool (a == b))) :: S) M) K) :
    SLx P N all F i (⟨some d, .binOp .eql t x y t', ty, pos, after, none⟩ :: rest) (St.of S M) K :=
  X.ofOp (U := []) (R := []) (.eqlBool t t' x y a b ht (evO_spec hx) (evO_spec hy)) hd (okB_nil _) h
theorem X.neqBool {t t' : TypeId} {x y : Operand} {a b : Bool} (ht : P.underlying t = some .bool) (hx : evO S x = some (.lit (.bool a))) (hy : evO S y = some (.lit (.bool b))) (hd : Nat.ble (d + 1) N = true) (h : SLx P N all F (i + 1) rest (St.of ((d, .lit (.bool (a != b))) :: S) M) K) :
    SLx P N all F i (⟨some d, .binOp .neq t x y t', ty, pos, after, none⟩ :: rest) (St.of S M) K :=
  X.ofOp (U := []) (R := []) (.neqBool t t' x y a b ht (evO_spec hx) (evO_spec hy)) hd (okB_nil _) h
end
end Go.Px
namespace Go.Px
open Go
theorem toListOf (s : String) (l : List Char) (h : s = String.ofList l) : s.toList = l := by rw [h]; exact String.toList_ofList
theorem headOf {α : Type} {l : List α} {c : α} (h : l.head? = some c) : ∃ r, l = c :: r := by
  cases l with
  | nil => cases h
  | cons x xs => cases h; exact ⟨xs, rfl⟩
theorem stripCut (r : List (List Char)) : stripLifts liftWords ("cut".toList :: r) = ([], "cut".toList :: r) := by kernel_rfl
theorem cutHeads {P : Program} (h : (behindMainWord (wordsSigns P.initOrder.toList)).head? = some "cut".toList) : P.headLifts = [] := by
  obtain ⟨r, e⟩ := headOf h
  unfold Program.headLifts
  rw [e, stripCut]
  simp
theorem cutEnter {P : Program} (h : (behindMainWord (wordsSigns P.initOrder.toList)).head? = some "cut".toList) (h1 : P.laysLater = false) (h2 : P.bearsReflect = false) (h3 : P.doorFits [] = true) : P.mayEnter = true := by
  obtain ⟨r, e⟩ := headOf h
  unfold Program.mayEnter
  rw [e]
  simp only [stripCut, h1, h2, h3, List.head?_cons, Bool.not_false, Bool.or_true, Bool.and_true, List.contains_nil, Bool.not_false]
  simp
theorem cutLifts {P : Program} (h : (behindMainWord (wordsSigns P.initOrder.toList)).head? = some "cut".toList) : P.liftsFinal = false := by
  have k := cutHeads h
  obtain ⟨r, e⟩ := headOf h
  unfold Program.liftsFinal
  rw [e, k]
  have : (some "cut".toList == some "carried".toList) = false := by kernel_rfl
  simp only [List.head?_cons, this, Bool.false_and, List.contains_nil, Bool.or_false]
theorem cutMake {P : Program} (h : (behindMainWord (wordsSigns P.initOrder.toList)).head? = some "cut".toList) : P.make = some .cut := by
  obtain ⟨r, e⟩ := headOf h
  unfold Program.make
  rw [e]
  have h1 : ("cut".toList == "gc".toList) = false := by kernel_rfl
  have h2 : ("cut".toList == "spec".toList) = false := by kernel_rfl
  have h3 : ("cut".toList == "cut".toList) = true := by kernel_rfl
  simp only [h1, h2, h3, Bool.or_self, Bool.true_or, if_true]
  simp
end Go.Px
namespace Go.Px
set_option linter.unusedSimpArgs false
set_option linter.unusedVariables false

theorem idxL_drop {α : Type} {l : List α} {z : Int} {y : α} {ys : List α} (h0 : 0 ≤ z) (h : l.drop z.toNat = y :: ys) : idxL l z = some y ∧ l.drop (z + 1).toNat = ys := by
  have hlt : z.toNat < l.length := by
    have := congrArg List.length h
    simp only [List.length_drop, List.length_cons] at this; omega
  rw [List.drop_eq_getElem_cons hlt] at h
  injection h with h1 h2
  refine ⟨?_, ?_⟩
  · simp [idxL, h0, hlt, h1]
  · rw [show (z + 1).toNat = z.toNat + 1 by omega]; exact h2
theorem idxL_some {α : Type} {l : List α} {z : Int} (h0 : 0 ≤ z) (h : z < l.length) : ∃ y, idxL l z = some y ∧ y ∈ l := by
  have hlt : z.toNat < l.length := by omega
  exact ⟨l[z.toNat], by simp [idxL, h0, hlt], List.getElem_mem _⟩
theorem F0_gt : 9223372036854775808 < F0 := Nat.le_of_ble_eq_true rfl
theorem cond_some {α : Type} (c : Bool) (x y : α) : (bif c then some x else some y) = some (bif c then x else y) := by cases c <;> rfl
theorem cond_and (a b : Bool) : (bif a then b else false) = (a && b) := by cases a <;> rfl
theorem cond_or (a b : Bool) : (bif a then true else b) = (a || b) := by cases a <;> rfl

theorem int_bne (a b : Int) : (a != b) = !decide (a = b) := by by_cases h : a = b <;> simp [h]
theorem int_beq (a b : Int) : (a == b) = decide (a = b) := by by_cases h : a = b <;> simp [h]
theorem bool_bne (a b : Bool) : (a != b) = !decide (a = b) := by by_cases h : a = b <;> simp [h]
theorem bool_beq (a b : Bool) : (a == b) = decide (a = b) := by by_cases h : a = b <;> simp [h]
theorem ba_beq (a b : ByteArray) : (a == b) = decide (a = b) := by
  show (a.data == b.data) = _
  by_cases h : a = b
  · subst h; simp
  · have : a.data ≠ b.data := fun e => h (by cases a; cases b; simp at e; simp [e])
    simp [h, this]
theorem ba_bne (a b : ByteArray) : (a != b) = !decide (a = b) := by rw [bne, ba_beq]

/-- A loop that compares two lists of one length. -/
theorem eqLoop {α : Type} [DecidableEq α] {F : List α → Int → Option (Unit ⊕ Bool)} {b : List α} (h0 : ∀ z, F [] z = some (.inl ()))
    (h1 : ∀ x xs z y, idxL b z = some y → F (x :: xs) z = if x = y then F xs (z + 1) else some (.inr false)) :
    ∀ (xs : List α) (z : Int), 0 ≤ z → xs.length = (b.drop z.toNat).length → F xs z = some (if xs = b.drop z.toNat then .inl () else .inr false)
  | [], z, hz, hl => by
    have : b.drop z.toNat = [] := List.eq_nil_of_length_eq_zero hl.symm
    rw [h0, this]; simp
  | x :: xs, z, hz, hl => by
    match hd : b.drop z.toNat with
    | [] => rw [hd] at hl; simp at hl
    | y :: ys =>
      obtain ⟨h2, h3⟩ := idxL_drop hz hd
      rw [h1 x xs z y h2]
      rw [hd] at hl
      by_cases hxy : x = y
      · rw [if_pos hxy, eqLoop h0 h1 xs (z + 1) (by omega) (by rw [h3]; simpa using hl), h3]
        simp [hxy]
      · rw [if_neg hxy]; simp [hxy]
theorem eqList {α : Type} [DecidableEq α] {F : List α → Int → Option (Unit ⊕ Bool)} {a b : List α} {G : Option Bool} (h0 : ∀ z, F [] z = some (.inl ()))
    (h1 : ∀ x xs z y, idxL b z = some y → F (x :: xs) z = if x = y then F xs (z + 1) else some (.inr false))
    (hG : G = bif ((a.length : Int) != (b.length : Int)) then some false else sumBind (F a 0) (fun q => some q) fun _ => some true) : G = some (decide (a = b)) := by
  rw [hG]
  by_cases hl : a.length = b.length
  · have e : ((a.length : Int) != (b.length : Int)) = false := by simp [hl]
    rw [e, cond_false, sumBind, eqLoop h0 h1 a 0 (Int.le_refl _) (by simpa using hl)]
    by_cases hab : a = b <;> simp [hab]
  · have e : ((a.length : Int) != (b.length : Int)) = true := by simp; omega
    have hab : a ≠ b := fun e => hl (by rw [e])
    rw [e, cond_true]; simp [hab]

/-- A loop that fills a list from the left. -/
theorem fillLoop {α : Type} {F : List α → Int → List α → Option (List α)} {Q : α → Prop} (h0 : ∀ z a, F [] z a = some a)
    (h1 : ∀ x xs z a y, Q x → idxL a z = some y → F (x :: xs) z a = F xs (z + 1) (setL a z x)) :
    ∀ (xs : List α) (z : Int) (a : List α), 0 ≤ z → a.length = z.toNat + xs.length → (∀ x ∈ xs, Q x) → F xs z a = some (a.take z.toNat ++ xs)
  | [], z, a, hz, hl, _ => by rw [h0]; simp at hl; simp [List.take_of_length_le (Nat.le_of_eq hl)]
  | x :: xs, z, a, hz, hl, hQ => by
    have hlt : z < a.length := by simp at hl; omega
    obtain ⟨y, hy, _⟩ := idxL_some hz hlt
    rw [h1 x xs z a y (hQ x (List.mem_cons_self ..)) hy, fillLoop h0 h1 xs (z + 1) _ (by omega) (by simp [setL] at hl ⊢; omega) (fun x hx => hQ x (List.mem_cons_of_mem _ hx))]
    congr 1
    have e : (z + 1).toNat = z.toNat + 1 := by omega
    have hn : z.toNat < a.length := by omega
    rw [e, setL, List.take_add_one, List.getElem?_set_self hn, List.take_set_of_le (Nat.le_refl _)]
    simp
theorem fillList {α : Type} {F : List α → Int → List α → Option (List α)} {Q : α → Prop} {b : List α} {zv : α} {G : Option (List α)} (h0 : ∀ z a, F [] z a = some a)
    (h1 : ∀ x xs z a y, Q x → idxL a z = some y → F (x :: xs) z a = F xs (z + 1) (setL a z x)) (hb : b.length ≤ 1048576) (hQ : ∀ x ∈ b, Q x)
    (hG : G = (makeL zv (b.length : Int)).bind fun v => Option.bind (F b 0 v) fun p => some p) : G = some b := by
  rw [hG]
  have : makeL zv (b.length : Int) = some (List.replicate b.length zv) := by
    unfold makeL
    rw [if_pos (by omega)]; simp
  rw [this, Option.bind_some, fillLoop h0 h1 b 0 _ (Int.le_refl _) (by simp) hQ]
  simp

theorem W_of {n : Int} (h : -9223372036854775808 ≤ n ∧ n ≤ 9223372036854775807) : W n = n := by
  show IntKind.i64.wrap n = n
  rw [IntKind.wrap_i64]; omega
/-- What a reading of sizes says. -/
def SzOk {α : Type} (sz : α → Int → Option Int) (Q : α → Prop) (x : α) : Prop := ∀ n, 0 ≤ n → n ≤ 1048576 → ∃ m, sz x n = some m ∧ (m < 0 ∨ (m ≤ n ∧ Q x))
/-- A loop over sizes. -/
theorem szLoop {α : Type} {F : List α → Int → Int → Option (Int ⊕ Int)} {sz : α → Int → Option Int} {Q : α → Prop} (h0 : ∀ z n, F [] z n = some (.inl n))
    (h1 : ∀ x xs z n, F (x :: xs) z n = (sz x n).bind fun v => bif decide (v < 0) then some (.inr (-1)) else F xs (z + 1) v) :
    ∀ (xs : List α) (z n : Int), (∀ x ∈ xs, SzOk sz Q x) → 0 ≤ n → n ≤ 1048576 → F xs z n = some (.inr (-1)) ∨ ∃ m, F xs z n = some (.inl m) ∧ 0 ≤ m ∧ m ≤ n ∧ ∀ x ∈ xs, Q x
  | [], z, n, _, hn, hn2 => .inr ⟨n, h0 z n, hn, Int.le_refl _, by simp⟩
  | x :: xs, z, n, hs, hn, hn2 => by
    obtain ⟨m, hm, hq⟩ := hs x (List.mem_cons_self ..) n hn hn2
    rw [h1, hm, Option.bind_some]
    by_cases hneg : m < 0
    · left; simp [hneg]
    · have hq := hq.resolve_left hneg
      have e : decide (m < 0) = false := by simpa using hneg
      rw [e, cond_false]
      rcases szLoop h0 h1 xs (z + 1) m (fun x hx => hs x (List.mem_cons_of_mem _ hx)) (by omega) (by omega) with h | ⟨k, hk, hk0, hkm, hQ⟩
      · exact .inl h
      · exact .inr ⟨k, hk, hk0, by omega, fun y hy => by
          rcases List.mem_cons.1 hy with rfl | hy
          · exact hq.2
          · exact hQ y hy⟩
theorem szList {α : Type} {F : List α → Int → Int → Option (Int ⊕ Int)} {sz : α → Int → Option Int} {G : List α → Int → Option Int} {Q : α → Prop} (b : List α) (h0 : ∀ z n, F [] z n = some (.inl n))
    (h1 : ∀ x xs z n, F (x :: xs) z n = (sz x n).bind fun v => bif decide (v < 0) then some (.inr (-1)) else F xs (z + 1) v)
    (hG : ∀ n, G b n = bif (decide ((W (n - (b.length : Int))) < 0)) then some (-1) else sumBind (F b 0 (W (n - (b.length : Int)))) (fun q => some q) fun p => some p)
    (hb : b.length ≤ 9223372036854775807) (hs : ∀ x ∈ b, SzOk sz Q x) : SzOk G (fun b => b.length ≤ 1048576 ∧ ∀ x ∈ b, Q x) b := by
  intro n hn hn2
  rw [hG, W_of (by omega)]
  by_cases hneg : n - (b.length : Int) < 0
  · exact ⟨-1, by simp [hneg], .inl (by omega)⟩
  · have e : decide (n - (b.length : Int) < 0) = false := by simpa using hneg
    rw [e, cond_false]
    rcases szLoop h0 h1 b 0 (n - b.length) hs (by omega) (by omega) with h | ⟨m, hm, hm0, hmn, hQ⟩
    · exact ⟨-1, by rw [h]; rfl, .inl (by omega)⟩
    · exact ⟨m, by rw [hm]; rfl, .inr ⟨by omega, by omega, hQ⟩⟩
theorem szFlat {α : Type} {G : List α → Int → Option Int} (b : List α) (hG : ∀ n, G b n = bif (decide ((W (n - (b.length : Int))) < 0)) then some (-1) else some (W (n - (b.length : Int)))) (hb : b.length ≤ 9223372036854775807) :
    SzOk G (fun b => b.length ≤ 1048576) b := by
  intro n hn hn2
  rw [hG, W_of (by omega)]
  by_cases hneg : n - (b.length : Int) < 0
  · exact ⟨-1, by simp [hneg], .inl (by omega)⟩
  · have e : decide (n - (b.length : Int) < 0) = false := by simpa using hneg
    rw [e, cond_false]
    exact ⟨_, rfl, .inr ⟨by omega, by omega⟩⟩
/-- One part behind the other. -/
theorem szThen {α : Type} {sz : α → Int → Option Int} {Q : α → Prop} {x : α} (h : SzOk sz Q x) {n : Int} (h0 : 0 ≤ n) (h1 : n ≤ 1048576) {K : Int → Option Int} {R : Prop}
    (hk : ∀ m, 0 ≤ m → m ≤ n → Q x → ∃ k, K m = some k ∧ (k < 0 ∨ (k ≤ m ∧ R))) :
    ∃ k, ((sz x n).bind fun v => bif (decide (v < 0)) then some (-1) else K v) = some k ∧ (k < 0 ∨ (k ≤ n ∧ Q x ∧ R)) := by
  obtain ⟨m, hm, hq⟩ := h n h0 h1
  rw [hm, Option.bind_some]
  by_cases hneg : m < 0
  · exact ⟨-1, by simp [hneg], .inl (by omega)⟩
  · have hq := hq.resolve_left hneg
    have e : decide (m < 0) = false := by simpa using hneg
    rw [e, cond_false]
    obtain ⟨k, hk1, hk2⟩ := hk m (by omega) hq.1 hq.2
    exact ⟨k, hk1, hk2.imp id fun ⟨a, b⟩ => ⟨by omega, hq.2, b⟩⟩
theorem szEnd {m : Int} (h : 0 ≤ m) : ∃ k, some m = some k ∧ (k < 0 ∨ (k ≤ m ∧ True)) := ⟨m, rfl, .inr ⟨Int.le_refl _, trivial⟩⟩
theorem szStr {s : ByteArray} (hs : s.size ≤ 9223372036854775807) {n : Int} (h0 : 0 ≤ n) (h1 : n ≤ 1048576) {K : Int → Option Int} {R : Prop}
    (hk : ∀ m, 0 ≤ m → m ≤ n → s.size ≤ 1048576 → ∃ k, K m = some k ∧ (k < 0 ∨ (k ≤ m ∧ R))) :
    ∃ k, (bif (decide ((W (n - (s.size : Int))) < 0)) then some (-1) else K (W (n - (s.size : Int)))) = some k ∧ (k < 0 ∨ (k ≤ n ∧ s.size ≤ 1048576 ∧ R)) := by
  rw [W_of (by omega)]
  by_cases hneg : n - (s.size : Int) < 0
  · exact ⟨-1, by simp [hneg], .inl (by omega)⟩
  · have e : decide (n - (s.size : Int) < 0) = false := by simpa using hneg
    rw [e, cond_false]
    obtain ⟨k, hk1, hk2⟩ := hk (n - (s.size : Int)) (by omega) (by omega) (by omega)
    exact ⟨k, hk1, hk2.imp id fun ⟨a, b⟩ => ⟨by omega, by omega, b⟩⟩

/-! ### Arguments -/
theorem vals_nil {xs : List PV} (h : Vals [] xs) : xs = [] := by cases xs with | nil => rfl | cons _ _ => exact h.elim
theorem vals_cons {T : Ty} {Ts : List Ty} {xs : List PV} (h : Vals (T :: Ts) xs) : ∃ x ys, xs = x :: ys ∧ Val T x ∧ Vals Ts ys := by
  cases xs with
  | nil => exact h.elim
  | cons x ys => exact ⟨x, ys, rfl, h.1, h.2⟩
theorem dec_int {p : PV} (h : Val .int p) : ∃ n : Int, p = int n := by obtain ⟨n, e, _⟩ := h; exact ⟨n, e⟩
theorem dec_bool {p : PV} (h : Val .bool p) : ∃ n : Bool, p = bool n := h
theorem dec_str {p : PV} (h : Val .str p) : ∃ n : ByteArray, p = str n ∧ n.size ≤ 9223372036854775807 := h
theorem dec_slice {T : Ty} {α : Type} {f : α → PV} {B : α → Prop} (hf : ∀ p, Val T p → ∃ x, p = f x ∧ B x) {p : PV} (h : Val (.slice T) p) : ∃ l : List α, p = .slice (l.map f) ∧ l.length ≤ 9223372036854775807 ∧ ∀ x ∈ l, B x := by
  obtain ⟨l, rfl, h1, h2⟩ := h
  have : ∃ k : List α, l = k.map f ∧ ∀ x ∈ k, B x := by
    clear h1
    induction l with
    | nil => exact ⟨[], rfl, by simp⟩
    | cons x l ih =>
      obtain ⟨k, h3, h4⟩ := ih fun y hy => h2 y (List.mem_cons_of_mem _ hy)
      obtain ⟨y, h5, h6⟩ := hf x (h2 x (List.mem_cons_self ..))
      exact ⟨y :: k, by simp [h3, h5], fun z hz => by
        rcases List.mem_cons.1 hz with rfl | hz
        · exact h6
        · exact h4 z hz⟩
  obtain ⟨k, rfl, h4⟩ := this
  exact ⟨k, rfl, by simpa using h1, h4⟩
end Go.Px
