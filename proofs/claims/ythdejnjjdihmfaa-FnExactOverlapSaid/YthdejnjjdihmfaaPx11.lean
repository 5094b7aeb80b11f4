/-
  PROVED: the rules of the operations, and that they are sound. Over any program. No condition beyond those that each theorem names.
-/
import Derived.Test.YthdejnjjdihmfaaPx10
namespace Go.Px
set_option linter.unusedSimpArgs false
set_option linter.unusedVariables false
open Go.RowKit

/-- Places of the parts of a struct. -/
def fldPlaces (P : Program) (t : TypeId) : Option (List (Nat × Nat)) :=
  match P.underlying t with
  | some (.struct fs) => fs.toList.mapM fun f => (P.info? f.type).map fun i => (f.offset, i.size)
  | _ => none

/-- The kinds of the fields of a struct of numbers, bools and strings: 0: a number; 1: a bool; 2: a string. -/
def flatFs (P : Program) : Nat → List Field → Option (List Nat)
  | _, [] => some []
  | i, f :: fs =>
    if f.name ≠ "_" ∧ f.offset = i then
      match P.underlying f.type with
      | some (.int _) => (flatFs P (i + 1) fs).map (0 :: ·)
      | some .bool => (flatFs P (i + 1) fs).map (1 :: ·)
      | some .string => (flatFs P (i + 1) fs).map (2 :: ·)
      | _ => none
    else none
def flatOf (P : Program) (t : TypeId) : Option (List Nat) :=
  match P.underlying t with
  | some (.struct fs) => if P.stoodInHeld t = false ∧ P.eqGuardType P.depth t = false then flatFs P 0 fs.toList else none
  | _ => none
/-- Equality of two structs of numbers, bools and strings. -/
def eqLit : Nat → PV → PV → Option Bool
  | 0, .lit (.int .i64 a), .lit (.int .i64 b) => some (a == b)
  | 1, .lit (.bool a), .lit (.bool b) => some (a == b)
  | 2, .lit (.string a), .lit (.string b) => some (a == b)
  | _, _, _ => none
def eqLits : List Nat → List PV → List PV → Option Bool
  | [], [], [] => some true
  | k :: ks, x :: xs, y :: ys => match eqLit k x y with
    | some a => match eqLits ks xs ys with
      | some r => some (a && r)
      | none => none
    | none => none
  | _, _, _ => none

theorem eqLits_cons {k : Nat} {ks : List Nat} {cs ds : List PV} {r : Bool} (h : eqLits (k :: ks) cs ds = some r) : ∃ x y xs ys a r', cs = x :: xs ∧ ds = y :: ys ∧ eqLit k x y = some a ∧ eqLits ks xs ys = some r' ∧ r = (a && r') := by
  match cs, ds with
  | [], _ => simp [eqLits] at h
  | _ :: _, [] => simp [eqLits] at h
  | x :: xs, y :: ys =>
    simp only [eqLits] at h
    split at h <;> try cases h
    split at h <;> cases h
    exact ⟨_, _, _, _, _, _, rfl, rfl, by assumption, by assumption, rfl⟩
theorem eqLit_int {x y : PV} {r : Bool} (h : eqLit 0 x y = some r) : ∃ a b : Int, x = .lit (.int .i64 a) ∧ y = .lit (.int .i64 b) ∧ r = (a == b) := by
  unfold eqLit at h
  split at h <;> first | (cases h; done) | (rename_i hk; exact absurd hk (by decide)) | exact ⟨_, _, rfl, rfl, (Option.some.inj h).symm⟩
theorem eqLit_bool {x y : PV} {r : Bool} (h : eqLit 1 x y = some r) : ∃ a b : Bool, x = .lit (.bool a) ∧ y = .lit (.bool b) ∧ r = (a == b) := by
  unfold eqLit at h
  split at h <;> first | (cases h; done) | (rename_i hk; exact absurd hk (by decide)) | exact ⟨_, _, rfl, rfl, (Option.some.inj h).symm⟩
theorem eqLit_string {x y : PV} {r : Bool} (h : eqLit 2 x y = some r) : ∃ a b : ByteArray, x = .lit (.string a) ∧ y = .lit (.string b) ∧ r = (a == b) := by
  unfold eqLit at h
  split at h <;> first | (cases h; done) | (rename_i hk; exact absurd hk (by decide)) | exact ⟨_, _, rfl, rfl, (Option.some.inj h).symm⟩
theorem run_part_lit {P : Program} {w : World} {t : TypeId} {xs : Array Value} {i : Nat} {v : Value} {ds : TypeDesc} (ht : P.underlying t = some ds) (hd : (∃ k, ds = .int k) ∨ ds = .bool ∨ ds = .string) (h : xs[i]? = some v) : (part t xs i).run P w = .ok v w := by
  rcases hd with ⟨k, rfl⟩ | rfl | rfl <;> simp [part, isAgg, run_underlying ht, h]
theorem run_eqFields_flat {P : Program} {w : World} (d : Nat) {xs ys : Array Value} : ∀ (fs : List Field) (i : Nat) (ks : List Nat) (cs ds : List PV) (r : Bool), flatFs P i fs = some ks → eqLits ks cs ds = some r →
    (∀ j v, cs[j]? = some (.lit v) → xs[i + j]? = some v) → (∀ j v, ds[j]? = some (.lit v) → ys[i + j]? = some v) → (Op.eqFields (d + 1) xs ys fs).run P w = .ok r w
  | [], i, ks, cs, ds, r, hf, he, hx, hy => by
    simp only [flatFs, Option.some.injEq] at hf; subst hf
    match cs, ds with
    | [], [] => simp [eqLits] at he; subst he; simp [Op.eqFields]
    | [], _ :: _ => simp [eqLits] at he
    | _ :: _, _ => simp [eqLits] at he
  | f :: fs, i, ks, cs, ds, r, hf, he, hx, hy => by
    simp only [flatFs] at hf
    split at hf <;> rename_i hn
    · obtain ⟨hn1, hn2⟩ := hn
      have hstep : ∀ (u v : Value) (cs' ds' : List PV) (ks' : List Nat) (e r' : Bool), cs = .lit u :: cs' → ds = .lit v :: ds' → flatFs P (i + 1) fs = some ks' → eqLits ks' cs' ds' = some r' → (∃ ty, P.underlying f.type = some ty ∧ ((∃ k, ty = .int k) ∨ ty = .bool ∨ ty = .string)) →
          (Op.equalIn (d + 1) f.type u v).run P w = .ok e w → (Op.eqFields (d + 1) xs ys (f :: fs)).run P w = .ok (e && r') w := by
        intro u v cs' ds' ks' e r' h1 h2 hk he' hty heq
        obtain ⟨ty, hu, hty⟩ := hty
        subst h1; subst h2
        have ih := run_eqFields_flat (w := w) d fs (i + 1) _ _ _ r' hk he' (fun j v hj => by have := hx (j + 1) v (by simpa using hj); rw [← this]; congr 1; omega) (fun j v hj => by have := hy (j + 1) v (by simpa using hj); rw [← this]; congr 1; omega)
        have h1 := hx 0 _ rfl
        have h2 := hy 0 _ rfl
        rw [Nat.add_zero] at h1 h2
        simp only [Op.eqFields, ne_eq, hn1, not_false_eq_true, if_true, hn2, Sem.run_bind]
        rw [run_part_lit hu hty h1, Result.andThen_ok, run_part_lit hu hty h2, Result.andThen_ok, heq, Result.andThen_ok]
        cases e
        · simp
        · simpa using ih
      split at hf
      · rename_i hu
        obtain ⟨ks', hk, rfl⟩ := Option.map_eq_some_iff.1 hf
        obtain ⟨x, y, xs', ys', e, r', h1, h2, hl, h3, rfl⟩ := eqLits_cons he
        obtain ⟨a, b, rfl, rfl, rfl⟩ := eqLit_int hl
        exact hstep _ _ _ _ _ _ _ h1 h2 hk h3 ⟨_, hu, .inl ⟨_, rfl⟩⟩ (run_equalIn_int w d _ _ _ _ _ hu)
      · rename_i hu
        obtain ⟨ks', hk, rfl⟩ := Option.map_eq_some_iff.1 hf
        obtain ⟨x, y, xs', ys', e, r', h1, h2, hl, h3, rfl⟩ := eqLits_cons he
        obtain ⟨a, b, rfl, rfl, rfl⟩ := eqLit_bool hl
        exact hstep _ _ _ _ _ _ _ h1 h2 hk h3 ⟨_, hu, .inr (.inl rfl)⟩ (run_equalIn_bool' w d _ _ _ hu)
      · rename_i hu
        obtain ⟨ks', hk, rfl⟩ := Option.map_eq_some_iff.1 hf
        obtain ⟨x, y, xs', ys', e, r', h1, h2, hl, h3, rfl⟩ := eqLits_cons he
        obtain ⟨a, b, rfl, rfl, rfl⟩ := eqLit_string hl
        exact hstep _ _ _ _ _ _ _ h1 h2 hk h3 ⟨_, hu, .inr (.inr rfl)⟩ (by rw [beq_toListBytes]; exact run_equalIn_string w d _ _ _ hu)
      · cases hf
    · cases hf
theorem run_eqAgg {P : Program} {w : World} {t : TypeId} {x y : Operand} {ks : List Nat} {cs ds : List PV} {r : Bool} {xs ys : Array Value} (hf : flatOf P t = some ks) (he : eqLits ks cs ds = some r)
    (hx : ∀ (j : Nat) v, cs[j]? = some (.lit v) → xs[j]? = some v) (hy : ∀ (j : Nat) v, ds[j]? = some (.lit v) → ys[j]? = some v) :
    (do eqGuard .eql t x y (.agg xs) (.agg ys); binOp .eql t (.agg xs) (.agg ys) : Sem Value).run P w = .ok (.bool r) w ∧ (do eqGuard .neq t x y (.agg xs) (.agg ys); binOp .neq t (.agg xs) (.agg ys) : Sem Value).run P w = .ok (.bool (!r)) w := by
  unfold flatOf at hf
  split at hf <;> try cases hf
  rename_i fs hu
  split at hf <;> try cases hf
  rename_i hg
  have hfs : P.fieldsOf t = fs := by simp [Program.fieldsOf, hu]
  have h1 : (Op.equalIn 10000 t (.agg xs) (.agg ys)).run P w = .ok r w := by
    rw [run_equalIn_struct w 9999 t xs ys (by rw [hfs]; exact hu) hg.1, hfs]
    exact run_eqFields_flat 9998 fs.toList 0 ks cs ds r hf he (fun j v hj => by rw [Nat.zero_add]; exact hx j v hj) (fun j v hj => by rw [Nat.zero_add]; exact hy j v hj)
  constructor
  · rw [Sem.run_bind, run_eqGuard_agg w .eql t x y xs ys hg.2, Result.andThen_ok, run_eql_struct, h1]; rfl
  · rw [Sem.run_bind, run_eqGuard_agg w .neq t x y xs ys hg.2, Result.andThen_ok, run_neq_struct, h1]; rfl

def isPtr : PV → Bool
  | .lptr _ _ => true | .cptr _ _ => true | _ => false

/-- The steps of a pure state: the operation, the slot that it writes, what it yields, the names that it turns, the names that it reads. -/
inductive AOp (P : Program) (σ : Operand → PV) (m : Nat → PV) (d : Nat) : Op → PV → List (Nat × PV) → List Nat → Prop where
  | move (x : Operand) (v : PV) (hv : σ x = v) : AOp P σ m d (.move x) v [] []
  | assign (x : Operand) (v : PV) (hv : σ x = v) : AOp P σ m d (.assign x) v [] []
  | pick (c x y : Operand) (b : Bool) (v : PV) (hc : σ c = .lit (.bool b)) (hv : (if b then σ x else σ y) = v) : AOp P σ m d (.pick c x y) v [] []
  | bin (op : BinOp) (t t' : TypeId) (x y : Operand) (p q v : PV) (hx : σ x = p) (hy : σ y = q) (hk : sameKind p q = true) (hv : binPV op p q = some v)
      (hs : ∀ b c, p = .lit (.string b) → q = .lit (.string c) → op = .add → b.size + c.size ≤ 9223372036854775807) : AOp P σ m d (.binOp op t x y t') v [] []
  | neqErr (t t' : TypeId) (x : Operand) (ms : Array (String × TypeId)) (ht : P.underlying t = some (.interface ms)) (hx : σ x = .err) : AOp P σ m d (.binOp .neq t x (.const .nilIface) t') (.lit (.bool true)) [] []
  | neqNil (t t' : TypeId) (x : Operand) (ms : Array (String × TypeId)) (ht : P.underlying t = some (.interface ms)) (hx : σ x = .lit .nilIface) : AOp P σ m d (.binOp .neq t x (.const .nilIface) t') (.lit (.bool false)) [] []
  | eqlAgg (t t' : TypeId) (x y : Operand) (ks : List Nat) (cs ds : List PV) (r : Bool) (hf : flatOf P t = some ks) (hx : σ x = .agg cs) (hy : σ y = .agg ds) (he : eqLits ks cs ds = some r) : AOp P σ m d (.binOp .eql t x y t') (.lit (.bool r)) [] []
  | neqAgg (t t' : TypeId) (x y : Operand) (ks : List Nat) (cs ds : List PV) (r : Bool) (hf : flatOf P t = some ks) (hx : σ x = .agg cs) (hy : σ y = .agg ds) (he : eqLits ks cs ds = some r) : AOp P σ m d (.binOp .neq t x y t') (.lit (.bool (!r))) [] []
  | eqlNilS (t t' : TypeId) (x : Operand) (e sz by' : Nat) (p : PV) (l : List PV) (R : List Nat) (ht : eltOf P t = some (e, sz, by')) (hx : σ x = p) (hl : Lst m p l R) (h0 : l ≠ [] ∨ p = .nils) : AOp P σ m d (.binOp .eql t x (.const (.slice none 0 0)) t') (.lit (.bool l.isEmpty)) [] R
  | neqNilS (t t' : TypeId) (x : Operand) (e sz by' : Nat) (p : PV) (l : List PV) (R : List Nat) (ht : eltOf P t = some (e, sz, by')) (hx : σ x = p) (hl : Lst m p l R) (h0 : l ≠ [] ∨ p = .nils) : AOp P σ m d (.binOp .neq t x (.const (.slice none 0 0)) t') (.lit (.bool (!l.isEmpty))) [] R
  | un (op : UnOp) (t : TypeId) (x : Operand) (p v : PV) (hx : σ x = p) (hv : unPV op p = some v) : AOp P σ m d (.unOp op t x) v [] []
  | conv (t t' : TypeId) (x : Operand) (k k' : IntKind) (n : Int) (ht : P.underlying t' = some (.int k')) (hs : (P.underlying t).isSome = true) (hx : σ x = .lit (.int k n)) : AOp P σ m d (.convert t t' x) (.lit (.int k' (k'.wrap n))) [] []
  | load_l (t : TypeId) (x : Operand) (g : Bool) (sz n off : Nat) (y : Bool) (cs : List PV) (v : PV) (ht : shp P t = some (g, sz)) (hg : g = true ∨ sz = 1) (hx : σ x = .lptr n off) (hm : m n = .blk y cs) (hv : loadPV g sz off cs = some v) : AOp P σ m d (.load t x) v [] [n]
  | load_c (t : TypeId) (x : Operand) (g : Bool) (sz off : Nat) (cs : List PV) (v : PV) (ht : shp P t = some (g, sz)) (hg : g = true ∨ sz = 1) (hx : σ x = .cptr cs off) (hv : loadPV g sz off cs = some v) : AOp P σ m d (.load t x) v [] []
  | load_e (t : TypeId) (x : Operand) (g : Bool) (sz n k i off : Nat) (y : Bool) (e sz' : Nat) (l : List PV) (el v : PV) (ht : shp P t = some (g, sz)) (hg : g = true ∨ sz = 1) (hx : σ x = .eptr n k i off) (hm : m n = .obj y e sz' l) (hk : k = l.length) (hi : l[i]? = some el)
      (hv : loadPV g sz off el.cells = some v) : AOp P σ m d (.load t x) v [] [n]
  | store_l (t : TypeId) (x y : Operand) (g : Bool) (sz n off : Nat) (cs : List PV) (p : PV) (ht : shp P t = some (g, sz)) (hx : σ x = .lptr n off) (hm : m n = .blk true cs) (hy : σ y = p) (hc : Cur m p) (hsz : p.cells.length = sz) (hfit : off + sz ≤ cs.length) (R : List Nat) (hR : ∀ j k, p = .own j k → j ∈ R) :
      AOp P σ m d (.store t x y) .undef [(n, .blk true (cs.take off ++ p.cells ++ cs.drop (off + sz)))] (n :: R)
  | store_e (t : TypeId) (x y : Operand) (g : Bool) (sz n k i off e sz' : Nat) (l : List PV) (el p p' : PV) (R : List Nat) (ht : shp P t = some (g, sz)) (h0 : 0 < sz) (hx : σ x = .eptr n k i off) (hm : m n = .obj true e sz' l) (hk : k = l.length) (hi : l[i]? = some el) (hy : σ y = p)
      (hp : PurL m [p] [p'] R) (hsz : p'.cells.length = sz) (hfit : off + sz ≤ sz') : AOp P σ m d (.store t x y) .undef [(n, .obj true e sz' (l.set i (setEl el off p')))] (n :: R)
  | nilChk (x : Operand) (v : PV) (hx : σ x = v) (hp : isPtr v = true) : AOp P σ m d (.nilCheck x) v [] []
  | alloc (t : TypeId) (z : List PV) (hz : zeroPV P t = some z) (hm : m (64 * d) = .undef) : AOp P σ m d (.alloc t) (.lptr (64 * d) 0) [(64 * d, .blk true z)] [64 * d]
  | box (t : TypeId) (x : Operand) (p : PV) (R : List Nat) (hx : σ x = p) (hc : Cur m p) (hm : m (64 * d) = .undef) (hR : ∀ j k, p = .own j k → j ∈ R) : AOp P σ m d (.box t x) (.lptr (64 * d) 0) [(64 * d, .blk true p.cells)] (64 * d :: R)
  | build (t : TypeId) (parts : Array (Nat × Operand)) (z cs : List PV) (pl : List (Nat × Nat)) (ps : List PV) (R : List Nat) (hz : zeroPV P t = some z) (hpl : fldPlaces P t = some pl) (hps : parts.toList.map (fun x => σ x.2) = ps) (hc : ∀ p ∈ ps, Cur m p)
      (hR : ∀ p ∈ ps, ∀ j k, p = .own j k → j ∈ R) (hcs : fillPV (fun i => pl[i]?) z ((parts.toList.map (·.1)).zip ps) = some cs) : AOp P σ m d (.build t parts) (.agg cs) [] R
  | buildArr (t : TypeId) (parts : Array (Nat × Operand)) (z cs : List PV) (n sz : Nat) (ps : List PV) (R : List Nat) (hz : zeroPV P t = some z) (ha : arrOf P t = some (n, sz)) (hps : parts.toList.map (fun x => σ x.2) = ps) (hc : ∀ p ∈ ps, Cur m p)
      (hR : ∀ p ∈ ps, ∀ j k, p = .own j k → j ∈ R) (hcs : fillPV (fun i => some (i * sz, sz)) z ((parts.toList.map (·.1)).zip ps) = some cs) : AOp P σ m d (.build t parts) (.agg cs) [] R
  | buildSlice (y : Bool) (t len : Nat) (parts : Array (Nat × Operand)) (e sz by' : Nat) (ps ps' : List PV) (R : List Nat) (ht : eltOf P t = some (e, sz, by')) (hsz0 : 0 < sz) (hlen : len * sz ≤ 65536) (hz : (zeroPV P e).isSome = true) (hzl : ∀ z, zeroPV P e = some z → z.length = sz) (hidx : parts.toList.map (·.1) = List.range len)
      (hps : parts.toList.map (fun x => σ x.2) = ps) (hp : PurL m ps ps' R) (hsz : ∀ p ∈ ps', p.cells.length = sz) (hm : m (64 * d) = .undef) :
      AOp P σ m d (.buildSlice t len parts) (.own (64 * d) ps'.length) [(64 * d, .obj y e sz ps')] (64 * d :: R)
  | makeSlice (t : TypeId) (x y : Operand) (e sz by' : Nat) (z : List PV) (el : PV) (k k' : IntKind) (n : Int) (ht : eltOf P t = some (e, sz, by')) (hsz0 : 0 < sz) (hz : zeroPV P e = some z) (hel : el.cells = z) (hzl : z.length = sz) (hp : ∀ c ∈ z, c.plain = true) (hx : σ x = .lit (.int k n)) (hy : σ y = .lit (.int k' n))
      (h0 : 0 ≤ n) (hn : n ≤ 1099511627776) (hb : by' ≤ 128) (hm : m (64 * d) = .undef) : AOp P σ m d (.makeSlice t x y) (.own (64 * d) n.toNat) [(64 * d, .obj true e sz (List.replicate n.toNat el))] [64 * d]
  | makeFunc (f : FuncId) (caps : Array Operand) (ps ps' : List PV) (R : List Nat) (hps : caps.toList.map σ = ps) (hp : PurL m ps ps' R) : AOp P σ m d (.makeFunc (.func f) #[] caps) (.fn f ps') [] R
  | fieldAddr_l (t : TypeId) (x : Operand) (f n off o' : Nat) (ht : fldOff P t f = some o') (hx : σ x = .lptr n off) : AOp P σ m d (.fieldAddr t x f) (.lptr n (off + o')) [] []
  | fieldAddr_c (t : TypeId) (x : Operand) (f off o' : Nat) (cs : List PV) (ht : fldOff P t f = some o') (hx : σ x = .cptr cs off) : AOp P σ m d (.fieldAddr t x f) (.cptr cs (off + o')) [] []
  | fieldAddr_e (t : TypeId) (x : Operand) (f n k i off o' : Nat) (y : Bool) (e sz : Nat) (l : List PV) (ht : fldOff P t f = some o') (hx : σ x = .eptr n k i off) (hm : m n = .obj y e sz l) (hk : k = l.length) : AOp P σ m d (.fieldAddr t x f) (.eptr n k i (off + o')) [] [n]
  | field (t : TypeId) (x : Operand) (f : Nat) (cs : List PV) (pl : List (Nat × Nat)) (o' sz : Nat) (g : Bool) (ft : TypeId) (v : PV) (ht : (match P.underlying t with | some (.struct fs) => (fs[f]?).map (fun f => (f.type, f.offset)) | _ => none) = some (ft, o')) (hs : shp P ft = some (g, sz)) (hg : g = true ∨ sz = 1)
      (hx : σ x = .agg cs) (hv : loadPV g sz o' cs = some v) : AOp P σ m d (.field t x f) v [] []
  | indexAddr_s (t : TypeId) (x y : Operand) (e sz by' : Nat) (l : List PV) (k : IntKind) (i : Int) (el : PV) (ht : eltOf P t = some (e, sz, by')) (hx : σ x = .slice l) (hy : σ y = .lit (.int k i)) (h0 : 0 ≤ i) (hi : l[i.toNat]? = some el) (hsz : el.cells.length = sz) :
      AOp P σ m d (.indexAddr t x y) (.cptr el.cells 0) [] []
  | indexAddr_o (t : TypeId) (x y : Operand) (e sz by' n k' : Nat) (l : List PV) (k : IntKind) (i : Int) (el : PV) (ht : eltOf P t = some (e, sz, by')) (hx : σ x = .own n k') (hm : m n = .obj false e sz l) (hk : k' = l.length) (hy : σ y = .lit (.int k i)) (h0 : 0 ≤ i) (hi : l[i.toNat]? = some el) :
      AOp P σ m d (.indexAddr t x y) (.cptr el.cells 0) [] [n]
  | indexAddr_x (t : TypeId) (x y : Operand) (e sz by' n k' : Nat) (b : Bool) (l : List PV) (k : IntKind) (i : Int) (ht : eltOf P t = some (e, sz, by')) (hx : σ x = .own n k') (hm : m n = .obj b e sz l) (hk : k' = l.length) (hy : σ y = .lit (.int k i)) (h0 : 0 ≤ i) (hi : i < l.length) :
      AOp P σ m d (.indexAddr t x y) (.eptr n k' i.toNat 0) [] [n]
  | indexAddr_a (t : TypeId) (x y : Operand) (len sz n off : Nat) (k : IntKind) (i : Int) (ht : arrOf P t = some (len, sz)) (hx : σ x = .lptr n off) (hy : σ y = .lit (.int k i)) (h0 : 0 ≤ i) (hi : i < len) : AOp P σ m d (.indexAddr t x y) (.lptr n (off + i.toNat * sz)) [] []
  | indexStr (t : TypeId) (x y : Operand) (b : ByteArray) (k : IntKind) (i : Int) (u : UInt8) (ht : P.underlying t = some .string) (hx : σ x = .lit (.string b)) (hy : σ y = .lit (.int k i)) (h0 : 0 ≤ i) (hi : b[i.toNat]? = some u) : AOp P σ m d (.index t x y) (.lit (.int .u8 u.toNat)) [] []
  | extract (x : Operand) (i : Nat) (vs : List PV) (v : PV) (hx : σ x = .tuple vs) (hv : vs[i]? = some v) : AOp P σ m d (.extract x i) v [] []
  | lenStr (t : TypeId) (x : Operand) (b : ByteArray) (ht : P.underlying t = some .string) (hx : σ x = .lit (.string b)) : AOp P σ m d (.call { callee := .builtin .len, args := #[x], argTypes := #[t] }) (.lit (.int .i64 b.size)) [] []
  | lenLst (t : TypeId) (x : Operand) (p : PV) (l : List PV) (R : List Nat) (e sz by' : Nat) (ht : eltOf P t = some (e, sz, by')) (hx : σ x = p) (hl : Lst m p l R) : AOp P σ m d (.call { callee := .builtin .len, args := #[x], argTypes := #[t] }) (.lit (.int .i64 l.length)) [] R
  | append (t : TypeId) (x y : Operand) (n k : Nat) (b : Bool) (e sz by' : Nat) (l lb : List PV) (z : List PV) (q : PV) (R : List Nat) (ht : eltOf P t = some (e, sz, by')) (hz : zeroPV P e = some z) (hzl : z.length = sz) (hx : σ x = .own n k) (hm : m n = .obj b e sz l) (hk : k = l.length) (hy : σ y = q)
      (hq : Lst m q lb R) (hlb : ∀ e ∈ lb, e.cells.length = sz) (hb : by' ≤ 128) (hn : l.length + lb.length ≤ 1099511627776) : AOp P σ m d (.call { callee := .builtin .append, args := #[x, y], argTypes := #[t, t] }) (.own n (l.length + lb.length)) [(n, .obj b e sz (l ++ lb))] (n :: R)
  | appendNil (b : Bool) (t : TypeId) (x y : Operand) (e sz by' : Nat) (lb : List PV) (z : List PV) (q : PV) (R : List Nat) (ht : eltOf P t = some (e, sz, by')) (hsz : 0 < sz) (hz : zeroPV P e = some z) (hzl : z.length = sz) (hx : σ x = .nils) (hy : σ y = q)
      (hq : Lst m q lb R) (hlb : ∀ e ∈ lb, e.cells.length = sz) (hb : by' ≤ 128) (hn : lb.length ≤ 1099511627776) (hm : m (64 * d) = .undef) :
      AOp P σ m d (.call { callee := .builtin .append, args := #[x, y], argTypes := #[t, t] }) (.own (64 * d) lb.length) [(64 * d, .obj b e sz lb)] (64 * d :: R)
  | max2 (t t' : TypeId) (x y : Operand) (k : IntKind) (a b : Int) (hx : σ x = .lit (.int k a)) (hy : σ y = .lit (.int k b)) : AOp P σ m d (.call { callee := .builtin .max, args := #[x, y], argTypes := #[t, t'] }) (.lit (.int k (max a b))) [] []
  | min2 (t t' : TypeId) (x y : Operand) (k : IntKind) (a b : Int) (hx : σ x = .lit (.int k a)) (hy : σ y = .lit (.int k b)) : AOp P σ m d (.call { callee := .builtin .min, args := #[x, y], argTypes := #[t, t'] }) (.lit (.int k (min a b))) [] []
  | sliceStr (t : TypeId) (x : Operand) (b : ByteArray) (lo hi : Option Operand) (i j : Int) (ht : P.underlying t = some .string) (hx : σ x = .lit (.string b)) (hlo : (match lo with | some o => ∃ k, σ o = .lit (.int k i) | none => i = 0)) (hhi : (match hi with | some o => ∃ k, σ o = .lit (.int k j) | none => j = b.size))
      (h0 : 0 ≤ i) (h1 : i ≤ j) (h2 : j ≤ b.size) : AOp P σ m d (.slice t x lo hi none) (.lit (.string (b.extract i.toNat j.toNat))) [] []
  | sliceS (t : TypeId) (x : Operand) (l : List PV) (lo hi : Option Operand) (e sz by' : Nat) (i j : Int) (ht : eltOf P t = some (e, sz, by')) (hsz : ∀ e ∈ l, e.cells.length = sz) (hx : σ x = .slice l) (hlo : (match lo with | some o => ∃ k, σ o = .lit (.int k i) | none => i = 0)) (hhi : (match hi with | some o => ∃ k, σ o = .lit (.int k j) | none => j = l.length))
      (h0 : 0 ≤ i) (h1 : i ≤ j) (h2 : j ≤ l.length) : AOp P σ m d (.slice t x lo hi none) (.slice ((l.take j.toNat).drop i.toNat)) [] []
  | sliceO (t : TypeId) (x : Operand) (n k : Nat) (l : List PV) (lo hi : Option Operand) (e sz by' : Nat) (i j : Int) (ht : eltOf P t = some (e, sz, by')) (hx : σ x = .own n k) (hm : m n = .obj false e sz l) (hk : k = l.length) (hlo : (match lo with | some o => ∃ k, σ o = .lit (.int k i) | none => i = 0)) (hhi : (match hi with | some o => ∃ k, σ o = .lit (.int k j) | none => j = l.length))
      (h0 : 0 ≤ i) (h1 : i ≤ j) (h2 : j ≤ l.length) : AOp P σ m d (.slice t x lo hi none) (.slice ((l.take j.toNat).drop i.toNat)) [] [n]

def upds (m : Nat → PV) : List (Nat × PV) → Nat → PV
  | [] => m
  | (n, p) :: U => upds (upd m n p) U

section
variable {P : Program} {N : Nat} {w0 w w' : World} {pub pub' : Nat → Nat → Prop} {V : Nat → Value} {s : St} {a : Act}

theorem foldl_set (off : Nat) : ∀ (L : List Value) (j0 : Nat) (arr : Array Value), off + j0 + L.length ≤ arr.size →
    ((L.zipIdx j0).foldl (fun (cs : Array Value) (p : Value × Nat) => cs.setIfInBounds (off + p.2) p.1) arr).toList = arr.toList.take (off + j0) ++ L ++ arr.toList.drop (off + j0 + L.length)
  | [], j0, arr, h => by simp
  | v :: L, j0, arr, h => by
    have hlt : off + j0 < arr.size := by simp at h; omega
    rw [List.zipIdx_cons, List.foldl_cons, foldl_set off L (j0 + 1) (arr.setIfInBounds (off + j0) v) (by simp at h ⊢; omega)]
    apply List.ext_getElem?
    intro k
    have hl : (arr.setIfInBounds (off + j0) v).toList = arr.toList.set (off + j0) v := by simp
    rw [hl]
    have s1 := splice_get (arr.toList.set (off + j0) v) L (off + (j0 + 1)) k (by simp at h ⊢; omega)
    have s2 := splice_get arr.toList (v :: L) (off + j0) k (by simp at h ⊢; omega)
    rw [s1, s2]
    by_cases h1 : k < off + j0
    · rw [if_pos (by omega), if_pos h1, List.getElem?_set_ne (by omega)]
    · rw [if_neg h1]
      by_cases h2 : k = off + j0
      · subst h2
        rw [if_pos (by omega), if_pos (by simp), List.getElem?_set_self (by simpa using hlt)]; simp
      · rw [if_neg (by omega)]
        by_cases h3 : k < off + (j0 + 1) + L.length
        · rw [if_pos h3, if_pos (by simp; omega)]
          rw [show k - (off + j0) = (k - (off + (j0 + 1))) + 1 by omega]; simp
        · rw [if_neg h3, if_neg (by simp; omega), List.getElem?_set_ne (by omega)]

/-- Cells that are as pure cells say. -/
def CellsOk (Q : PV → Value → Prop) (cs : List PV) (arr : Array Value) : Prop := arr.size = cs.length ∧ ∀ (j : Nat) c, cs[j]? = some c → Q c (arr.getD j Go.undef)

theorem fill_sound {Q : PV → Value → Prop} {place : Nat → Option (Nat × Nat)} : ∀ (parts : List (Nat × Value)) (pps : List (Nat × PV)) (arr : Array Value) (cs cs' : List PV), parts.map (·.1) = pps.map (·.1) →
    (∀ (k : Nat) iv ip, parts[k]? = some iv → pps[k]? = some ip → CellsOk Q ip.2.cells iv.2.cells) → CellsOk Q cs arr → fillPV place cs pps = some cs' → ∃ arr', Instr.fill place arr parts = some arr' ∧ CellsOk Q cs' arr'
  | [], [], arr, cs, cs', _, _, hc, hf => by simp [fillPV] at hf; subst hf; exact ⟨arr, rfl, hc⟩
  | [], _ :: _, _, _, _, h, _, _, _ => by simp at h
  | _ :: _, [], _, _, _, h, _, _, _ => by simp at h
  | (i, v) :: parts, (i', p) :: pps, arr, cs, cs', h, hp, hc, hf => by
    simp only [List.map_cons, List.cons.injEq] at h
    obtain ⟨rfl, h⟩ := h
    have h0 := hp 0 _ _ rfl rfl
    simp only [fillPV] at hf
    simp only [Instr.fill]
    cases hpl : place i with
    | none => rw [hpl] at hf; cases hf
    | some os =>
      obtain ⟨off, size⟩ := os
      rw [hpl] at hf
      simp only at hf ⊢
      split at hf <;> try cases hf
      rename_i hcond
      obtain ⟨hc1, hc2⟩ := hcond
      have hv : v.cells.size = size := h0.1.trans hc1
      have hn : ¬ (v.cells.size ≠ size ∨ off + v.cells.size > arr.size) := by rw [hc.1]; omega
      have hn' : (decide (v.cells.size ≠ size) || decide (off + v.cells.size > arr.size)) = false := by simp at hn ⊢; omega
      have hnew : CellsOk Q (cs.take off ++ p.cells ++ cs.drop (off + size)) (v.cells.zipIdx.foldl (fun cs (p : Value × Nat) => cs.setIfInBounds (off + p.2) p.1) arr) := by
        have hfold := foldl_set off v.cells.toList 0 arr (by simp at hn ⊢; omega)
        have hfa : (v.cells.zipIdx.foldl (fun cs (p : Value × Nat) => cs.setIfInBounds (off + p.2) p.1) arr) = ((v.cells.toList.zipIdx 0).foldl (fun (cs : Array Value) (p : Value × Nat) => cs.setIfInBounds (off + p.2) p.1) arr) := by
          rw [← Array.foldl_toList]; simp
        have hsz2 := hc.1
        have hlen : (v.cells.zipIdx.foldl (fun cs (p : Value × Nat) => cs.setIfInBounds (off + p.2) p.1) arr).toList = arr.toList.take off ++ v.cells.toList ++ arr.toList.drop (off + v.cells.toList.length) := by rw [hfa, hfold]; simp
        refine ⟨?_, fun j c hj => ?_⟩
        · have := congrArg List.length hlen
          simp only [Array.length_toList, List.length_append, List.length_take, List.length_drop] at this ⊢
          omega
        · have s1 := splice_get arr.toList v.cells.toList off j (by simp; omega)
          have s2 := splice_get cs p.cells off j (by omega)
          rw [hc1] at s2
          rw [s2] at hj
          have hget : ∀ (A : Array Value), A.getD j Go.undef = (A.toList[j]?).getD Go.undef := fun A => by simp
          rw [hget, hlen, s1]
          have hvl : v.cells.toList.length = size := by simpa using hv
          by_cases h1 : j < off
          · rw [if_pos h1] at hj ⊢
            simpa using hc.2 j c hj
          · rw [if_neg h1] at hj ⊢
            by_cases h2 : j < off + size
            · rw [if_pos h2] at hj
              rw [if_pos (by omega)]
              simpa using h0.2 (j - off) c hj
            · rw [if_neg h2] at hj
              rw [if_neg (by omega)]
              simpa using hc.2 j c hj
      obtain ⟨arr', h1, h2⟩ := fill_sound parts pps _ _ cs' h (fun k iv ip h1 h2 => hp (k + 1) iv ip (by simpa using h1) (by simpa using h2)) hnew hf
      refine ⟨arr', ?_, h2⟩
      rw [if_neg (by simpa using hn)]; exact h1

theorem fillPV_seq {sz : Nat} : ∀ (ps : List PV) (k : Nat) (cs : List PV), (∀ p ∈ ps, p.cells.length = sz) → (k + ps.length) * sz ≤ cs.length →
    fillPV (fun i => some (i * sz, sz)) cs ((List.range' k ps.length).zip ps) = some (cs.take (k * sz) ++ flat ps ++ cs.drop ((k + ps.length) * sz))
  | [], k, cs, _, _ => by simp [fillPV]
  | p :: ps, k, cs, h, hle => by
    have hp := h p (List.mem_cons_self ..)
    have hle' : (k + 1 + ps.length) * sz ≤ cs.length := by rw [List.length_cons] at hle; rw [show k + 1 + ps.length = k + (ps.length + 1) by omega]; exact hle
    have h1 : (k + 1) * sz ≤ (k + 1 + ps.length) * sz := Nat.mul_le_mul_right _ (by omega)
    rw [Nat.add_mul, Nat.one_mul] at h1
    simp only [List.length_cons, List.range'_succ, List.zip_cons_cons, fillPV]
    rw [if_pos ⟨hp, by omega⟩]
    have hl : (cs.take (k * sz) ++ p.cells ++ cs.drop (k * sz + sz)).length = cs.length := by simp; omega
    rw [fillPV_seq ps (k + 1) _ (fun q hq => h q (List.mem_cons_of_mem _ hq)) (by rw [hl]; exact hle')]
    have ht : (cs.take (k * sz) ++ p.cells ++ cs.drop (k * sz + sz)).take ((k + 1) * sz) = cs.take (k * sz) ++ p.cells := by
      rw [Nat.add_mul, Nat.one_mul, List.take_append_of_le_length (by simp; omega), List.take_of_length_le (by simp; omega)]
    have hd : (cs.take (k * sz) ++ p.cells ++ cs.drop (k * sz + sz)).drop ((k + 1 + ps.length) * sz) = cs.drop ((k + (ps.length + 1)) * sz) := by
      rw [List.drop_append, List.drop_eq_nil_of_le (by simp; omega), List.nil_append, List.drop_drop]
      congr 1
      simp only [List.length_append, List.length_take]
      rw [show k + (ps.length + 1) = k + 1 + ps.length by omega]
      omega
    rw [ht, hd]; simp

theorem Rep.cells_of {p : PV} {v : Value} (h : Rep pub w p v) (hp : ∀ vs, p ≠ .tuple vs) : v.cells.size = p.cells.length ∧ ∀ (j : Nat) c, p.cells[j]? = some c → (v.cells.getD j Go.undef).oneCell' = true ∧ Rep pub w c (v.cells.getD j Go.undef) := by
  have one : ∀ {q : PV} {u : Value}, Rep pub w q u → u.oneCell' = true → q.cells = [q] → u.cells.size = q.cells.length ∧ ∀ (j : Nat) c, q.cells[j]? = some c → (u.cells.getD j Go.undef).oneCell' = true ∧ Rep pub w c (u.cells.getD j Go.undef) := by
    intro q u hq h1 hcells
    have hu : u.cells = #[u] := by cases u <;> first | rfl | cases h1
    rw [hu, hcells]
    refine ⟨rfl, fun j c hj => ?_⟩
    have hj0 : j = 0 := by have := (List.getElem?_eq_some_iff.1 hj).1; simpa using this
    subst hj0; simp at hj; subst hj; exact ⟨h1, hq⟩
  cases h with
  | agg cs arr hs hd hc => exact ⟨hs, fun j c hj => ⟨hd j c hj, hc j c hj⟩⟩
  | tuple cs arr hs hc => exact absurd rfl (hp cs)
  | lit v h => exact one (.lit v h) h rfl
  | err t v => exact one (.err t v) rfl rfl
  | nils => exact one .nils rfl rfl
  | slice0 ad cap => exact one (.slice0 ad cap) rfl rfl
  | slice b o cap sz l W h1 h2 h3 h4 => exact one (.slice b o cap sz l W h1 h2 h3 h4) rfl rfl
  | fn f cs arr hs hc => exact one (.fn f cs arr hs hc) rfl rfl
  | cptr b o off cs W h1 h2 => exact one (.cptr b o off cs W h1 h2) rfl rfl

theorem PurL.not_tuple {m : Nat → PV} {ps ps' : List PV} {R : List Nat} (h : PurL m ps ps' R) : ∀ p ∈ ps', ∀ vs, p ≠ .tuple vs := by
  induction h with
  | nil => intro p hp; cases hp
  | plain q ps ps' R hq _ ih =>
    intro p hp vs e
    rcases List.mem_cons.1 hp with h | h
    · subst h; subst e; cases hq
    · exact ih p h vs e
  | own n k e sz l ps ps' R hm hk _ ih =>
    intro p hp vs e
    rcases List.mem_cons.1 hp with h | h
    · subst h; cases e
    · exact ih p h vs e
  | lptr n off cs ps ps' R hm _ ih =>
    intro p hp vs e
    rcases List.mem_cons.1 hp with h | h
    · subst h; cases e
    · exact ih p h vs e
  | agg cs cs' ps ps' R R' _ _ _ ih =>
    intro p hp vs e
    rcases List.mem_cons.1 hp with h | h
    · subst h; cases e
    · exact ih p h vs e

theorem Rel0.at_op (h : Rel0 N w0 pub V s a w) (l : List Operand) : ∀ (i : Nat) p, (l.map s.ev)[i]? = some p → ∃ x, l[i]? = some x ∧ RV pub w V s.mem p (a.eval x) := by
  intro i p hp
  simp only [List.getElem?_map, Option.map_eq_some_iff] at hp
  obtain ⟨x, hx, rfl⟩ := hp
  exact ⟨x, hx, h.ev x⟩

theorem flat_take {sz : Nat} : ∀ {l : List PV}, (∀ e ∈ l, e.cells.length = sz) → ∀ n, flat (l.take n) = (flat l).take (n * sz)
  | [], _, n => by simp
  | x :: l, h, 0 => by simp
  | x :: l, h, n + 1 => by
    have hx := h x (List.mem_cons_self ..)
    have ih := flat_take (fun e he => h e (List.mem_cons_of_mem _ he)) n
    have t1 : (x.cells ++ flat l).take (n * sz + sz) = x.cells ++ (flat l).take (n * sz) := by
      rw [List.take_append, List.take_of_length_le (by omega)]; congr 2; omega
    rw [List.take_succ_cons, flat_cons, flat_cons, ih, Nat.add_mul, Nat.one_mul, t1]
theorem flat_drop {sz : Nat} : ∀ {l : List PV}, (∀ e ∈ l, e.cells.length = sz) → ∀ n, flat (l.drop n) = (flat l).drop (n * sz)
  | [], _, n => by simp
  | x :: l, h, 0 => by simp
  | x :: l, h, n + 1 => by
    have hx := h x (List.mem_cons_self ..)
    have ih := flat_drop (fun e he => h e (List.mem_cons_of_mem _ he)) n
    have t2 : (x.cells ++ flat l).drop (n * sz + sz) = (flat l).drop (n * sz) := by
      rw [List.drop_append, List.drop_eq_nil_of_le (by omega), List.nil_append]; congr 1; omega
    rw [List.drop_succ_cons, flat_cons, ih, Nat.add_mul, Nat.one_mul, t2]

theorem run_bounds {isS : Bool} {len cap : Nat} {lo hi : Option Value} {i j : Int} (hlo : (match lo with | some o => ∃ k, o = .int k i | none => i = 0)) (hhi : (match hi with | some o => ∃ k, o = .int k j | none => j = len)) (h0 : 0 ≤ i) (h1 : i ≤ j) (h2 : j ≤ cap) :
    (Instr.sliceBounds isS len cap lo hi none).run P w = .ok (i.toNat, j.toNat, cap) w := by
  cases lo with
  | none =>
    cases hi with
    | none => simp only at hlo hhi; subst hlo; subst hhi; simp [Instr.sliceBounds]
    | some o => obtain ⟨k, rfl⟩ := hhi; simp only at hlo; subst hlo; simp [Instr.sliceBounds, Instr.sliceBound, asIntOf, h2, show 0 ≤ j by omega]
  | some o =>
    obtain ⟨k, rfl⟩ := hlo
    cases hi with
    | none => simp only at hhi; subst hhi; simp [Instr.sliceBounds, Instr.sliceBound, asIntOf, h0, h1]
    | some o => obtain ⟨k', rfl⟩ := hhi; simp [Instr.sliceBounds, Instr.sliceBound, asIntOf, h0, h2, show 0 ≤ j by omega, show ¬ max j 0 < i by omega]

theorem operand_int (h : Rel0 N w0 pub V s a w) {lo : Option Operand} {i : Int} {n : Int} (hlo : (match lo with | some o => ∃ k, s.ev o = .lit (.int k i) | none => i = n)) : (match lo.map a.eval with | some o => ∃ k, o = Value.int k i | none => i = n) := by
  cases lo with
  | none => exact hlo
  | some o => obtain ⟨k, hk⟩ := hlo; exact ⟨k, (hk ▸ h.ev o).lit_inv.1⟩

/-- A part of a slice. -/
theorem run_sub {t e sz by' : Nat} (ht : eltOf P t = some (e, sz, by')) {l : List PV} {v : Value} (hv : Rep pub w (.slice l) v) (hsz : ∀ e ∈ l, e.cells.length = sz) {lo hi : Option Value} {i j : Int}
    (hlo : (match lo with | some o => ∃ k, o = Value.int k i | none => i = 0)) (hhi : (match hi with | some o => ∃ k, o = Value.int k j | none => j = l.length)) (h0 : 0 ≤ i) (h1 : i ≤ j) (h2 : j ≤ l.length) :
    ∃ u, (Instr.sliceAt t v lo hi none).run P w = .ok u w ∧ Rep pub w (.slice ((l.take j.toNat).drop i.toNat)) u := by
  obtain ⟨hu, x, hx, hx1, hx2⟩ := eltOf_spec ht
  subst hx1
  have hlen : ((l.take j.toNat).drop i.toNat).length = j.toNat - i.toNat := by simp; omega
  cases hv with
  | slice0 ad cap =>
    simp at h2
    have hi0 : i = 0 := by omega
    have hj0 : j = 0 := by omega
    subst hi0; subst hj0
    have hb := run_bounds (P := P) (w := w) (isS := true) (len := 0) (cap := cap) (lo := lo) (hi := hi) (i := 0) (j := 0) hlo (by cases hi with | none => simp | some o => simpa using hhi) (by omega) (by omega) (by omega)
    refine ⟨.slice (if cap = 0 then ad else ad.map (·.add (0 * x.size))) 0 cap, ?_, by simpa using .slice0 _ cap⟩
    unfold Instr.sliceAt
    simp [run_underlying hu, Instr.slice, hb, sizeOf, typeInfo, hx]
  | slice b o cap sz' _ W hsz' hcap hd hc =>
    have hb := run_bounds (P := P) (w := w) (isS := true) (len := l.length) (cap := cap) hlo hhi h0 h1 (by omega)
    refine ⟨.slice (if cap = i.toNat then some ⟨b, o, none⟩ else some ((⟨b, o, none⟩ : Addr).add (i.toNat * x.size))) (j.toNat - i.toNat) (cap - i.toNat), ?_, ?_⟩
    · unfold Instr.sliceAt
      simp [run_underlying hu, Instr.slice, hb, sizeOf, typeInfo, hx]
    · by_cases hl0 : (l.take j.toNat).drop i.toNat = []
      · rw [hl0]
        have : j.toNat - i.toNat = 0 := by rw [← hlen, hl0]; rfl
        rw [this]; exact .slice0 _ _
      · have hne : cap ≠ i.toNat := fun e => hl0 (List.eq_nil_of_length_eq_zero (by omega))
        rw [if_neg hne, Addr.add_lit]
        have hsub : ∀ y ∈ (l.take j.toNat).drop i.toNat, y ∈ l := fun y hy => List.mem_of_mem_take (List.mem_of_mem_drop hy)
        have hsz2 : ∀ y ∈ l.take j.toNat, y.cells.length = x.size := fun y hy => hsz y (List.mem_of_mem_take hy)
        have hf : flat ((l.take j.toNat).drop i.toNat) = ((flat l).take (j.toNat * x.size)).drop (i.toNat * x.size) := by rw [flat_drop hsz2, flat_take hsz]
        have := Rep.slice (pub := pub) (w := w) b (o + i.toNat * x.size) (cap - i.toNat) x.size ((l.take j.toNat).drop i.toNat) (fun k => W (i.toNat * x.size + k)) (fun y hy => hsz y (hsub y hy)) (by omega) (fun k c hk => ?_) (fun k c hk => ?_)
        · rw [hlen] at this; exact this
        all_goals
          rw [hf, List.getElem?_drop] at hk
          have hk2 : (flat l)[i.toNat * x.size + k]? = some c := by
            by_cases hkk : i.toNat * x.size + k < j.toNat * x.size
            · rw [List.getElem?_take_of_lt hkk] at hk; exact hk
            · rw [List.getElem?_eq_none (by simp; omega)] at hk; cases hk
        · have := hd _ c hk2
          rw [Nat.add_assoc]; exact this
        · exact hc _ c hk2

end
end Go.Px
