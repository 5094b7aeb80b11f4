/-
  PROVED: more rules: structs, their equality, parts of slices and strings, and ends with several results. Over any program. No condition beyond those that each theorem names.
-/
import Derived.Test.YthdejnjjdihmfaaPx22
namespace Go.Px
set_option linter.unusedSimpArgs false
set_option linter.unusedVariables false
open Go.RowKit

/-- A struct's parts laid into its cells. -/
def buildK (pl : Nat → Option (Nat × Nat)) : List PV → List (Nat × PV) → Option (List PV)
  | cs, [] => some cs
  | cs, (i, p) :: rest => match pl i with
    | some (off, sz) => bif Nat.beq p.cells.length sz then (match spliceK off cs p.cells some with | some cs' => buildK pl cs' rest | none => none) else none
    | none => none
theorem buildK_spec {pl : Nat → Option (Nat × Nat)} : ∀ (ips : List (Nat × PV)) (z cs : List PV), buildK pl z ips = some cs → fillPV pl z ips = some cs
  | [], z, cs, h => by simpa [buildK, fillPV] using h
  | (i, p) :: rest, z, cs, h => by
    simp only [buildK] at h
    simp only [fillPV]
    split at h
    · rename_i off sz hp
      cases hb : Nat.beq p.cells.length sz with
      | false => rw [hb] at h; cases h
      | true =>
        rw [hb] at h
        simp only [cond_true] at h
        split at h
        · rename_i cs' hs
          obtain ⟨h1, e⟩ := spliceK_eq hs (Nat.eq_of_beq_eq_true hb)
          subst e
          rw [hp]
          simp only
          rw [if_pos ⟨Nat.eq_of_beq_eq_true hb, h1⟩]
          exact buildK_spec rest _ _ h
        · cases h
    · cases h
def curL (M : List (Nat × PV)) : List PV → Option (List Nat × List (Nat × Nat))
  | [] => some ([], [])
  | p :: ps => match curO M p with
    | some (R, C) => match curL M ps with
      | some (R', C') => some (R ++ R', C ++ C')
      | none => none
    | none => none
theorem curL_spec {S M : List (Nat × PV)} : ∀ {ps : List PV} {R : List Nat} {C : List (Nat × Nat)}, curL M ps = some (R, C) → AllEq C → (∀ p ∈ ps, Cur (St.of S M).mem p) ∧ ∀ p ∈ ps, ∀ j k, p = .own j k → j ∈ R
  | [], R, C, _, _ => ⟨by simp, by simp⟩
  | p :: ps, R, C, h, hC => by
    simp only [curL] at h
    split at h <;> try cases h
    rename_i R1 C1 h1
    split at h <;> try cases h
    rename_i R2 C2 h2
    obtain ⟨c1, c2⟩ := hC.app
    have a1 := curO_spec (S := S) h1 c1
    have a2 := curL_spec (S := S) h2 c2
    refine ⟨fun q hq => ?_, fun q hq j k e => ?_⟩
    · rcases List.mem_cons.1 hq with rfl | hq
      · exact a1.1
      · exact a2.1 q hq
    · rcases List.mem_cons.1 hq with rfl | hq
      · exact List.mem_append_left _ (a1.2 j k e)
      · exact List.mem_append_right _ (a2.2 q hq j k e)

section
variable {P : Program} {N : Nat} {all : Array Oper} {F : Nat → Foot} {i : Nat} {rest : List Oper} {S M : List (Nat × PV)} {K : St → Prop} {d : Nat} {ty : TypeId} {pos : String} {after : Array Edge}

theorem X.build {t : TypeId} {parts : Array (Nat × Operand)} {z cs ps : List PV} {pl : List (Nat × Nat)} {R : List Nat} {C : List (Nat × Nat)} (hz : zeroPV P t = some z) (hpl : fldPlaces P t = some pl) (hps : evL S (parts.toList.map (·.2)) = some ps) (hp : curL M ps = some (R, C)) (hC : AllEq C)
    (hcs : buildK (fun i => pl[i]?) z ((parts.toList.map (·.1)).zip ps) = some cs) (hd : Nat.ble (d + 1) N = true) (hF : (F i).okB R [] = true) (h : SLx P N all F (i + 1) rest (St.of ((d, .agg cs) :: S) M) K) :
    SLx P N all F i (⟨some d, .build t parts, ty, pos, after, none⟩ :: rest) (St.of S M) K :=
  X.ofOp (v := .agg cs) (U := []) (R := R) (.build t parts z cs pl ps R hz hpl (by have := evL_spec (M := M) hps; rw [List.map_map] at this; exact this) (curL_spec (S := S) hp hC).1 (curL_spec (S := S) hp hC).2 (buildK_spec _ _ _ hcs)) hd hF h
/-- An array's parts. -/
theorem X.buildArr {t : TypeId} {parts : Array (Nat × Operand)} {z cs ps : List PV} {n sz : Nat} {R : List Nat} {C : List (Nat × Nat)} (hz : zeroPV P t = some z) (ha : arrOf P t = some (n, sz)) (hps : evL S (parts.toList.map (·.2)) = some ps) (hp : curL M ps = some (R, C)) (hC : AllEq C)
    (hcs : buildK (fun i => some (i * sz, sz)) z ((parts.toList.map (·.1)).zip ps) = some cs) (hd : Nat.ble (d + 1) N = true) (hF : (F i).okB R [] = true) (h : SLx P N all F (i + 1) rest (St.of ((d, .agg cs) :: S) M) K) :
    SLx P N all F i (⟨some d, .build t parts, ty, pos, after, none⟩ :: rest) (St.of S M) K :=
  X.ofOp (v := .agg cs) (U := []) (R := R) (.buildArr t parts z cs n sz ps R hz ha (by have := evL_spec (M := M) hps; rw [List.map_map] at this; exact this) (curL_spec (S := S) hp hC).1 (curL_spec (S := S) hp hC).2 (buildK_spec _ _ _ hcs)) hd hF h

theorem X.eqlAgg {t t' : TypeId} {x y : Operand} {ks : List Nat} {cs ds : List PV} {r : Bool} (hf : flatOf P t = some ks) (hx : evO S x = some (.agg cs)) (hy : evO S y = some (.agg ds)) (he : eqLits ks cs ds = some r) (hd : Nat.ble (d + 1) N = true) (h : SLx P N all F (i + 1) rest (St.of ((d, .lit (.bool r)) :: S) M) K) :
    SLx P N all F i (⟨some d, .binOp .eql t x y t', ty, pos, after, none⟩ :: rest) (St.of S M) K :=
  X.ofOp (U := []) (R := []) (.eqlAgg t t' x y ks cs ds r hf (evO_spec hx) (evO_spec hy) he) hd (okB_nil _) h
theorem X.neqAgg {t t' : TypeId} {x y : Operand} {ks : List Nat} {cs ds : List PV} {r : Bool} (hf : flatOf P t = some ks) (hx : evO S x = some (.agg cs)) (hy : evO S y = some (.agg ds)) (he : eqLits ks cs ds = some r) (hd : Nat.ble (d + 1) N = true) (h : SLx P N all F (i + 1) rest (St.of ((d, .lit (.bool (!r))) :: S) M) K) :
    SLx P N all F i (⟨some d, .binOp .neq t x y t', ty, pos, after, none⟩ :: rest) (St.of S M) K :=
  X.ofOp (U := []) (R := []) (.neqAgg t t' x y ks cs ds r hf (evO_spec hx) (evO_spec hy) he) hd (okB_nil _) h
theorem X.eqlNilS {t t' : TypeId} {x : Operand} {e sz by' : Nat} {p : PV} {l : List PV} {R : List Nat} (ht : eltOf P t = some (e, sz, by')) (hx : evO S x = some p) (hl : Lst (St.of S M).mem p l R) (h0 : l ≠ [] ∨ p = .nils) (hd : Nat.ble (d + 1) N = true) (hF : (F i).okB R [] = true) (h : SLx P N all F (i + 1) rest (St.of ((d, .lit (.bool l.isEmpty)) :: S) M) K) :
    SLx P N all F i (⟨some d, .binOp .eql t x (.const (.slice none 0 0)) t', ty, pos, after, none⟩ :: rest) (St.of S M) K :=
  X.ofOp (U := []) (R := R) (.eqlNilS t t' x e sz by' p l R ht (evO_spec hx) hl h0) hd hF h
theorem X.neqNilS {t t' : TypeId} {x : Operand} {e sz by' : Nat} {p : PV} {l : List PV} {R : List Nat} (ht : eltOf P t = some (e, sz, by')) (hx : evO S x = some p) (hl : Lst (St.of S M).mem p l R) (h0 : l ≠ [] ∨ p = .nils) (hd : Nat.ble (d + 1) N = true) (hF : (F i).okB R [] = true) (h : SLx P N all F (i + 1) rest (St.of ((d, .lit (.bool (!l.isEmpty))) :: S) M) K) :
    SLx P N all F i (⟨some d, .binOp .neq t x (.const (.slice none 0 0)) t', ty, pos, after, none⟩ :: rest) (St.of S M) K :=
  X.ofOp (U := []) (R := R) (.neqNilS t t' x e sz by' p l R ht (evO_spec hx) hl h0) hd hF h

/-- The bounds of a part. -/
def Bound (S : List (Nat × PV)) (o : Option Operand) (dflt i : Int) : Prop := match o with | some o => ∃ k, evO S o = some (.lit (.int k i)) | none => i = dflt
theorem X.sliceStr {t : TypeId} {x : Operand} {b : ByteArray} {lo hi : Option Operand} {a c : Int} (ht : P.underlying t = some .string) (hx : evO S x = some (.lit (.string b))) (hlo : Bound S lo 0 a) (hhi : Bound S hi b.size c) (h0 : 0 ≤ a ∧ a ≤ c ∧ c ≤ b.size) (hd : Nat.ble (d + 1) N = true) (h : SLx P N all F (i + 1) rest (St.of ((d, .lit (.string (b.extract a.toNat c.toNat))) :: S) M) K) :
    SLx P N all F i (⟨some d, .slice t x lo hi none, ty, pos, after, none⟩ :: rest) (St.of S M) K :=
  X.ofOp (U := []) (R := []) (.sliceStr t x b lo hi a c ht (evO_spec hx) (by cases lo with | none => exact hlo | some o => obtain ⟨k, hk⟩ := hlo; exact ⟨k, evO_spec hk⟩) (by cases hi with | none => exact hhi | some o => obtain ⟨k, hk⟩ := hhi; exact ⟨k, evO_spec hk⟩) h0.1 h0.2.1 h0.2.2) hd (okB_nil _) h
theorem X.sliceS {t : TypeId} {x : Operand} {l : List PV} {lo hi : Option Operand} {e sz by' : Nat} {a c : Int} (ht : eltOf P t = some (e, sz, by')) (hx : evO S x = some (.slice l)) (hsz : ∀ e ∈ l, e.cells.length = sz) (hlo : Bound S lo 0 a) (hhi : Bound S hi l.length c) (h0 : 0 ≤ a ∧ a ≤ c ∧ c ≤ l.length) (hd : Nat.ble (d + 1) N = true)
    (h : SLx P N all F (i + 1) rest (St.of ((d, .slice ((l.take c.toNat).drop a.toNat)) :: S) M) K) :
    SLx P N all F i (⟨some d, .slice t x lo hi none, ty, pos, after, none⟩ :: rest) (St.of S M) K :=
  X.ofOp (U := []) (R := []) (.sliceS t x l lo hi e sz by' a c ht hsz (evO_spec hx) (by cases lo with | none => exact hlo | some o => obtain ⟨k, hk⟩ := hlo; exact ⟨k, evO_spec hk⟩) (by cases hi with | none => exact hhi | some o => obtain ⟨k, hk⟩ := hhi; exact ⟨k, evO_spec hk⟩) h0.1 h0.2.1 h0.2.2) hd (okB_nil _) h
theorem X.sliceO {t : TypeId} {x : Operand} {n k : Nat} {l : List PV} {lo hi : Option Operand} {e sz by' : Nat} {a c : Int} (ht : eltOf P t = some (e, sz, by')) (hx : evO S x = some (.own n k)) (hm : look M n = some (.obj false e sz l)) (hk : k = l.length) (hlo : Bound S lo 0 a) (hhi : Bound S hi l.length c) (h0 : 0 ≤ a ∧ a ≤ c ∧ c ≤ l.length) (hd : Nat.ble (d + 1) N = true) (hF : (F i).okB [n] [] = true)
    (h : SLx P N all F (i + 1) rest (St.of ((d, .slice ((l.take c.toNat).drop a.toNat)) :: S) M) K) :
    SLx P N all F i (⟨some d, .slice t x lo hi none, ty, pos, after, none⟩ :: rest) (St.of S M) K :=
  X.ofOp (U := []) (R := [n]) (.sliceO t x n k l lo hi e sz by' a c ht (evO_spec hx) (look_mem hm) hk (by cases lo with | none => exact hlo | some o => obtain ⟨k, hk⟩ := hlo; exact ⟨k, evO_spec hk⟩) (by cases hi with | none => exact hhi | some o => obtain ⟨k, hk⟩ := hhi; exact ⟨k, evO_spec hk⟩) h0.1 h0.2.1 h0.2.2) hd hF h
end

section
variable {P : Program} {N : Nat} {Q : St → Prop} {k : List Item} {S M : List (Nat × PV)}
/-- The end: whatever results. -/
theorem R.fin {fn : Func} {r : PV} {ps ps' : List PV} {G : List Nat} (h1 : ResAt P (St.of S M) fn.results.toList ps) (h2 : ResL (St.of S M).mem ps ps' G) (hr : resOf ps' = r) : Run P N (Fin P fn r) (.code .ret :: k) (St.of S M) := Run.ret ⟨ps, ps', G, h1, h2, hr⟩
end
end Go.Px
