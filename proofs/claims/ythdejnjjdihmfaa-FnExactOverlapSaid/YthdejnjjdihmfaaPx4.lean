/-
  PROVED: the operations, as steps of a pure state. Over any program. No condition beyond those that each theorem names.
-/
import Derived.Test.YthdejnjjdihmfaaPx3
import Derived.WalkLawsBesides
namespace Go.Px
set_option linter.unusedSimpArgs false
set_option linter.unusedVariables false
open Go.RowKit

/-- Arithmetic and comparison of numbers and strings. -/
def binPV : BinOp → PV → PV → Option PV
  | .add, .lit (.int k a), .lit (.int _ b) => some (.lit (.int k (k.wrap (a + b))))
  | .sub, .lit (.int k a), .lit (.int _ b) => some (.lit (.int k (k.wrap (a - b))))
  | .mul, .lit (.int k a), .lit (.int _ b) => some (.lit (.int k (k.wrap (a * b))))
  | .eql, .lit (.int _ a), .lit (.int _ b) => some (.lit (.bool (a == b)))
  | .neq, .lit (.int _ a), .lit (.int _ b) => some (.lit (.bool (a != b)))
  | .lss, .lit (.int _ a), .lit (.int _ b) => some (.lit (.bool (decide (a < b))))
  | .leq, .lit (.int _ a), .lit (.int _ b) => some (.lit (.bool (decide (a ≤ b))))
  | .gtr, .lit (.int _ a), .lit (.int _ b) => some (.lit (.bool (decide (b < a))))
  | .geq, .lit (.int _ a), .lit (.int _ b) => some (.lit (.bool (decide (b ≤ a))))
  | .add, .lit (.string a), .lit (.string b) => some (.lit (.string (a ++ b)))
  | .eql, .lit (.string a), .lit (.string b) => some (.lit (.bool (a == b)))
  | .neq, .lit (.string a), .lit (.string b) => some (.lit (.bool (a != b)))
  | _, _, _ => none

/-- What the operands' kinds must be. -/
def sameKind : PV → PV → Bool
  | .lit (.int k _), .lit (.int k' _) => k == k'
  | .lit (.string _), .lit (.string _) => true
  | _, _ => false

def unPV : UnOp → PV → Option PV
  | .not, .lit (.bool b) => some (.lit (.bool !b))
  | .neg, .lit (.int k n) => some (.lit (.int k (k.wrap (0 - n))))
  | _, _ => none

/-- The place of part i of a struct or array that is built. -/
def fillPV (place : Nat → Option (Nat × Nat)) (cells : List PV) : List (Nat × PV) → Option (List PV)
  | [] => some cells
  | (i, p) :: rest =>
    match place i with
    | none => none
    | some (off, size) => if p.cells.length = size ∧ off + size ≤ cells.length then fillPV place (cells.take off ++ p.cells ++ cells.drop (off + size)) rest else none

end Go.Px
