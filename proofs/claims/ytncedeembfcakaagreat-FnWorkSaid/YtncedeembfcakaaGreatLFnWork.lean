/-
  PROVED: the law FnWork, of its definition; and its contract. No condition.
-/
import Derived.Test.YtncedeembfcakaaGreatD1
import Derived.Test.YtncedeembfcakaaGreatC2
import Derived.Test.YtncedeembfcakaaGreatC4
namespace Go.Px.YtncedeembfcakaaGreat
set_option linter.unusedSimpArgs false
set_option linter.unusedVariables false
open Go.Px Go.Proofs
theorem row_FnWork : ∀ ps, Vals [.slice .u8] ps → PC Tryz.prog 4 ps (bool true) := fun ps h => by
  have hv0 := h
  obtain ⟨x0, zs1, rfl, h0, hv1⟩ := Y0s hv0
  obtain ⟨y0, rfl, b0⟩ := V0c _ h0
  obtain rfl := B1e hv1
  exact w_FnWork_pc y0 true (w_FnWork_true y0 )
end Go.Px.YtncedeembfcakaaGreat
