/-
  PROVED: facts on the whole program, by computation. No condition.
-/
import Derived.Test.YtncedeembfcakaaGreatRows
import Derived.Test.YtncedeembfcakaaGreatQ4
import Derived.JoinedOf
import Derived.KernelRfl
namespace Go.Proofs.YtncedeembfcakaaGreat.Closed
open Go
theorem laid : laidOutB Tryz.prog = true := by kernel_rfl
theorem mapped : mapsRowed Tryz.prog = true := by kernel_rfl
theorem heard : Tryz.prog.stopsHeard = true := by kernel_rfl
theorem later : Tryz.prog.laysLater = false := by kernel_rfl
theorem reflect : Tryz.prog.bearsReflect = false := by kernel_rfl
theorem door : Tryz.prog.doorFits [] = true := by kernel_rfl
set_option maxRecDepth 1000000 in
theorem head : (behindMainWord (wordsSigns Tryz.prog.initOrder.toList)).head? = some "cut".toList := by
  rw [Go.Px.toListOf Tryz.prog.initOrder _ rfl]
  kernel_rfl
theorem enter : Tryz.prog.mayEnter = true := Go.Px.cutEnter head later reflect door
theorem lifts : Tryz.prog.liftsFinal = false := Go.Px.cutLifts head
theorem make : Tryz.prog.make = some .cut := Go.Px.cutMake head
end Go.Proofs.YtncedeembfcakaaGreat.Closed
