/-
  PROVED: facts on the whole program, by computation. No condition.
-/
import Derived.Test.YtimegoembedagaaRows
import Derived.Test.YtimegoembedagaaQ4
import Derived.JoinedOf
import Derived.KernelRfl
namespace Go.Proofs.Ytimegoembedagaa.Closed
open Go
theorem laid : laidOutB Try.prog = true := by kernel_rfl
theorem mapped : mapsRowed Try.prog = true := by kernel_rfl
theorem heard : Try.prog.stopsHeard = true := by kernel_rfl
theorem later : Try.prog.laysLater = false := by kernel_rfl
theorem reflect : Try.prog.bearsReflect = false := by kernel_rfl
theorem door : Try.prog.doorFits [] = true := by kernel_rfl
set_option maxRecDepth 1000000 in
theorem head : (behindMainWord (wordsSigns Try.prog.initOrder.toList)).head? = some "cut".toList := by
  rw [Go.Px.toListOf Try.prog.initOrder _ rfl]
  kernel_rfl
theorem enter : Try.prog.mayEnter = true := Go.Px.cutEnter head later reflect door
theorem lifts : Try.prog.liftsFinal = false := Go.Px.cutLifts head
theorem make : Try.prog.make = some .cut := Go.Px.cutMake head
end Go.Proofs.Ytimegoembedagaa.Closed
