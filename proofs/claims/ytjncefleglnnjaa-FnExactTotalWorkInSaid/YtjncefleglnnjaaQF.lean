/-
  PROVED: facts on the whole program, by computation. No condition.
-/
import Derived.Test.YtjncefleglnnjaaRows
import Derived.JoinedOf
import Derived.KernelRfl
namespace Go.Proofs.Ytjncefleglnnjaa.Closed
open Go
theorem laid : laidOutB Try.prog = true := by kernel_rfl
theorem mapped : mapsRowed Try.prog = true := by kernel_rfl
theorem heard : Try.prog.stopsHeard = true := by kernel_rfl
theorem enter : Try.prog.mayEnter = true := by kernel_rfl
theorem lifts : Try.prog.liftsFinal = Rows.fnExactCapacityInRow.lifted := by kernel_rfl
theorem make : Try.prog.make = some Rows.fnExactCapacityInRow.make := by kernel_rfl
end Go.Proofs.Ytjncefleglnnjaa.Closed
