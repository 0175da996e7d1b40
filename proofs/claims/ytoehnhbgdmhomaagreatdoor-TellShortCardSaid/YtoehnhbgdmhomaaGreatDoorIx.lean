/-
  The one library function that the model answers itself, and the program's leave to follow mixed orders.
  No condition stands but those in each theorem's own words.
-/
import Derived.Test.YtoehnhbgdmhomaaGreatDoorEvC
import Derived.Test.YtoehnhbgdmhomaaGreatDoorProg
set_option maxRecDepth 1000000
namespace Go.Ev
open Go.Proofs
theorem hfol : Tryz.prog.follows .mixedOrders = true := by kernel_rfl
theorem ix_name : (Tryz.f209.name == "runtime.NumGoroutine") = false := by kernel_rfl
theorem ix_body : Tryz.f209.body.isNone = true := by kernel_rfl
theorem ix_next : (Extern.findNext Tryz.f209).isNone = true := by kernel_rfl
theorem ix_find : Extern.find Tryz.f209 = some Extern.BytealgIndexByte.indexByte := by kernel_rfl
theorem ixok : IxOk Tryz.prog (Nat.beq 209) := by
  intro g hg args w v hv
  have : 209 = g := Nat.eq_of_beq_eq_true hg
  subst this
  have h1 := ix_name
  have h2 := ix_body
  have h3 : Extern.findNext Tryz.f209 = none := by simpa using ix_next
  have h4 := ix_find
  have h5 := Tryz.func209
  generalize Tryz.f209 = fn at *
  have h1' : fn.name ≠ "runtime.NumGoroutine" := by simpa using h1
  have h2' : fn.body = none := by simpa using h2
  simp [callFunc, h5, h1', h2', h3, h4, hv, mark, Sem.run]
end Go.Ev
