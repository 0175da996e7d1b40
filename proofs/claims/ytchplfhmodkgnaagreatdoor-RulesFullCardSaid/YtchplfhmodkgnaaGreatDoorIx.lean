/-
  The library functions that the model answers itself, and the program's leave to follow mixed orders.
  No condition stands but those in each theorem's own words.
-/
import Derived.Test.YtchplfhmodkgnaaGreatDoorEvC
import Derived.Test.YtchplfhmodkgnaaGreatDoorProg
set_option maxRecDepth 1000000
namespace Go.Ev
open Go.Proofs
theorem hfol : Tryz.prog.follows .mixedOrders = true := by kernel_rfl
theorem ix_name : (Tryz.f114.name == "runtime.NumGoroutine") = false := by kernel_rfl
theorem ix_body : Tryz.f114.body.isNone = true := by kernel_rfl
theorem ix_next : (Extern.findNext Tryz.f114).isNone = true := by kernel_rfl
theorem ix_find : Extern.find Tryz.f114 = some Extern.BytealgIndexByte.indexByte := by kernel_rfl
theorem ne_name : (Tryz.f140.name == "runtime.NumGoroutine") = false := by kernel_rfl
theorem ne_body : Tryz.f140.body.isNone = true := by kernel_rfl
theorem ne_next : (Extern.findNext Tryz.f140).isNone = true := by kernel_rfl
theorem ne_find : Extern.find Tryz.f140 = some Extern.AbiNoEscape.same := by kernel_rfl
theorem ixok : IxOk Tryz.prog (ix2 114 4236) := by
  refine ⟨fun g hlt hg args w v hv => ?_, fun g hg x w => ?_⟩
  · have : g = 114 := by
      rcases ix2_eq hg with h | h
      · exact h
      · omega
    subst this
    have h1 := ix_name
    have h2 := ix_body
    have h3 : Extern.findNext Tryz.f114 = none := by simpa using ix_next
    have h4 := ix_find
    have h5 := Tryz.func114
    generalize Tryz.f114 = fn at *
    have h1' : fn.name ≠ "runtime.NumGoroutine" := by simpa using h1
    have h2' : fn.body = none := by simpa using h2
    simp [callFunc, h5, h1', h2', h3, h4, hv, mark, Sem.run]
  · have : g = 140 := by
      rcases ix2_eq hg with h | h
      · omega
      · omega
    subst this
    have h1 := ne_name
    have h2 := ne_body
    have h3 : Extern.findNext Tryz.f140 = none := by simpa using ne_next
    have h4 := ne_find
    have h5 := Tryz.func140
    generalize Tryz.f140 = fn at *
    have h1' : fn.name ≠ "runtime.NumGoroutine" := by simpa using h1
    have h2' : fn.body = none := by simpa using h2
    have h6 : (Extern.AbiNoEscape.same #[x]).run Tryz.prog w = .ok x w := rfl
    simp [callFunc, h5, h1', h2', h3, h4, h6, mark, Sem.run]
end Go.Ev
