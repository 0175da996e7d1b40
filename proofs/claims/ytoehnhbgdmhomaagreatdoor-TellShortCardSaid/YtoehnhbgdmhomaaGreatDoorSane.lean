/-
  One closed run of 'sane', by the kernel.
  No condition stands but those in each theorem's own words.
-/
import Derived.Test.YtoehnhbgdmhomaaGreatDoorM1
set_option maxRecDepth 1000000
namespace Go.Ev
open Go.Proofs
theorem sane0 : callA tab1 dtab 100 ⟨.d0,.d0,.d1,.d3⟩ [] heap0 b0 (fun u _ _ => same u (.b true)) (fun _ _ _ => false) = true := by decide +kernel
end Go.Ev
