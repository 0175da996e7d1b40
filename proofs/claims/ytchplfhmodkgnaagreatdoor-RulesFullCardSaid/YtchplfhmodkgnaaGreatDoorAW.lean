/-
  One closed run of 'awake', by the kernel.
  No condition stands but those in each theorem's own words.
-/
import Derived.Test.YtchplfhmodkgnaaGreatDoorTab
set_option maxRecDepth 1000000
namespace Go.Ev
open Go.Proofs
theorem awake0 : callA tab dtab 100 ⟨.d0,.d0,.d1,.d2⟩ [] heap0 b0 (fun u _ _ => same u (.b true)) (fun _ _ _ => false) = true := by decide +kernel
end Go.Ev
