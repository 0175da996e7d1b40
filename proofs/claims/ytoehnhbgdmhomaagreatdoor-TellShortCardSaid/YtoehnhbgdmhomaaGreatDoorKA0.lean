/-
  One closed run of 'alike', by the kernel.
  No condition stands but those in each theorem's own words.
-/
import Derived.Test.YtoehnhbgdmhomaaGreatDoorTab
set_option maxRecDepth 1000000
namespace Go.Ev
open Go.Proofs
theorem al0 : callA tab dtab 100 ⟨.d0,.d0,.d3,.d5⟩ [(.s [112,32,58,32,99,111,109,32,124,45,32,99,111,109,32,58,32,115,107,105,112,59,32,112]), (.s [112,32,58,32,99,111,109,32,124,45,32,99,111,109,32,58,32,112])] heap0 b0 (fun u _ _ => same u (.b true)) (fun _ _ _ => false) = true := by decide +kernel
end Go.Ev
