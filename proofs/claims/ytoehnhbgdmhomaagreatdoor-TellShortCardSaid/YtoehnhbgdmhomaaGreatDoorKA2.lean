/-
  One closed run of 'alike', by the kernel.
  No condition stands but those in each theorem's own words.
-/
import Derived.Test.YtoehnhbgdmhomaaGreatDoorTab
set_option maxRecDepth 1000000
namespace Go.Ev
open Go.Proofs
theorem al2 : callA tab dtab 100 ⟨.d0,.d0,.d3,.d5⟩ [(.s [120,32,58,32,101,120,112,32,124,45,32,101,120,112,32,58,32,120,32,43,32,120]), (.s [120,32,58,32,101,120,112,32,124,45,32,101,120,112,32,58,32,120,32,42,32,50])] heap0 b0 (fun u _ _ => same u (.b false)) (fun _ _ _ => false) = true := by decide +kernel
end Go.Ev
