/-
  Some of RulesFull's inputs: the evaluator's run ends in true (by the kernel).
  No condition stands but those in each theorem's own words.
-/
import Derived.Test.YtchplfhmodkgnaaGreatDoorM
set_option maxRecDepth 1000000
namespace Go.Ev
open Go.Proofs
theorem frun3 : callA tab3 dtab 100 ⟨.d0,.d0,.d0,.d3⟩ [(.q .u8 [(true,7)] [.i .u8 (.ofNat 3)])] heap0 b0 (fun u _ _ => same u (.b true)) (fun _ _ _ => false) = true := by decide +kernel
end Go.Ev
