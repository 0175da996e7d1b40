/-
  One closed run of 'tell.Same' over the three pieces, by the kernel.
  No condition stands but those in each theorem's own words.
-/
import Derived.Test.YtchplfhmodkgnaaGreatDoorSn
set_option maxRecDepth 1000000
namespace Go.Ev
open Go.Proofs
theorem srun2 : snH sn heap0 (fun h0 => callA tab dtab 100 ⟨.d0,.d0,.d2,.d6⟩ [(.p (.s .d7 (.s .d4 (.s .d1 .z))) 0), (.p (.s .d7 (.s .d3 .z)) 0)] h0 (.s .d0 (.s .d5 (.s .d1 .z))) (fun u h' _ => ifb (same u (.tup [(.b true),(.i .i64 (.ofNat 0))])) (snap sn h' true) false) (fun _ _ _ => false)) = true := by decide +kernel
end Go.Ev
