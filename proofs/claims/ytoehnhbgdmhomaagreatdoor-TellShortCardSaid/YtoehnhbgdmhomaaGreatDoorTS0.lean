/-
  Some classes of TellShort's inputs: the evaluator's run ends in true (by the kernel).
  No condition stands but those in each theorem's own words.
-/
import Derived.Test.YtoehnhbgdmhomaaGreatDoorM2
set_option maxRecDepth 1000000
namespace Go.Ev
theorem ts0_0_0 : callA tab2 dtab 100 ⟨.d0,.d0,.d0,.d3⟩ [(.q .u8 [(true,4)] [(.i .u8 (.ofNat 0))]), (.q .u8 [(true,5)] [(.i .u8 (.ofNat 0))]), (.q .u8 [(true,5)] [(.i .u8 (.ofNat 0))])] heap0 b0 (fun u _ _ => same u (.b true)) (fun _ _ _ => false) = true := by decide +kernel
theorem ts0_1_2 : callA tab2 dtab 100 ⟨.d0,.d0,.d0,.d3⟩ [(.q .u8 [(true,4)] [(.i .u8 (.ofNat 0))]), (.q .u8 [(true,5)] [(.i .u8 (.ofNat 1))]), (.q .u8 [(true,5)] [(.i .u8 (.ofNat 2))])] heap0 b0 (fun u _ _ => same u (.b true)) (fun _ _ _ => false) = true := by decide +kernel
theorem ts0_2_4 : callA tab2 dtab 100 ⟨.d0,.d0,.d0,.d3⟩ [(.q .u8 [(true,4)] [(.i .u8 (.ofNat 0))]), (.q .u8 [(true,5)] [(.i .u8 (.ofNat 2))]), (.q .u8 [(true,5)] [(.i .u8 (.ofNat 4))])] heap0 b0 (fun u _ _ => same u (.b true)) (fun _ _ _ => false) = true := by decide +kernel
theorem ts0_4_1 : callA tab2 dtab 100 ⟨.d0,.d0,.d0,.d3⟩ [(.q .u8 [(true,4)] [(.i .u8 (.ofNat 0))]), (.q .u8 [(true,5)] [(.i .u8 (.ofNat 4))]), (.q .u8 [(true,5)] [(.i .u8 (.ofNat 1))])] heap0 b0 (fun u _ _ => same u (.b true)) (fun _ _ _ => false) = true := by decide +kernel
theorem ts1_0_3 : callA tab2 dtab 100 ⟨.d0,.d0,.d0,.d3⟩ [(.q .u8 [(true,4)] [(.i .u8 (.ofNat 1))]), (.q .u8 [(true,5)] [(.i .u8 (.ofNat 0))]), (.q .u8 [(true,5)] [(.i .u8 (.ofNat 3))])] heap0 b0 (fun u _ _ => same u (.b true)) (fun _ _ _ => false) = true := by decide +kernel
theorem ts1_2_0 : callA tab2 dtab 100 ⟨.d0,.d0,.d0,.d3⟩ [(.q .u8 [(true,4)] [(.i .u8 (.ofNat 1))]), (.q .u8 [(true,5)] [(.i .u8 (.ofNat 2))]), (.q .u8 [(true,5)] [(.i .u8 (.ofNat 0))])] heap0 b0 (fun u _ _ => same u (.b true)) (fun _ _ _ => false) = true := by decide +kernel
theorem ts1_3_2 : callA tab2 dtab 100 ⟨.d0,.d0,.d0,.d3⟩ [(.q .u8 [(true,4)] [(.i .u8 (.ofNat 1))]), (.q .u8 [(true,5)] [(.i .u8 (.ofNat 3))]), (.q .u8 [(true,5)] [(.i .u8 (.ofNat 2))])] heap0 b0 (fun u _ _ => same u (.b true)) (fun _ _ _ => false) = true := by decide +kernel
theorem ts1_4_4 : callA tab2 dtab 100 ⟨.d0,.d0,.d0,.d3⟩ [(.q .u8 [(true,4)] [(.i .u8 (.ofNat 1))]), (.q .u8 [(true,5)] [(.i .u8 (.ofNat 4))]), (.q .u8 [(true,5)] [(.i .u8 (.ofNat 4))])] heap0 b0 (fun u _ _ => same u (.b true)) (fun _ _ _ => false) = true := by decide +kernel
end Go.Ev
