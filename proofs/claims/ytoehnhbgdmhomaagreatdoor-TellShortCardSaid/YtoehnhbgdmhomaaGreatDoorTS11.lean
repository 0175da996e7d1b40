/-
  Some classes of TellShort's inputs: the evaluator's run ends in true (by the kernel).
  No condition stands but those in each theorem's own words.
-/
import Derived.Test.YtoehnhbgdmhomaaGreatDoorM2
set_option maxRecDepth 1000000
namespace Go.Ev
theorem ts3_0_0_2 : callA tab2 dtab 100 ⟨.d0,.d0,.d0,.d3⟩ [(.q .u8 [(true,4)] [(.i .u8 (.ofNat 3))]), (.q .u8 [(true,4),(false,4)] [(.i .u8 (.ofNat 0)),(.q .u8 [(true,4)] [(.i .u8 (.ofNat 0))])]), (.q .u8 [(true,5),(true,4)] [(.q .u8 [] []),(.i .u8 (.ofNat 2))])] heap0 b0 (fun u _ _ => same u (.b true)) (fun _ _ _ => false) = true := by decide +kernel
theorem ts3_0_2_2 : callA tab2 dtab 100 ⟨.d0,.d0,.d0,.d3⟩ [(.q .u8 [(true,4)] [(.i .u8 (.ofNat 3))]), (.q .u8 [(true,4),(false,4)] [(.i .u8 (.ofNat 0)),(.q .u8 [(true,4)] [(.i .u8 (.ofNat 2))])]), (.q .u8 [(true,5),(true,4)] [(.q .u8 [] []),(.i .u8 (.ofNat 2))])] heap0 b0 (fun u _ _ => same u (.b true)) (fun _ _ _ => false) = true := by decide +kernel
theorem ts3_1_0_2 : callA tab2 dtab 100 ⟨.d0,.d0,.d0,.d3⟩ [(.q .u8 [(true,4)] [(.i .u8 (.ofNat 3))]), (.q .u8 [(true,4),(false,4)] [(.i .u8 (.ofNat 1)),(.q .u8 [(true,4)] [(.i .u8 (.ofNat 0))])]), (.q .u8 [(true,5),(true,4)] [(.q .u8 [] []),(.i .u8 (.ofNat 2))])] heap0 b0 (fun u _ _ => same u (.b true)) (fun _ _ _ => false) = true := by decide +kernel
theorem ts3_1_2_2 : callA tab2 dtab 100 ⟨.d0,.d0,.d0,.d3⟩ [(.q .u8 [(true,4)] [(.i .u8 (.ofNat 3))]), (.q .u8 [(true,4),(false,4)] [(.i .u8 (.ofNat 1)),(.q .u8 [(true,4)] [(.i .u8 (.ofNat 2))])]), (.q .u8 [(true,5),(true,4)] [(.q .u8 [] []),(.i .u8 (.ofNat 2))])] heap0 b0 (fun u _ _ => same u (.b true)) (fun _ _ _ => false) = true := by decide +kernel
theorem ts3_2_0_2 : callA tab2 dtab 100 ⟨.d0,.d0,.d0,.d3⟩ [(.q .u8 [(true,4)] [(.i .u8 (.ofNat 3))]), (.q .u8 [(true,4),(false,4)] [(.i .u8 (.ofNat 2)),(.q .u8 [(true,4)] [(.i .u8 (.ofNat 0))])]), (.q .u8 [(true,5),(true,4)] [(.q .u8 [] []),(.i .u8 (.ofNat 2))])] heap0 b0 (fun u _ _ => same u (.b true)) (fun _ _ _ => false) = true := by decide +kernel
theorem ts3_2_2_2 : callA tab2 dtab 100 ⟨.d0,.d0,.d0,.d3⟩ [(.q .u8 [(true,4)] [(.i .u8 (.ofNat 3))]), (.q .u8 [(true,4),(false,4)] [(.i .u8 (.ofNat 2)),(.q .u8 [(true,4)] [(.i .u8 (.ofNat 2))])]), (.q .u8 [(true,5),(true,4)] [(.q .u8 [] []),(.i .u8 (.ofNat 2))])] heap0 b0 (fun u _ _ => same u (.b true)) (fun _ _ _ => false) = true := by decide +kernel
theorem ts3_3_0_2 : callA tab2 dtab 100 ⟨.d0,.d0,.d0,.d3⟩ [(.q .u8 [(true,4)] [(.i .u8 (.ofNat 3))]), (.q .u8 [(true,4),(false,4)] [(.i .u8 (.ofNat 3)),(.q .u8 [(true,4)] [(.i .u8 (.ofNat 0))])]), (.q .u8 [(true,5),(true,4)] [(.q .u8 [] []),(.i .u8 (.ofNat 2))])] heap0 b0 (fun u _ _ => same u (.b true)) (fun _ _ _ => false) = true := by decide +kernel
theorem ts3_3_2_2 : callA tab2 dtab 100 ⟨.d0,.d0,.d0,.d3⟩ [(.q .u8 [(true,4)] [(.i .u8 (.ofNat 3))]), (.q .u8 [(true,4),(false,4)] [(.i .u8 (.ofNat 3)),(.q .u8 [(true,4)] [(.i .u8 (.ofNat 2))])]), (.q .u8 [(true,5),(true,4)] [(.q .u8 [] []),(.i .u8 (.ofNat 2))])] heap0 b0 (fun u _ _ => same u (.b true)) (fun _ _ _ => false) = true := by decide +kernel
end Go.Ev
