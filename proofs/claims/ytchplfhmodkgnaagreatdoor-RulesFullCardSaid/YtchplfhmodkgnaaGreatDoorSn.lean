/-
  The blocks of three pieces.
  No condition stands but those in each theorem's own words.
-/
import Derived.Test.YtchplfhmodkgnaaGreatDoorTab
set_option maxRecDepth 1000000
namespace Go.Ev
open Go.Proofs
noncomputable def sn : Snap := [((.s .d7 (.s .d3 .z)), (.cells (.x 82 3) [(.sl (.s .d6 (.s .d3 .z)) 0 1 (.un 3)),(.i .i64 (.ofNat 0)),(.p (.s .d4 (.s .d3 .z)) 0)])),
  ((.s .d4 (.s .d4 (.s .d0 .z))), (.cells (.x 82 3) [(.sl (.s .d3 (.s .d4 (.s .d0 .z))) 0 1 (.un 3)),(.i .i64 (.ofNat 0)),(.p (.s .d1 (.s .d4 (.s .d0 .z))) 0)])),
  ((.s .d7 (.s .d4 (.s .d1 .z))), (.cells (.x 82 3) [(.sl (.s .d6 (.s .d4 (.s .d1 .z))) 0 1 (.un 3)),(.i .i64 (.ofNat 0)),(.p (.s .d4 (.s .d4 (.s .d1 .z))) 0)])),
  ((.s .d6 (.s .d3 .z)), (.cells .o [(.s [112]),(.k .sln),(.i .i64 (.ofNat 0))])),
  ((.s .d4 (.s .d3 .z)), (.cells (.x 103 8) [(.i .i64 (.ofNat 8)),(.i .i64 (.ofNat 0)),(.s [112]),(.i .i64 (.ofNat 0)),(.k .sln),(.i .i64 (.ofNat 0)),(.k .sln),(.k .sln)])),
  ((.s .d3 (.s .d4 (.s .d0 .z))), (.cells .o [(.s [112]),(.k .sln),(.i .i64 (.ofNat 0))])),
  ((.s .d1 (.s .d4 (.s .d0 .z))), (.cells (.x 103 8) [(.i .i64 (.ofNat 3)),(.i .i64 (.ofNat 0)),(.s []),(.i .i64 (.ofNat 0)),(.k .sln),(.i .i64 (.ofNat 0)),(.k .sln),(.sl (.s .d0 (.s .d4 (.s .d0 .z))) 0 2 (.kn 2))])),
  ((.s .d6 (.s .d4 (.s .d1 .z))), (.cells .o [(.s [112]),(.k .sln),(.i .i64 (.ofNat 0))])),
  ((.s .d4 (.s .d4 (.s .d1 .z))), (.cells (.x 103 8) [(.i .i64 (.ofNat 3)),(.i .i64 (.ofNat 0)),(.s []),(.i .i64 (.ofNat 0)),(.k .sln),(.i .i64 (.ofNat 0)),(.k .sln),(.sl (.s .d3 (.s .d4 (.s .d1 .z))) 0 2 (.kn 2))])),
  ((.s .d0 (.s .d4 (.s .d0 .z))), (.cells .o [(.p (.s .d2 (.s .d3 (.s .d0 .z))) 0),(.p (.s .d5 (.s .d3 (.s .d0 .z))) 0)])),
  ((.s .d3 (.s .d4 (.s .d1 .z))), (.cells .o [(.p (.s .d5 (.s .d3 (.s .d1 .z))) 0),(.p (.s .d0 (.s .d4 (.s .d1 .z))) 0)])),
  ((.s .d2 (.s .d3 (.s .d0 .z))), (.cells (.x 103 8) [(.i .i64 (.ofNat 8)),(.i .i64 (.ofNat 0)),(.s [112]),(.i .i64 (.ofNat 0)),(.k .sln),(.i .i64 (.ofNat 0)),(.k .sln),(.k .sln)])),
  ((.s .d5 (.s .d3 (.s .d0 .z))), (.cells (.x 103 8) [(.i .i64 (.ofNat 8)),(.i .i64 (.ofNat 0)),(.s [112]),(.i .i64 (.ofNat 0)),(.k .sln),(.i .i64 (.ofNat 0)),(.k .sln),(.k .sln)])),
  ((.s .d5 (.s .d3 (.s .d1 .z))), (.cells (.x 103 8) [(.i .i64 (.ofNat 8)),(.i .i64 (.ofNat 0)),(.s [112]),(.i .i64 (.ofNat 0)),(.k .sln),(.i .i64 (.ofNat 0)),(.k .sln),(.k .sln)])),
  ((.s .d0 (.s .d4 (.s .d1 .z))), (.cells (.x 103 8) [(.i .i64 (.ofNat 0)),(.i .i64 (.ofNat 0)),(.s []),(.i .i64 (.ofNat 0)),(.k .sln),(.i .i64 (.ofNat 0)),(.k .sln),(.k .sln)]))]
end Go.Ev
