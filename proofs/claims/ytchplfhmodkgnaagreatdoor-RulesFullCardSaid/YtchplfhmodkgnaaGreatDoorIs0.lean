/-
  Each function's instructions are those into which the evaluator turns the program's own code (by the kernel).
  No condition stands but those in each theorem's own words.
-/
import Derived.Test.YtchplfhmodkgnaaGreatDoorIr0
import Derived.Test.YtchplfhmodkgnaaGreatDoorIr1
import Derived.Test.YtchplfhmodkgnaaGreatDoorProg
set_option maxRecDepth 1000000
namespace Go.Ev
open Go.Proofs
noncomputable def cx3 : Cx := ⟨Tryz.prog, (ix2 114 4236), [0,2,3,10,4,6,8,13,11,12,14], 141, []⟩
theorem is3 : cx3.fun? Tryz.f3 = some ir3 := by kernel_rfl
noncomputable def cx6 : Cx := ⟨Tryz.prog, (ix2 114 4236), [0,1,2,6,44,8,10,9,42,7,11,13,15,14], 88, [(20,[0,1,2,3,4,5,6,7,8,9,10,11,12,13,14,15])]⟩
theorem is6 : cx6.fun? Tryz.f6 = some ir6 := by kernel_rfl
noncomputable def cx9 : Cx := ⟨Tryz.prog, (ix2 114 4236), [0,2,19,37,17,18,16,4,3,5,35,36,34,6,7], 90, []⟩
theorem is9 : cx9.fun? Tryz.f9 = some ir9 := by kernel_rfl
noncomputable def cx12 : Cx := ⟨Tryz.prog, (ix2 114 4236), [0,2,13,11,12,10,6,4,3], 60, []⟩
theorem is12 : cx12.fun? Tryz.f12 = some ir12 := by kernel_rfl
noncomputable def cx15 : Cx := ⟨Tryz.prog, (ix2 114 4236), [0,1], 8, []⟩
theorem is15 : cx15.fun? Tryz.f15 = some ir15 := by kernel_rfl
noncomputable def cx18 : Cx := ⟨Tryz.prog, (ix2 114 4236), [0,1,2,3,8,9,19,17,18,16,10,12,13], 53, []⟩
theorem is18 : cx18.fun? Tryz.f18 = some ir18 := by kernel_rfl
noncomputable def cx21 : Cx := ⟨Tryz.prog, (ix2 114 4236), [0,1,4,5], 19, []⟩
theorem is21 : cx21.fun? Tryz.f21 = some ir21 := by kernel_rfl
noncomputable def cx24 : Cx := ⟨Tryz.prog, (ix2 114 4236), [0,2], 12, []⟩
theorem is24 : cx24.fun? Tryz.f24 = some ir24 := by kernel_rfl
noncomputable def cx28 : Cx := ⟨Tryz.prog, (ix2 114 4236), [0,1,10,4,5], 202, [(33,[0,1,2,3,4,5,6,7,8,9,10,11,12,13,14])]⟩
theorem is28 : cx28.fun? Tryz.f28 = some ir28 := by kernel_rfl
noncomputable def cx31 : Cx := ⟨Tryz.prog, (ix2 114 4236), [0,1,4,5,6,34,42,8,7,10,32,33,40,41,39,13,11,15,14,17,16,9,12], 85, []⟩
theorem is31 : cx31.fun? Tryz.f31 = some ir31 := by kernel_rfl
noncomputable def cx35 : Cx := ⟨Tryz.prog, (ix2 114 4236), [0,1,4], 8, []⟩
theorem is35 : cx35.fun? Tryz.f35 = some ir35 := by kernel_rfl
noncomputable def cx41 : Cx := ⟨Tryz.prog, (ix2 114 4236), [0,2,12,10,11,9,3,4,5], 44, []⟩
theorem is41 : cx41.fun? Tryz.f41 = some ir41 := by kernel_rfl
noncomputable def cx45 : Cx := ⟨Tryz.prog, (ix2 114 4236), [0,1,4,139,6,7,137,138,136,8,9,10,11], 161, [(3,[0,1,2,3,4,5,6,7,8,9]),(8,[0,1,2,3,4,5,6,7,8,9,10,11,12,13,14,15,16,17,18,19,20,21,22,23,24,25,26,27,28,29,30,31]),(10,[0,1,2,3,4,5,6,7,8,9,10,11,12,13,14,15,16,17,18,19,20,21,22,23,24,25,26,27,28,29])]⟩
theorem is45 : cx45.fun? Tryz.f45 = some ir45 := by kernel_rfl
noncomputable def cx48 : Cx := ⟨Tryz.prog, (ix2 114 4236), [0,2,13,11,12,10,5,4,6,3], 44, []⟩
theorem is48 : cx48.fun? Tryz.f48 = some ir48 := by kernel_rfl
noncomputable def cx51 : Cx := ⟨Tryz.prog, (ix2 114 4236), [0,2], 11, []⟩
theorem is51 : cx51.fun? Tryz.f51 = some ir51 := by kernel_rfl
noncomputable def cx54 : Cx := ⟨Tryz.prog, (ix2 114 4236), [0,1,4], 9, []⟩
theorem is54 : cx54.fun? Tryz.f54 = some ir54 := by kernel_rfl
noncomputable def cx57 : Cx := ⟨Tryz.prog, (ix2 114 4236), [0,1,4,5,6,42,9,7,8,10,40,41,39,11,13], 55, []⟩
theorem is57 : cx57.fun? Tryz.f57 = some ir57 := by kernel_rfl
noncomputable def cx65 : Cx := ⟨Tryz.prog, (ix2 114 4236), [0,1,4,20,2,18,19,17,6,8,5], 38, []⟩
theorem is65 : cx65.fun? Tryz.f65 = some ir65 := by kernel_rfl
noncomputable def cx68 : Cx := ⟨Tryz.prog, (ix2 114 4236), [0,2,10,1,8,9,7,3,5], 19, []⟩
theorem is68 : cx68.fun? Tryz.f68 = some ir68 := by kernel_rfl
noncomputable def cx75 : Cx := ⟨Tryz.prog, (ix2 114 4236), [0,1,4], 29, [(1,[0,1,2,3,4,5,6,7,8,9,10,11,12,13,14,15,16,17,18,19,20,21,22,23,24])]⟩
theorem is75 : cx75.fun? Tryz.f75 = some ir75 := by kernel_rfl
noncomputable def cx78 : Cx := ⟨Tryz.prog, (ix2 114 4236), [0,1,3,2], 9, []⟩
theorem is78 : cx78.fun? Tryz.f78 = some ir78 := by kernel_rfl
noncomputable def cx84 : Cx := ⟨Tryz.prog, (ix2 114 4236), [0,1,4,5,6,7,8,9,10,11,12], 106, []⟩
theorem is84 : cx84.fun? Tryz.f84 = some ir84 := by kernel_rfl
noncomputable def cx88 : Cx := ⟨Tryz.prog, (ix2 114 4236), [0,1,4,5], 32, []⟩
theorem is88 : cx88.fun? Tryz.f88 = some ir88 := by kernel_rfl
noncomputable def cx93 : Cx := ⟨Tryz.prog, (ix2 114 4236), [0,1], 13, []⟩
theorem is93 : cx93.fun? Tryz.f93 = some ir93 := by kernel_rfl
noncomputable def cx96 : Cx := ⟨Tryz.prog, (ix2 114 4236), [0,2], 8, []⟩
theorem is96 : cx96.fun? Tryz.f96 = some ir96 := by kernel_rfl
noncomputable def cx99 : Cx := ⟨Tryz.prog, (ix2 114 4236), [0,2,3,4], 16, [(6,[0,1,2,3,4,5])]⟩
theorem is99 : cx99.fun? Tryz.f99 = some ir99 := by kernel_rfl
noncomputable def cx102 : Cx := ⟨Tryz.prog, (ix2 114 4236), [0,2], 8, []⟩
theorem is102 : cx102.fun? Tryz.f102 = some ir102 := by kernel_rfl
noncomputable def cx105 : Cx := ⟨Tryz.prog, (ix2 114 4236), [0,1,4,5,6,7,9,8,10], 41, [(3,[0,1,2,3,4,5]),(6,[0,1,2,3,4,5]),(9,[0,1,2,3,4,5]),(10,[0,1,2,3,4])]⟩
theorem is105 : cx105.fun? Tryz.f105 = some ir105 := by kernel_rfl
noncomputable def cx108 : Cx := ⟨Tryz.prog, (ix2 114 4236), [0], 20, []⟩
theorem is108 : cx108.fun? Tryz.f108 = some ir108 := by kernel_rfl
noncomputable def cx112 : Cx := ⟨Tryz.prog, (ix2 114 4236), [0,1,2,6,23,5,3,21,22,20,9,10,7], 50, []⟩
theorem is112 : cx112.fun? Tryz.f112 = some ir112 := by kernel_rfl
noncomputable def cx119 : Cx := ⟨Tryz.prog, (ix2 114 4236), [0,1,4,9,7,8,5], 19, []⟩
theorem is119 : cx119.fun? Tryz.f119 = some ir119 := by kernel_rfl
noncomputable def cx126 : Cx := ⟨Tryz.prog, (ix2 114 4236), [0,1,2,29,5,27,28,26,4,7], 49, [(8,[0,1,2,3,4,5,6,7,8,9,10,11,12,13])]⟩
theorem is126 : cx126.fun? Tryz.f126 = some ir126 := by kernel_rfl
noncomputable def cx129 : Cx := ⟨Tryz.prog, (ix2 114 4236), [0,2,3,45,117,5,6,43,44,42,8,7,4,10,12,9,11,13,115,116,114,16,19,18,14,15,17,20], 169, [(8,[0,1,2,3,4,5,6]),(25,[0,1,2,3,4,10,5,6,7,8,9,11,12,13]),(33,[0,1,2,3,4,5,6,7,8,10,9,11])]⟩
theorem is129 : cx129.fun? Tryz.f129 = some ir129 := by kernel_rfl
noncomputable def cx132 : Cx := ⟨Tryz.prog, (ix2 114 4236), [0,1,4,2,3], 24, []⟩
theorem is132 : cx132.fun? Tryz.f132 = some ir132 := by kernel_rfl
noncomputable def cx135 : Cx := ⟨Tryz.prog, (ix2 114 4236), [0,1,2,6,3], 17, []⟩
theorem is135 : cx135.fun? Tryz.f135 = some ir135 := by kernel_rfl
noncomputable def cx138 : Cx := ⟨Tryz.prog, (ix2 114 4236), [0,1,4,5,6], 20, []⟩
theorem is138 : cx138.fun? Tryz.f138 = some ir138 := by kernel_rfl
noncomputable def cx142 : Cx := ⟨Tryz.prog, (ix2 114 4236), [0,1,2,6,3,4,8], 30, []⟩
theorem is142 : cx142.fun? Tryz.f142 = some ir142 := by kernel_rfl
noncomputable def cx146 : Cx := ⟨Tryz.prog, (ix2 114 4236), [0,1,2,3,4,5,8,39,6,10,9,37,38,36,11,13,12], 60, [(9,[0,1,2,3,4,6,7,8,5,9,10,11,12,13,14,15])]⟩
theorem is146 : cx146.fun? Tryz.f146 = some ir146 := by kernel_rfl
noncomputable def cx161 : Cx := ⟨Tryz.prog, (ix2 114 4236), [0,2], 25, []⟩
theorem is161 : cx161.fun? Tryz.f161 = some ir161 := by kernel_rfl
noncomputable def cx164 : Cx := ⟨Tryz.prog, (ix2 114 4236), [0,2,3], 22, []⟩
theorem is164 : cx164.fun? Tryz.f164 = some ir164 := by kernel_rfl
noncomputable def cx167 : Cx := ⟨Tryz.prog, (ix2 114 4236), [0,1,2,3,4,11,8,10], 51, [(7,[0,1,2,3,4,5,6,7,8,9,10,11])]⟩
theorem is167 : cx167.fun? Tryz.f167 = some ir167 := by kernel_rfl
noncomputable def cx170 : Cx := ⟨Tryz.prog, (ix2 114 4236), [0,1,2,6,28,95,26,27,8,7,9,10,13,12,14,93,94,92,11,17,19,18,15], 149, [(5,[0,1,2,3,4,5,6,7,8,9,10,11,12,13,14,15]),(31,[0,1,2,3,4,5,6,7,8,9,10,11,12])]⟩
theorem is170 : cx170.fun? Tryz.f170 = some ir170 := by kernel_rfl
noncomputable def cx174 : Cx := ⟨Tryz.prog, (ix2 114 4236), [0,1,4,28,52,95,189,194,2,5,26,27,6,50,51,49,10,7,9,8,93,94,92,12,11,13,14,15,16,187,188,17,192,193,191,19,18,21], 216, [(7,[0,1,2,3,4,5,6,7,8,9,10,11,12]),(13,[0,1,2,3,4,5,6,7,8,9,10,11]),(14,[0,1,2,3,4,5,6,7,8,9,10]),(21,[0,1,2,3,4,5,6,7,8,9,10,11,12,13,14,15,16]),(24,[0,1,2,3,4,5,6,7,8,9]),(33,[0,1,2,3,4,5,6,7,8,9,10,11,12,13,14,15,16,17,18,19,20,21,22,23,24,25,26,27,28])]⟩
theorem is174 : cx174.fun? Tryz.f174 = some ir174 := by kernel_rfl
noncomputable def cx177 : Cx := ⟨Tryz.prog, (ix2 114 4236), [0,1,2,4], 12, []⟩
theorem is177 : cx177.fun? Tryz.f177 = some ir177 := by kernel_rfl
noncomputable def cx180 : Cx := ⟨Tryz.prog, (ix2 114 4236), [0,1,4,14,12,13,5], 26, [(6,[0,1,2,3,4,5,6,7,8])]⟩
theorem is180 : cx180.fun? Tryz.f180 = some ir180 := by kernel_rfl
noncomputable def cx195 : Cx := ⟨Tryz.prog, (ix2 114 4236), [0,1,4,2,3], 24, []⟩
theorem is195 : cx195.fun? Tryz.f195 = some ir195 := by kernel_rfl
noncomputable def cx198 : Cx := ⟨Tryz.prog, (ix2 114 4236), [0,1,2,3,4,10,62,127,144,166,5,11,32,7,12,13,60,61,59,14,16,84,17,18,125,126,124,20,19,164,165,163,21,22,23], 197, [(5,[0,1,2,3,4,5,6,7,8,9,10,11,12,13,14]),(20,[0,1,2,3,4,5,6,7,8,9,10,11,12,13]),(22,[0,1,2,3,4,5,6,7,8,9,10,11,12]),(31,[0,1,2,3,4,5,6,7,8,9,10,11,12,13,14])]⟩
theorem is198 : cx198.fun? Tryz.f198 = some ir198 := by kernel_rfl
noncomputable def cx201 : Cx := ⟨Tryz.prog, (ix2 114 4236), [0,2,3,5,4], 60, [(1,[0,1,2,3,4,5,6,9,10,11,12,13,14,15,16,17,18,19,7,8,20,21,22])]⟩
theorem is201 : cx201.fun? Tryz.f201 = some ir201 := by kernel_rfl
noncomputable def cx204 : Cx := ⟨Tryz.prog, (ix2 114 4236), [0,2,3,5,4], 18, []⟩
theorem is204 : cx204.fun? Tryz.f204 = some ir204 := by kernel_rfl
noncomputable def cx207 : Cx := ⟨Tryz.prog, (ix2 114 4236), [0,1,3,2], 10, []⟩
theorem is207 : cx207.fun? Tryz.f207 = some ir207 := by kernel_rfl
noncomputable def cx212 : Cx := ⟨Tryz.prog, (ix2 114 4236), [0,1,4,5,6,7,8], 48, [(9,[0,1,2,3,4,5,6,7,8,9])]⟩
theorem is212 : cx212.fun? Tryz.f212 = some ir212 := by kernel_rfl
noncomputable def cx215 : Cx := ⟨Tryz.prog, (ix2 114 4236), [0,1,2,24,103,172,22,23,21,9,6,10,7,12,11,13,101,102,100,15,16,170,171,169,19,17], 208, [(8,[0,1,2,3,4,5,6,7,8,9,10,11,12,13,14,15,16,17,18,19]),(10,[0,1,2,3,4,5,6,7,8,9,10,11,12,13,14,15]),(11,[0,1,2,3,4,5,6,7,8,9,10,11,12,13,14,15]),(20,[0,1,2,3,4,5,6,7,8,9,10,11,12,13,14,15,16]),(22,[0,1,2,3,4,5,6,7,8,9,10,11,12,13,14,15,16,17,18,19,20,21,22])]⟩
theorem is215 : cx215.fun? Tryz.f215 = some ir215 := by kernel_rfl
noncomputable def cx218 : Cx := ⟨Tryz.prog, (ix2 114 4236), [0,1,2,3,4], 37, [(1,[0,1,2,3,4,5,6,7,8,9,10,11,12,13,14,15,16,17,18,19,20])]⟩
theorem is218 : cx218.fun? Tryz.f218 = some ir218 := by kernel_rfl
noncomputable def cx225 : Cx := ⟨Tryz.prog, (ix2 114 4236), [0,1,4], 20, []⟩
theorem is225 : cx225.fun? Tryz.f225 = some ir225 := by kernel_rfl
noncomputable def cx232 : Cx := ⟨Tryz.prog, (ix2 114 4236), [0,2], 5, []⟩
theorem is232 : cx232.fun? Tryz.f232 = some ir232 := by kernel_rfl
noncomputable def cx236 : Cx := ⟨Tryz.prog, (ix2 114 4236), [0,2], 8, []⟩
theorem is236 : cx236.fun? Tryz.f236 = some ir236 := by kernel_rfl
noncomputable def cx240 : Cx := ⟨Tryz.prog, (ix2 114 4236), [0,1,2,6], 11, []⟩
theorem is240 : cx240.fun? Tryz.f240 = some ir240 := by kernel_rfl
noncomputable def cx243 : Cx := ⟨Tryz.prog, (ix2 114 4236), [0,2], 9, []⟩
theorem is243 : cx243.fun? Tryz.f243 = some ir243 := by kernel_rfl
noncomputable def cx250 : Cx := ⟨Tryz.prog, (ix2 114 4236), [0,2], 5, []⟩
theorem is250 : cx250.fun? Tryz.f250 = some ir250 := by kernel_rfl
noncomputable def cx265 : Cx := ⟨Tryz.prog, (ix2 114 4236), [0,1,4], 10, []⟩
theorem is265 : cx265.fun? Tryz.f265 = some ir265 := by kernel_rfl
noncomputable def cx275 : Cx := ⟨Tryz.prog, (ix2 114 4236), [0,1,2,6,8,7], 36, []⟩
theorem is275 : cx275.fun? Tryz.f275 = some ir275 := by kernel_rfl
end Go.Ev
