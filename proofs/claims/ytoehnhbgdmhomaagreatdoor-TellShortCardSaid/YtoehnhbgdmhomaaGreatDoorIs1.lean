/-
  Each function's instructions are those into which the evaluator turns the program's own code (by the kernel).
  No condition stands but those in each theorem's own words.
-/
import Derived.Test.YtoehnhbgdmhomaaGreatDoorIr0
import Derived.Test.YtoehnhbgdmhomaaGreatDoorIr1
import Derived.Test.YtoehnhbgdmhomaaGreatDoorProg
set_option maxRecDepth 1000000
namespace Go.Ev
open Go.Proofs
noncomputable def cx4 : Cx := ⟨Tryz.prog, Nat.beq 209, [0,1,2,6,7,8,22,21,11,10,9,12,16,13,14,15], 116, [(20,[0,1,2,3,4,5,6,7,8,9,10,11,12,13,14,15,16,17,18])]⟩
theorem is4 : cx4.fun? Tryz.f4 = some ir4 := by kernel_rfl
noncomputable def cx8 : Cx := ⟨Tryz.prog, Nat.beq 209, [0,2], 10, []⟩
theorem is8 : cx8.fun? Tryz.f8 = some ir8 := by kernel_rfl
noncomputable def cx12 : Cx := ⟨Tryz.prog, Nat.beq 209, [0,1,2,3,4,10,12,11,6,7], 29, []⟩
theorem is12 : cx12.fun? Tryz.f12 = some ir12 := by kernel_rfl
noncomputable def cx16 : Cx := ⟨Tryz.prog, Nat.beq 209, [0,1,4,5,39,37,38,36,7,9,8,6,10,11], 83, []⟩
theorem is16 : cx16.fun? Tryz.f16 = some ir16 := by kernel_rfl
noncomputable def cx20 : Cx := ⟨Tryz.prog, Nat.beq 209, [0,2,3,4], 10, []⟩
theorem is20 : cx20.fun? Tryz.f20 = some ir20 := by kernel_rfl
noncomputable def cx24 : Cx := ⟨Tryz.prog, Nat.beq 209, [0,2,3,4,5,6,7], 32, [(6,[0,1,2,3,4,5,6,7,8])]⟩
theorem is24 : cx24.fun? Tryz.f24 = some ir24 := by kernel_rfl
noncomputable def cx28 : Cx := ⟨Tryz.prog, Nat.beq 209, [0,1,4,5,6,9,8,7,11,10,12,14,13], 67, []⟩
theorem is28 : cx28.fun? Tryz.f28 = some ir28 := by kernel_rfl
noncomputable def cx32 : Cx := ⟨Tryz.prog, Nat.beq 209, [0,2,1,3,4], 34, []⟩
theorem is32 : cx32.fun? Tryz.f32 = some ir32 := by kernel_rfl
noncomputable def cx36 : Cx := ⟨Tryz.prog, Nat.beq 209, [0], 6, []⟩
theorem is36 : cx36.fun? Tryz.f36 = some ir36 := by kernel_rfl
noncomputable def cx42 : Cx := ⟨Tryz.prog, Nat.beq 209, [0,1,2,6,13,7,11,12,8,4], 24, []⟩
theorem is42 : cx42.fun? Tryz.f42 = some ir42 := by kernel_rfl
noncomputable def cx46 : Cx := ⟨Tryz.prog, Nat.beq 209, [0,1,2,3,4,10,11,8,7,12,13,14], 124, [(2,[0,1,2,3,4]),(12,[0,1,2,3,4,5,6,7,8,9,10]),(18,[0,1,2,3,4,5,6,7,8,9,10,11,12,13,14,15,16,17,18,19,20,21,22,23,24,25,26,27]),(19,[0,1,2,3,4,5,6,7,8,9,10])]⟩
theorem is46 : cx46.fun? Tryz.f46 = some ir46 := by kernel_rfl
noncomputable def cx50 : Cx := ⟨Tryz.prog, Nat.beq 209, [0,2,171,3,45,48,6,53,7,58,64,68,10,5,12,4,13,169,170,168,15,16,14], 213, [(1,[0,1,2,3,4,5,6,7,8,9]),(3,[0,1,2,3,4,5,6,7,8,9,10,11]),(45,[0,1,2,3,4,5,6,7,8,9,10,11,12,13,14,15,16,17])]⟩
theorem is50 : cx50.fun? Tryz.f50 = some ir50 := by kernel_rfl
noncomputable def cx54 : Cx := ⟨Tryz.prog, Nat.beq 209, [0,1,2,6], 13, []⟩
theorem is54 : cx54.fun? Tryz.f54 = some ir54 := by kernel_rfl
noncomputable def cx58 : Cx := ⟨Tryz.prog, Nat.beq 209, [0,1,4,24,42,2,22,23,21,7,3,40,41,39,11,8,10,9,5,13,12], 86, [(5,[0,1,2,3,4,5,6]),(12,[0,1,2,3,4,5,6,7,8,9,10,11,12,13])]⟩
theorem is58 : cx58.fun? Tryz.f58 = some ir58 := by kernel_rfl
noncomputable def cx63 : Cx := ⟨Tryz.prog, Nat.beq 209, [0,1,4,9,7,8,5], 19, []⟩
theorem is63 : cx63.fun? Tryz.f63 = some ir63 := by kernel_rfl
noncomputable def cx67 : Cx := ⟨Tryz.prog, Nat.beq 209, [0,1,4,5,47,109,6,45,46,44,8,9,107,108,106,11,12,13,15,10,14], 145, [(6,[0,1,2,3,4,5,6]),(9,[0,1,2,3,4,5,6,7,8,9,10,11,12,13,14,15,16,17,18,19,20,21,22,23,24,25,26,27,28,29])]⟩
theorem is67 : cx67.fun? Tryz.f67 = some ir67 := by kernel_rfl
noncomputable def cx71 : Cx := ⟨Tryz.prog, Nat.beq 209, [0,2,3,5,4,6,8,9,7], 59, []⟩
theorem is71 : cx71.fun? Tryz.f71 = some ir71 := by kernel_rfl
noncomputable def cx75 : Cx := ⟨Tryz.prog, Nat.beq 209, [0,2], 8, []⟩
theorem is75 : cx75.fun? Tryz.f75 = some ir75 := by kernel_rfl
noncomputable def cx79 : Cx := ⟨Tryz.prog, Nat.beq 209, [0,1,4,6,5], 37, []⟩
theorem is79 : cx79.fun? Tryz.f79 = some ir79 := by kernel_rfl
noncomputable def cx83 : Cx := ⟨Tryz.prog, Nat.beq 209, [0,1], 12, []⟩
theorem is83 : cx83.fun? Tryz.f83 = some ir83 := by kernel_rfl
noncomputable def cx87 : Cx := ⟨Tryz.prog, Nat.beq 209, [0,2,3,4,5,6,7], 57, []⟩
theorem is87 : cx87.fun? Tryz.f87 = some ir87 := by kernel_rfl
noncomputable def cx91 : Cx := ⟨Tryz.prog, Nat.beq 209, [0,2,13,11,12,10,5,4,6,3], 44, []⟩
theorem is91 : cx91.fun? Tryz.f91 = some ir91 := by kernel_rfl
noncomputable def cx97 : Cx := ⟨Tryz.prog, Nat.beq 209, [0,2,4,3], 33, []⟩
theorem is97 : cx97.fun? Tryz.f97 = some ir97 := by kernel_rfl
noncomputable def cx101 : Cx := ⟨Tryz.prog, Nat.beq 209, [0,2], 9, []⟩
theorem is101 : cx101.fun? Tryz.f101 = some ir101 := by kernel_rfl
noncomputable def cx105 : Cx := ⟨Tryz.prog, Nat.beq 209, [0,1,4,7,5,6], 13, []⟩
theorem is105 : cx105.fun? Tryz.f105 = some ir105 := by kernel_rfl
noncomputable def cx109 : Cx := ⟨Tryz.prog, Nat.beq 209, [0,1,4,14,12,13,5], 26, [(6,[0,1,2,3,4,5,6,7,8])]⟩
theorem is109 : cx109.fun? Tryz.f109 = some ir109 := by kernel_rfl
noncomputable def cx113 : Cx := ⟨Tryz.prog, Nat.beq 209, [0,1,2,3,5], 14, [(1,[0,1,2,3,4,5,6,7,8])]⟩
theorem is113 : cx113.fun? Tryz.f113 = some ir113 := by kernel_rfl
noncomputable def cx119 : Cx := ⟨Tryz.prog, Nat.beq 209, [0,1,2,6,3,4,5], 8, []⟩
theorem is119 : cx119.fun? Tryz.f119 = some ir119 := by kernel_rfl
noncomputable def cx123 : Cx := ⟨Tryz.prog, Nat.beq 209, [0,2], 7, []⟩
theorem is123 : cx123.fun? Tryz.f123 = some ir123 := by kernel_rfl
noncomputable def cx127 : Cx := ⟨Tryz.prog, Nat.beq 209, [0,1,2,3,8,9,6,10,11], 42, [(1,[0,2,3,1,4,5,6,7,8,9])]⟩
theorem is127 : cx127.fun? Tryz.f127 = some ir127 := by kernel_rfl
noncomputable def cx131 : Cx := ⟨Tryz.prog, Nat.beq 209, [0,1,4,2,3], 24, []⟩
theorem is131 : cx131.fun? Tryz.f131 = some ir131 := by kernel_rfl
noncomputable def cx135 : Cx := ⟨Tryz.prog, Nat.beq 209, [0,2,3], 28, [(3,[0,1,2,3,4,5,6,7,8,9,10,11,12,13,14,15])]⟩
theorem is135 : cx135.fun? Tryz.f135 = some ir135 := by kernel_rfl
noncomputable def cx139 : Cx := ⟨Tryz.prog, Nat.beq 209, [0,2,3,4,5,6,7], 25, [(3,[0,1,2,3,4,5])]⟩
theorem is139 : cx139.fun? Tryz.f139 = some ir139 := by kernel_rfl
noncomputable def cx144 : Cx := ⟨Tryz.prog, Nat.beq 209, [0,1,4], 16, []⟩
theorem is144 : cx144.fun? Tryz.f144 = some ir144 := by kernel_rfl
noncomputable def cx149 : Cx := ⟨Tryz.prog, Nat.beq 209, [0,1,4,5,6,7,8,9,10,11,12], 106, []⟩
theorem is149 : cx149.fun? Tryz.f149 = some ir149 := by kernel_rfl
noncomputable def cx153 : Cx := ⟨Tryz.prog, Nat.beq 209, [0,1,4], 13, [(1,[0,2,3,4,5,6,1,7,8])]⟩
theorem is153 : cx153.fun? Tryz.f153 = some ir153 := by kernel_rfl
noncomputable def cx165 : Cx := ⟨Tryz.prog, Nat.beq 209, [0,2], 25, []⟩
theorem is165 : cx165.fun? Tryz.f165 = some ir165 := by kernel_rfl
noncomputable def cx171 : Cx := ⟨Tryz.prog, Nat.beq 209, [0,1,2,4], 10, []⟩
theorem is171 : cx171.fun? Tryz.f171 = some ir171 := by kernel_rfl
noncomputable def cx175 : Cx := ⟨Tryz.prog, Nat.beq 209, [0,1,4], 22, []⟩
theorem is175 : cx175.fun? Tryz.f175 = some ir175 := by kernel_rfl
noncomputable def cx179 : Cx := ⟨Tryz.prog, Nat.beq 209, [0,2,4,3,5,6,7], 59, [(13,[0,1,2,3,4,5,6])]⟩
theorem is179 : cx179.fun? Tryz.f179 = some ir179 := by kernel_rfl
noncomputable def cx183 : Cx := ⟨Tryz.prog, Nat.beq 209, [0,1,2,6,7,4,9,8,12,10,13,11], 91, [(10,[0,1,2,3,5,6,7,8,9,10,4,11,12,13,14,15,16])]⟩
theorem is183 : cx183.fun? Tryz.f183 = some ir183 := by kernel_rfl
noncomputable def cx187 : Cx := ⟨Tryz.prog, Nat.beq 209, [0,2,4,1,5,3], 43, []⟩
theorem is187 : cx187.fun? Tryz.f187 = some ir187 := by kernel_rfl
noncomputable def cx191 : Cx := ⟨Tryz.prog, Nat.beq 209, [0,1,45,4,43,44,42,6,5], 65, [(1,[0,1,2,3,4,5,6,7,8,9,10,11,12,13]),(2,[0,1,2,3,4,5,6,7,8,9,10,11,12,13,14,15,16,17,18,19,20,21]),(5,[0,1,2,3,4,5,6,7,8,9,10,11,12,13,14,15])]⟩
theorem is191 : cx191.fun? Tryz.f191 = some ir191 := by kernel_rfl
noncomputable def cx196 : Cx := ⟨Tryz.prog, Nat.beq 209, [0,1,4,28,52,95,189,194,2,5,26,27,6,50,51,49,10,7,9,8,93,94,92,12,11,13,14,15,16,187,188,17,192,193,191,19,18,21], 216, [(7,[0,1,2,3,4,5,6,7,8,9,10,11,12]),(13,[0,1,2,3,4,5,6,7,8,9,10,11]),(14,[0,1,2,3,4,5,6,7,8,9,10]),(21,[0,1,2,3,4,5,6,7,8,9,10,11,12,13,14,15,16]),(24,[0,1,2,3,4,5,6,7,8,9]),(33,[0,1,2,3,4,5,6,7,8,9,10,11,12,13,14,15,16,17,18,19,20,21,22,23,24,25,26,27,28])]⟩
theorem is196 : cx196.fun? Tryz.f196 = some ir196 := by kernel_rfl
noncomputable def cx200 : Cx := ⟨Tryz.prog, Nat.beq 209, [0,1,4,14,12,13,5], 26, [(6,[0,1,2,3,4,5,6,7,8])]⟩
theorem is200 : cx200.fun? Tryz.f200 = some ir200 := by kernel_rfl
noncomputable def cx204 : Cx := ⟨Tryz.prog, Nat.beq 209, [0,1,4,2,3], 24, []⟩
theorem is204 : cx204.fun? Tryz.f204 = some ir204 := by kernel_rfl
noncomputable def cx208 : Cx := ⟨Tryz.prog, Nat.beq 209, [0,1,2,3,8,9,10,11], 53, []⟩
theorem is208 : cx208.fun? Tryz.f208 = some ir208 := by kernel_rfl
noncomputable def cx215 : Cx := ⟨Tryz.prog, Nat.beq 209, [0,1,4,9,7,8,5], 19, []⟩
theorem is215 : cx215.fun? Tryz.f215 = some ir215 := by kernel_rfl
noncomputable def cx225 : Cx := ⟨Tryz.prog, Nat.beq 209, [0,2], 9, []⟩
theorem is225 : cx225.fun? Tryz.f225 = some ir225 := by kernel_rfl
noncomputable def cx229 : Cx := ⟨Tryz.prog, Nat.beq 209, [0,1,2,6,7,8], 60, [(8,[0,1,2,3,4,5,6,7]),(9,[0,1,2,3,4,5,6,7])]⟩
theorem is229 : cx229.fun? Tryz.f229 = some ir229 := by kernel_rfl
noncomputable def cx233 : Cx := ⟨Tryz.prog, Nat.beq 209, [0,1,2,6,4,7,8,9,11,10], 108, [(10,[0,1,2,3,4,5,6,7,8,9,10,11,12,13,14]),(20,[0,1,2,3,4,5,6,7,8,9,10,11])]⟩
theorem is233 : cx233.fun? Tryz.f233 = some ir233 := by kernel_rfl
noncomputable def cx237 : Cx := ⟨Tryz.prog, Nat.beq 209, [0,1,4,9,7,8,5], 19, []⟩
theorem is237 : cx237.fun? Tryz.f237 = some ir237 := by kernel_rfl
noncomputable def cx241 : Cx := ⟨Tryz.prog, Nat.beq 209, [0,1,3,2], 10, []⟩
theorem is241 : cx241.fun? Tryz.f241 = some ir241 := by kernel_rfl
noncomputable def cx245 : Cx := ⟨Tryz.prog, Nat.beq 209, [0,2,26,51,3,24,25,7,8,49,50,48,10,5,12,11,6,4], 98, [(13,[0,1,3,4,2,5,6]),(14,[0,1,3,4,5,6,7,2,8,9])]⟩
theorem is245 : cx245.fun? Tryz.f245 = some ir245 := by kernel_rfl
noncomputable def cx249 : Cx := ⟨Tryz.prog, Nat.beq 209, [0,1,2,24,103,172,22,23,21,9,6,10,7,12,11,13,101,102,100,15,16,170,171,169,19,17], 208, [(8,[0,1,2,3,4,5,6,7,8,9,10,11,12,13,14,15,16,17,18,19]),(10,[0,1,2,3,4,5,6,7,8,9,10,11,12,13,14,15]),(11,[0,1,2,3,4,5,6,7,8,9,10,11,12,13,14,15]),(20,[0,1,2,3,4,5,6,7,8,9,10,11,12,13,14,15,16]),(22,[0,1,2,3,4,5,6,7,8,9,10,11,12,13,14,15,16,17,18,19,20,21,22])]⟩
theorem is249 : cx249.fun? Tryz.f249 = some ir249 := by kernel_rfl
noncomputable def cx253 : Cx := ⟨Tryz.prog, Nat.beq 209, [0,1,4,6,5], 49, []⟩
theorem is253 : cx253.fun? Tryz.f253 = some ir253 := by kernel_rfl
noncomputable def cx263 : Cx := ⟨Tryz.prog, Nat.beq 209, [0,2,3,4,39], 147, [(1,[0,1,2,3,4,5,6,7,8,9,10,11,12]),(19,[0,1,2,3,4,5,6,7,8,9,10,11,12,13,14]),(23,[0,1,2,3,4,5,6,7,8,9,10,11,12,13,14,15,16,17,18,19]),(8,[0,1,2,3,4,5,6,7,8,9])]⟩
theorem is263 : cx263.fun? Tryz.f263 = some ir263 := by kernel_rfl
noncomputable def cx272 : Cx := ⟨Tryz.prog, Nat.beq 209, [0,1,4,21,19,20,18,5,7], 37, []⟩
theorem is272 : cx272.fun? Tryz.f272 = some ir272 := by kernel_rfl
noncomputable def cx277 : Cx := ⟨Tryz.prog, Nat.beq 209, [0,1,2,3,4,12,10,14,13,11,15,17,16,18,19,20], 148, [(17,[0,1,2,3,4,5,6,7,8,9,10,11,12,13,14,15,16])]⟩
theorem is277 : cx277.fun? Tryz.f277 = some ir277 := by kernel_rfl
noncomputable def cx281 : Cx := ⟨Tryz.prog, Nat.beq 209, [0,1,4,5,6,7,8,9], 30, []⟩
theorem is281 : cx281.fun? Tryz.f281 = some ir281 := by kernel_rfl
noncomputable def cx285 : Cx := ⟨Tryz.prog, Nat.beq 209, [0,1,4,5,7,6], 72, [(3,[0,1,2,3,4,5,6,7,8,9,10,11,12,13,14,15,16]),(7,[0,1,2,3,4,5,6,7,8,9,10,11,12,13,14,15,16,17,18,19,20,21,22,23,24,25])]⟩
theorem is285 : cx285.fun? Tryz.f285 = some ir285 := by kernel_rfl
noncomputable def cx299 : Cx := ⟨Tryz.prog, Nat.beq 209, [0,1,2,3,8,9], 53, [(4,[0,1,2,3,4,5,6,7,8,9,10,11,12,13,14,15,16]),(6,[0,1,2,3,4,5,6,7,8,9,10,11,12,13,14,15,16,17])]⟩
theorem is299 : cx299.fun? Tryz.f299 = some ir299 := by kernel_rfl
noncomputable def cx311 : Cx := ⟨Tryz.prog, Nat.beq 209, [0,1,4,6,7,5,9], 54, []⟩
theorem is311 : cx311.fun? Tryz.f311 = some ir311 := by kernel_rfl
end Go.Ev
