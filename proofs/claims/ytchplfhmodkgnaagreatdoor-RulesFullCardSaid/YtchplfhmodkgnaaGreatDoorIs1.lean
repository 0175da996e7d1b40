/-
  Each function's instructions are those into which the evaluator turns the program's own code (by the kernel).
  No condition stands but those in each theorem's own words.
-/
import Derived.Test.YtchplfhmodkgnaaGreatDoorIr0
import Derived.Test.YtchplfhmodkgnaaGreatDoorIr1
import Derived.Test.YtchplfhmodkgnaaGreatDoorProg
set_option maxRecDepth 1000000
namespace Go.Ev
open Go.Proofs
noncomputable def cx4 : Cx := ⟨Tryz.prog, (ix2 114 4236), [0], 3, []⟩
theorem is4 : cx4.fun? Tryz.f4 = some ir4 := by kernel_rfl
noncomputable def cx7 : Cx := ⟨Tryz.prog, (ix2 114 4236), [0,2], 10, []⟩
theorem is7 : cx7.fun? Tryz.f7 = some ir7 := by kernel_rfl
noncomputable def cx10 : Cx := ⟨Tryz.prog, (ix2 114 4236), [0,11,1,3,5,7,9,13,15,14,18,16,17], 120, []⟩
theorem is10 : cx10.fun? Tryz.f10 = some ir10 := by kernel_rfl
noncomputable def cx13 : Cx := ⟨Tryz.prog, (ix2 114 4236), [0,2,1,3,4], 34, []⟩
theorem is13 : cx13.fun? Tryz.f13 = some ir13 := by kernel_rfl
noncomputable def cx16 : Cx := ⟨Tryz.prog, (ix2 114 4236), [0,1,4,5], 22, []⟩
theorem is16 : cx16.fun? Tryz.f16 = some ir16 := by kernel_rfl
noncomputable def cx19 : Cx := ⟨Tryz.prog, (ix2 114 4236), [0,2,3,27,5,4,25,26,24,7,9,6], 38, []⟩
theorem is19 : cx19.fun? Tryz.f19 = some ir19 := by kernel_rfl
noncomputable def cx22 : Cx := ⟨Tryz.prog, (ix2 114 4236), [0,1,4,5,8,16], 22, []⟩
theorem is22 : cx22.fun? Tryz.f22 = some ir22 := by kernel_rfl
noncomputable def cx25 : Cx := ⟨Tryz.prog, (ix2 114 4236), [0,1,9,7,8,6,5], 18, []⟩
theorem is25 : cx25.fun? Tryz.f25 = some ir25 := by kernel_rfl
noncomputable def cx29 : Cx := ⟨Tryz.prog, (ix2 114 4236), [0,2], 14, [(1,[0,1,2,3,4,5,6,7,8,9,10,11])]⟩
theorem is29 : cx29.fun? Tryz.f29 = some ir29 := by kernel_rfl
noncomputable def cx32 : Cx := ⟨Tryz.prog, (ix2 114 4236), [0,1,4], 8, []⟩
theorem is32 : cx32.fun? Tryz.f32 = some ir32 := by kernel_rfl
noncomputable def cx36 : Cx := ⟨Tryz.prog, (ix2 114 4236), [0,1,4], 16, []⟩
theorem is36 : cx36.fun? Tryz.f36 = some ir36 := by kernel_rfl
noncomputable def cx43 : Cx := ⟨Tryz.prog, (ix2 114 4236), [0,2,3,4,5,6,7], 57, []⟩
theorem is43 : cx43.fun? Tryz.f43 = some ir43 := by kernel_rfl
noncomputable def cx46 : Cx := ⟨Tryz.prog, (ix2 114 4236), [0,2,29,56,27,28,26,3,5,6,7,54,55,53,8,10], 67, [(6,[0,1,2,3,4,5,6,7,8,9,10,11])]⟩
theorem is46 : cx46.fun? Tryz.f46 = some ir46 := by kernel_rfl
noncomputable def cx49 : Cx := ⟨Tryz.prog, (ix2 114 4236), [0,2,10,3,8,9,4], 26, []⟩
theorem is49 : cx49.fun? Tryz.f49 = some ir49 := by kernel_rfl
noncomputable def cx52 : Cx := ⟨Tryz.prog, (ix2 114 4236), [0,1,2,22,3,20,21,19,7,6], 37, [(5,[0,1,3,4,5,8,2,6,7,9])]⟩
theorem is52 : cx52.fun? Tryz.f52 = some ir52 := by kernel_rfl
noncomputable def cx55 : Cx := ⟨Tryz.prog, (ix2 114 4236), [0,1,4,2,3], 27, []⟩
theorem is55 : cx55.fun? Tryz.f55 = some ir55 := by kernel_rfl
noncomputable def cx58 : Cx := ⟨Tryz.prog, (ix2 114 4236), [0,1,4,5], 19, []⟩
theorem is58 : cx58.fun? Tryz.f58 = some ir58 := by kernel_rfl
noncomputable def cx66 : Cx := ⟨Tryz.prog, (ix2 114 4236), [0,1,2,3,4,10,11,5,13,12,15,7,14], 45, [(1,[0,1,2,3,4,5,6,7,8,9,10])]⟩
theorem is66 : cx66.fun? Tryz.f66 = some ir66 := by kernel_rfl
noncomputable def cx69 : Cx := ⟨Tryz.prog, (ix2 114 4236), [0,1,4], 8, []⟩
theorem is69 : cx69.fun? Tryz.f69 = some ir69 := by kernel_rfl
noncomputable def cx76 : Cx := ⟨Tryz.prog, (ix2 114 4236), [0,2,4,3], 33, []⟩
theorem is76 : cx76.fun? Tryz.f76 = some ir76 := by kernel_rfl
noncomputable def cx79 : Cx := ⟨Tryz.prog, (ix2 114 4236), [0,2], 9, []⟩
theorem is79 : cx79.fun? Tryz.f79 = some ir79 := by kernel_rfl
noncomputable def cx86 : Cx := ⟨Tryz.prog, (ix2 114 4236), [0,1,2,6,3,7], 26, []⟩
theorem is86 : cx86.fun? Tryz.f86 = some ir86 := by kernel_rfl
noncomputable def cx89 : Cx := ⟨Tryz.prog, (ix2 114 4236), [0,1,2,6,18,16,17,15,7,8,9], 32, []⟩
theorem is89 : cx89.fun? Tryz.f89 = some ir89 := by kernel_rfl
noncomputable def cx94 : Cx := ⟨Tryz.prog, (ix2 114 4236), [0,1,2], 31, [(1,[0,1,2,3,4,5]),(2,[0,1,2,3,4,5,6,7]),(3,[0,1,2,3,4,5,6,7])]⟩
theorem is94 : cx94.fun? Tryz.f94 = some ir94 := by kernel_rfl
noncomputable def cx97 : Cx := ⟨Tryz.prog, (ix2 114 4236), [0,1,4], 14, []⟩
theorem is97 : cx97.fun? Tryz.f97 = some ir97 := by kernel_rfl
noncomputable def cx100 : Cx := ⟨Tryz.prog, (ix2 114 4236), [0,1,4,20,18,19,17,5,7], 35, [(5,[0,1,2,3,4,5,6,7,8])]⟩
theorem is100 : cx100.fun? Tryz.f100 = some ir100 := by kernel_rfl
noncomputable def cx103 : Cx := ⟨Tryz.prog, (ix2 114 4236), [0,1,4,8,37,2,35,36,34,5,7], 47, []⟩
theorem is103 : cx103.fun? Tryz.f103 = some ir103 := by kernel_rfl
noncomputable def cx106 : Cx := ⟨Tryz.prog, (ix2 114 4236), [0,1,4,5,6,60,2,3,7,8,11,12,58,59,13,14,9,10], 118, [(4,[0,2,1,3,4,5]),(14,[0,1,2,4,5,6,3,7,8]),(18,[0,1,2,3,5,6,7,8,11,4,9,10,12]),(23,[0,1,2,3,4,5,6,7,8])]⟩
theorem is106 : cx106.fun? Tryz.f106 = some ir106 := by kernel_rfl
noncomputable def cx110 : Cx := ⟨Tryz.prog, (ix2 114 4236), [0,1,2,6,7,3,8,9,10,5], 32, []⟩
theorem is110 : cx110.fun? Tryz.f110 = some ir110 := by kernel_rfl
noncomputable def cx113 : Cx := ⟨Tryz.prog, (ix2 114 4236), [0,1,2,6,7,8,9], 40, []⟩
theorem is113 : cx113.fun? Tryz.f113 = some ir113 := by kernel_rfl
noncomputable def cx124 : Cx := ⟨Tryz.prog, (ix2 114 4236), [0,1,2,3,4,12,10,14,13,11,15,17,16,18,19,20], 148, [(17,[0,1,2,3,4,5,6,7,8,9,10,11,12,13,14,15,16])]⟩
theorem is124 : cx124.fun? Tryz.f124 = some ir124 := by kernel_rfl
noncomputable def cx127 : Cx := ⟨Tryz.prog, (ix2 114 4236), [0,2], 8, []⟩
theorem is127 : cx127.fun? Tryz.f127 = some ir127 := by kernel_rfl
noncomputable def cx130 : Cx := ⟨Tryz.prog, (ix2 114 4236), [0,1,4,2,3], 18, []⟩
theorem is130 : cx130.fun? Tryz.f130 = some ir130 := by kernel_rfl
noncomputable def cx133 : Cx := ⟨Tryz.prog, (ix2 114 4236), [0,1,4,3,6,5], 49, [(1,[0,1,2,3,4,5,6,7,8,9,10]),(6,[0,1,2,3,4,5,6]),(7,[0,1,2,3,4,5,6,7,8,9,10])]⟩
theorem is133 : cx133.fun? Tryz.f133 = some ir133 := by kernel_rfl
noncomputable def cx136 : Cx := ⟨Tryz.prog, (ix2 114 4236), [0,2,3], 28, [(3,[0,1,2,3,4,5,6,7,8,9,10,11,12,13,14,15])]⟩
theorem is136 : cx136.fun? Tryz.f136 = some ir136 := by kernel_rfl
noncomputable def cx139 : Cx := ⟨Tryz.prog, (ix2 114 4236), [0,1,2,6,13,7,11,12,8,4], 24, []⟩
theorem is139 : cx139.fun? Tryz.f139 = some ir139 := by kernel_rfl
noncomputable def cx144 : Cx := ⟨Tryz.prog, (ix2 114 4236), [0,2,1,3], 9, []⟩
theorem is144 : cx144.fun? Tryz.f144 = some ir144 := by kernel_rfl
noncomputable def cx147 : Cx := ⟨Tryz.prog, (ix2 114 4236), [0,2,171,3,45,48,6,53,7,58,64,68,10,5,12,4,13,169,170,168,15,16,14], 213, [(1,[0,1,2,3,4,5,6,7,8,9]),(3,[0,1,2,3,4,5,6,7,8,9,10,11]),(45,[0,1,2,3,4,5,6,7,8,9,10,11,12,13,14,15,16,17])]⟩
theorem is147 : cx147.fun? Tryz.f147 = some ir147 := by kernel_rfl
noncomputable def cx162 : Cx := ⟨Tryz.prog, (ix2 114 4236), [0,2], 7, []⟩
theorem is162 : cx162.fun? Tryz.f162 = some ir162 := by kernel_rfl
noncomputable def cx165 : Cx := ⟨Tryz.prog, (ix2 114 4236), [0,1,4], 30, [(1,[0,1,2,3,4,5,6,8,9,10,11,12,13,7,14,15,16,17,18,19,20])]⟩
theorem is165 : cx165.fun? Tryz.f165 = some ir165 := by kernel_rfl
noncomputable def cx168 : Cx := ⟨Tryz.prog, (ix2 114 4236), [0,1,45,4,43,44,42,6,5], 65, [(1,[0,1,2,3,4,5,6,7,8,9,10,11,12,13]),(2,[0,1,2,3,4,5,6,7,8,9,10,11,12,13,14,15,16,17,18,19,20,21]),(5,[0,1,2,3,4,5,6,7,8,9,10,11,12,13,14,15])]⟩
theorem is168 : cx168.fun? Tryz.f168 = some ir168 := by kernel_rfl
noncomputable def cx171 : Cx := ⟨Tryz.prog, (ix2 114 4236), [0,2,1], 17, []⟩
theorem is171 : cx171.fun? Tryz.f171 = some ir171 := by kernel_rfl
noncomputable def cx175 : Cx := ⟨Tryz.prog, (ix2 114 4236), [0,1,2,3,4,10,11,34,12,14,32,33,15,16,18,17,13], 82, [(19,[0,1,2,3,4,5,6,7,8,9,10,11,12])]⟩
theorem is175 : cx175.fun? Tryz.f175 = some ir175 := by kernel_rfl
noncomputable def cx178 : Cx := ⟨Tryz.prog, (ix2 114 4236), [0,1,4,14,12,13,5], 26, [(6,[0,1,2,3,4,5,6,7,8])]⟩
theorem is178 : cx178.fun? Tryz.f178 = some ir178 := by kernel_rfl
noncomputable def cx181 : Cx := ⟨Tryz.prog, (ix2 114 4236), [0,2], 6, []⟩
theorem is181 : cx181.fun? Tryz.f181 = some ir181 := by kernel_rfl
noncomputable def cx196 : Cx := ⟨Tryz.prog, (ix2 114 4236), [0,1,4,14,12,13,5], 26, [(6,[0,1,2,3,4,5,6,7,8])]⟩
theorem is196 : cx196.fun? Tryz.f196 = some ir196 := by kernel_rfl
noncomputable def cx199 : Cx := ⟨Tryz.prog, (ix2 114 4236), [0,2,13,11,12,4,5,6,3], 44, []⟩
theorem is199 : cx199.fun? Tryz.f199 = some ir199 := by kernel_rfl
noncomputable def cx202 : Cx := ⟨Tryz.prog, (ix2 114 4236), [0,1,2,3], 26, [(0,[0,1,2,3,4,5,6,7,8,9,10,11,12,13,14,15,16,17,18])]⟩
theorem is202 : cx202.fun? Tryz.f202 = some ir202 := by kernel_rfl
noncomputable def cx205 : Cx := ⟨Tryz.prog, (ix2 114 4236), [0,2,30,37,82,28,29,27,7,35,36,34,3,9,6,4,5,10,80,81,79,12], 99, [(10,[0,1,2,3,4,5,6,7,8,9,10,11,12])]⟩
theorem is205 : cx205.fun? Tryz.f205 = some ir205 := by kernel_rfl
noncomputable def cx208 : Cx := ⟨Tryz.prog, (ix2 114 4236), [0,1,4], 14, []⟩
theorem is208 : cx208.fun? Tryz.f208 = some ir208 := by kernel_rfl
noncomputable def cx213 : Cx := ⟨Tryz.prog, (ix2 114 4236), [0,2,23,34,1,21,22,20,4,32,33,31,6], 66, []⟩
theorem is213 : cx213.fun? Tryz.f213 = some ir213 := by kernel_rfl
noncomputable def cx216 : Cx := ⟨Tryz.prog, (ix2 114 4236), [0,1,2,3], 12, []⟩
theorem is216 : cx216.fun? Tryz.f216 = some ir216 := by kernel_rfl
noncomputable def cx219 : Cx := ⟨Tryz.prog, (ix2 114 4236), [0,1,4,6,5], 49, []⟩
theorem is219 : cx219.fun? Tryz.f219 = some ir219 := by kernel_rfl
noncomputable def cx230 : Cx := ⟨Tryz.prog, (ix2 114 4236), [0,2,3,5,4,7,6], 306, [(1,[0,1,2,3,4,5,6,7,8,9,10,11,12,13,14]),(2,[0,1,2,3,4,5,6,7,8,9,10,11,12,13,14,15,16,17]),(5,[0,1,2,3,4,5,6,7,8,9,10,11,12]),(8,[0,1,2,3,4,5,6,7,8,9,10,11,12,13,14,15,16,17]),(9,[0,1,2,3,4,5,6,7,8,9,10,11,12]),(15,[0,1,2,3,4,5,6,7,8,9,10,11,12,13,14,15,16,17,18,19,20,21,22]),(17,[0,1,2,3,4,5,6,7,8,9,10,11,12,13,14,15,16,17,18]),(31,[0,1,2,3,4,5,6,7,8,9,10,11,12,13,14,15]),(33,[0,1,2,3,4,5,6,7,8,9,10,11,12,13,14,15,16,17,18,19,20,21,22,23])]⟩
theorem is230 : cx230.fun? Tryz.f230 = some ir230 := by kernel_rfl
noncomputable def cx233 : Cx := ⟨Tryz.prog, (ix2 114 4236), [0,1,4,21,19,20,18,5,7], 37, []⟩
theorem is233 : cx233.fun? Tryz.f233 = some ir233 := by kernel_rfl
noncomputable def cx237 : Cx := ⟨Tryz.prog, (ix2 114 4236), [0,1,4,9,7,8,5], 19, []⟩
theorem is237 : cx237.fun? Tryz.f237 = some ir237 := by kernel_rfl
noncomputable def cx241 : Cx := ⟨Tryz.prog, (ix2 114 4236), [0,1,4], 8, []⟩
theorem is241 : cx241.fun? Tryz.f241 = some ir241 := by kernel_rfl
noncomputable def cx246 : Cx := ⟨Tryz.prog, (ix2 114 4236), [0,1,4,5,7,6], 72, [(3,[0,1,2,3,4,5,6,7,8,9,10,11,12,13,14,15,16]),(7,[0,1,2,3,4,5,6,7,8,9,10,11,12,13,14,15,16,17,18,19,20,21,22,23,24,25])]⟩
theorem is246 : cx246.fun? Tryz.f246 = some ir246 := by kernel_rfl
noncomputable def cx256 : Cx := ⟨Tryz.prog, (ix2 114 4236), [0,1,2,3,8,9], 53, [(4,[0,1,2,3,4,5,6,7,8,9,10,11,12,13,14,15,16]),(6,[0,1,2,3,4,5,6,7,8,9,10,11,12,13,14,15,16,17])]⟩
theorem is256 : cx256.fun? Tryz.f256 = some ir256 := by kernel_rfl
noncomputable def cx267 : Cx := ⟨Tryz.prog, (ix2 114 4236), [0,1,4,5,6,8,7,10,11,12,9,13], 51, []⟩
theorem is267 : cx267.fun? Tryz.f267 = some ir267 := by kernel_rfl
noncomputable def cx276 : Cx := ⟨Tryz.prog, (ix2 114 4236), [0,2], 15, []⟩
theorem is276 : cx276.fun? Tryz.f276 = some ir276 := by kernel_rfl
end Go.Ev
