/-
  Each function's instructions are those into which the evaluator turns the program's own code (by the kernel).
  No condition stands but those in each theorem's own words.
-/
import Derived.Test.YtoehnhbgdmhomaaGreatDoorIr0
import Derived.Test.YtoehnhbgdmhomaaGreatDoorIr1
import Derived.Test.YtoehnhbgdmhomaaGreatDoorProg
set_option maxRecDepth 1000000
namespace Go.Ev
open Go.Proofs
noncomputable def cx5 : Cx := ⟨Tryz.prog, Nat.beq 209, [0,2,3,4,5], 17, []⟩
theorem is5 : cx5.fun? Tryz.f5 = some ir5 := by kernel_rfl
noncomputable def cx9 : Cx := ⟨Tryz.prog, Nat.beq 209, [0,2], 6, []⟩
theorem is9 : cx9.fun? Tryz.f9 = some ir9 := by kernel_rfl
noncomputable def cx13 : Cx := ⟨Tryz.prog, Nat.beq 209, [0,2,3,4,6,5,7], 42, [(9,[0,1,2,3,4,5,6,7,8,9,10])]⟩
theorem is13 : cx13.fun? Tryz.f13 = some ir13 := by kernel_rfl
noncomputable def cx17 : Cx := ⟨Tryz.prog, Nat.beq 209, [0,1,4,5,6,8,7], 43, []⟩
theorem is17 : cx17.fun? Tryz.f17 = some ir17 := by kernel_rfl
noncomputable def cx21 : Cx := ⟨Tryz.prog, Nat.beq 209, [0,2], 12, []⟩
theorem is21 : cx21.fun? Tryz.f21 = some ir21 := by kernel_rfl
noncomputable def cx25 : Cx := ⟨Tryz.prog, Nat.beq 209, [0,1,4,5,6,8,10,12,7,9,11,13], 62, []⟩
theorem is25 : cx25.fun? Tryz.f25 = some ir25 := by kernel_rfl
noncomputable def cx29 : Cx := ⟨Tryz.prog, Nat.beq 209, [0,1,4,5,6,8,7], 31, []⟩
theorem is29 : cx29.fun? Tryz.f29 = some ir29 := by kernel_rfl
noncomputable def cx33 : Cx := ⟨Tryz.prog, Nat.beq 209, [0,2], 7, []⟩
theorem is33 : cx33.fun? Tryz.f33 = some ir33 := by kernel_rfl
noncomputable def cx37 : Cx := ⟨Tryz.prog, Nat.beq 209, [0,1,2,3,8,9,19,17,18,16,10,12,13], 53, []⟩
theorem is37 : cx37.fun? Tryz.f37 = some ir37 := by kernel_rfl
noncomputable def cx43 : Cx := ⟨Tryz.prog, Nat.beq 209, [0,1,4], 9, []⟩
theorem is43 : cx43.fun? Tryz.f43 = some ir43 := by kernel_rfl
noncomputable def cx47 : Cx := ⟨Tryz.prog, Nat.beq 209, [0,1,2,3,8,9,6,7,10], 74, [(1,[0,1,2,3,4,5,6,7,8,9,10,11,12,13,14,15,16]),(6,[0,1,2,3,4,5,6,7,8,9,10,11]),(11,[0,1,2,3,4,5,6,7,8,9,10,11,12])]⟩
theorem is47 : cx47.fun? Tryz.f47 = some ir47 := by kernel_rfl
noncomputable def cx51 : Cx := ⟨Tryz.prog, Nat.beq 209, [0,1,2,3,8], 16, []⟩
theorem is51 : cx51.fun? Tryz.f51 = some ir51 := by kernel_rfl
noncomputable def cx55 : Cx := ⟨Tryz.prog, Nat.beq 209, [0,1,2,3,4,10,23,50,21,22,20,11,13,12,48,49,47,14,16], 68, []⟩
theorem is55 : cx55.fun? Tryz.f55 = some ir55 := by kernel_rfl
noncomputable def cx59 : Cx := ⟨Tryz.prog, Nat.beq 209, [0,2], 7, []⟩
theorem is59 : cx59.fun? Tryz.f59 = some ir59 := by kernel_rfl
noncomputable def cx64 : Cx := ⟨Tryz.prog, Nat.beq 209, [0,2,1], 12, []⟩
theorem is64 : cx64.fun? Tryz.f64 = some ir64 := by kernel_rfl
noncomputable def cx68 : Cx := ⟨Tryz.prog, Nat.beq 209, [0,2,3,4], 16, [(6,[0,1,2,3,4,5])]⟩
theorem is68 : cx68.fun? Tryz.f68 = some ir68 := by kernel_rfl
noncomputable def cx72 : Cx := ⟨Tryz.prog, Nat.beq 209, [0,1,4,5,6,7,9,8,10], 41, [(3,[0,1,2,3,4,5]),(6,[0,1,2,3,4,5]),(9,[0,1,2,3,4,5]),(10,[0,1,2,3,4])]⟩
theorem is72 : cx72.fun? Tryz.f72 = some ir72 := by kernel_rfl
noncomputable def cx76 : Cx := ⟨Tryz.prog, Nat.beq 209, [0,1,4,5,7,6,10,9,11,8,12], 78, [(13,[0,1,2,3,4,5,6,7,8,9])]⟩
theorem is76 : cx76.fun? Tryz.f76 = some ir76 := by kernel_rfl
noncomputable def cx80 : Cx := ⟨Tryz.prog, Nat.beq 209, [0,1,4], 8, []⟩
theorem is80 : cx80.fun? Tryz.f80 = some ir80 := by kernel_rfl
noncomputable def cx84 : Cx := ⟨Tryz.prog, Nat.beq 209, [0,1], 9, [(0,[0,1,2,3,4,5,6,7])]⟩
theorem is84 : cx84.fun? Tryz.f84 = some ir84 := by kernel_rfl
noncomputable def cx88 : Cx := ⟨Tryz.prog, Nat.beq 209, [0,1,4,139,6,7,137,138,136,8,9,10,11], 161, [(3,[0,1,2,3,4,5,6,7,8,9]),(8,[0,1,2,3,4,5,6,7,8,9,10,11,12,13,14,15,16,17,18,19,20,21,22,23,24,25,26,27,28,29,30,31]),(10,[0,1,2,3,4,5,6,7,8,9,10,11,12,13,14,15,16,17,18,19,20,21,22,23,24,25,26,27,28,29])]⟩
theorem is88 : cx88.fun? Tryz.f88 = some ir88 := by kernel_rfl
noncomputable def cx92 : Cx := ⟨Tryz.prog, Nat.beq 209, [0,1,2,3,4,12,10,14,13,11,15,17,16,18,19,20], 148, [(17,[0,1,2,3,4,5,6,7,8,9,10,11,12,13,14,15,16])]⟩
theorem is92 : cx92.fun? Tryz.f92 = some ir92 := by kernel_rfl
noncomputable def cx98 : Cx := ⟨Tryz.prog, Nat.beq 209, [0,2], 9, []⟩
theorem is98 : cx98.fun? Tryz.f98 = some ir98 := by kernel_rfl
noncomputable def cx102 : Cx := ⟨Tryz.prog, Nat.beq 209, [0,2,13,84,1,8,3,4], 110, [(18,[0,1,2,3,4,5,6,7,8,9,10]),(26,[0,1,2,3,4,5,6,7])]⟩
theorem is102 : cx102.fun? Tryz.f102 = some ir102 := by kernel_rfl
noncomputable def cx106 : Cx := ⟨Tryz.prog, Nat.beq 209, [0,1,2,3,4,6,24,22,23,21,7,9,10], 88, [(1,[0,1,2,3,4,5,6,7]),(5,[0,1,2,3,4,5,6,7,8,9,10,11,12,13,14,15]),(11,[0,1,2,3,4,5,7,10,11,6,8,9,12,13]),(14,[0,1,2,3,4,5,7,8,6,9,10])]⟩
theorem is106 : cx106.fun? Tryz.f106 = some ir106 := by kernel_rfl
noncomputable def cx110 : Cx := ⟨Tryz.prog, Nat.beq 209, [0,1,2,6,59,90,25,28,41,52,10,57,58,56,12,7,88,89,87,13,15], 105, [(16,[0,1,2,3,4,5,6,7,8,9,10]),(19,[0,1,2,3,4,5,6,7,8,9,10,11,12])]⟩
theorem is110 : cx110.fun? Tryz.f110 = some ir110 := by kernel_rfl
noncomputable def cx114 : Cx := ⟨Tryz.prog, Nat.beq 209, [0,1,4], 16, []⟩
theorem is114 : cx114.fun? Tryz.f114 = some ir114 := by kernel_rfl
noncomputable def cx120 : Cx := ⟨Tryz.prog, Nat.beq 209, [0,1,2,6,8,7], 37, []⟩
theorem is120 : cx120.fun? Tryz.f120 = some ir120 := by kernel_rfl
noncomputable def cx124 : Cx := ⟨Tryz.prog, Nat.beq 209, [0,1], 11, []⟩
theorem is124 : cx124.fun? Tryz.f124 = some ir124 := by kernel_rfl
noncomputable def cx128 : Cx := ⟨Tryz.prog, Nat.beq 209, [0,2,3,45,117,5,6,43,44,42,8,7,4,10,12,9,11,13,115,116,114,16,19,18,14,15,17,20], 169, [(8,[0,1,2,3,4,5,6]),(25,[0,1,2,3,4,10,5,6,7,8,9,11,12,13]),(33,[0,1,2,3,4,5,6,7,8,10,9,11])]⟩
theorem is128 : cx128.fun? Tryz.f128 = some ir128 := by kernel_rfl
noncomputable def cx132 : Cx := ⟨Tryz.prog, Nat.beq 209, [0,1,4,3,6,5], 49, [(1,[0,1,2,3,4,5,6,7,8,9,10]),(6,[0,1,2,3,4,5,6]),(7,[0,1,2,3,4,5,6,7,8,9,10])]⟩
theorem is132 : cx132.fun? Tryz.f132 = some ir132 := by kernel_rfl
noncomputable def cx136 : Cx := ⟨Tryz.prog, Nat.beq 209, [0,2], 7, []⟩
theorem is136 : cx136.fun? Tryz.f136 = some ir136 := by kernel_rfl
noncomputable def cx140 : Cx := ⟨Tryz.prog, Nat.beq 209, [0,1,4,5,6,3,7,8,9,10,11,12,13], 140, [(3,[0,1,2,3,4,5,6,7,8,9,10,11,12]),(4,[0,1,2,3,4,5,6,7,8,9,10,11,12,13,14]),(11,[0,1,2,3,4,5,6,11,7,8,9,10,12,13]),(14,[0,1,2,3,4,5,6,7,8,9,14,10,11,12,13,15,16])]⟩
theorem is140 : cx140.fun? Tryz.f140 = some ir140 := by kernel_rfl
noncomputable def cx146 : Cx := ⟨Tryz.prog, Nat.beq 209, [0,1,4], 18, []⟩
theorem is146 : cx146.fun? Tryz.f146 = some ir146 := by kernel_rfl
noncomputable def cx150 : Cx := ⟨Tryz.prog, Nat.beq 209, [0,1,4,5,6,7], 20, []⟩
theorem is150 : cx150.fun? Tryz.f150 = some ir150 := by kernel_rfl
noncomputable def cx154 : Cx := ⟨Tryz.prog, Nat.beq 209, [0,2], 6, []⟩
theorem is154 : cx154.fun? Tryz.f154 = some ir154 := by kernel_rfl
noncomputable def cx166 : Cx := ⟨Tryz.prog, Nat.beq 209, [0,1,4,9,7,8,5], 19, []⟩
theorem is166 : cx166.fun? Tryz.f166 = some ir166 := by kernel_rfl
noncomputable def cx172 : Cx := ⟨Tryz.prog, Nat.beq 209, [0,2], 9, []⟩
theorem is172 : cx172.fun? Tryz.f172 = some ir172 := by kernel_rfl
noncomputable def cx176 : Cx := ⟨Tryz.prog, Nat.beq 209, [0,2,3], 20, []⟩
theorem is176 : cx176.fun? Tryz.f176 = some ir176 := by kernel_rfl
noncomputable def cx180 : Cx := ⟨Tryz.prog, Nat.beq 209, [0,2,4,3], 37, [(5,[0,1,2,3,4,5])]⟩
theorem is180 : cx180.fun? Tryz.f180 = some ir180 := by kernel_rfl
noncomputable def cx184 : Cx := ⟨Tryz.prog, Nat.beq 209, [0,2,4,3], 32, [(5,[0,1,2,3,4,5,6,7,8,9,10,11,12,13,14,15,16,17,18,19])]⟩
theorem is184 : cx184.fun? Tryz.f184 = some ir184 := by kernel_rfl
noncomputable def cx188 : Cx := ⟨Tryz.prog, Nat.beq 209, [0,2,4,3,5,6], 74, [(5,[0,1,2,3,4,5,6,7,8,9,10,12,13,14,15,16,18,11,17,19]),(8,[0,1,2,3,4,5,6,7,8,9,10,11,12,13,14,15]),(10,[0,1,2,3,4,5,6,7,8,9,10,11,12,13,14,15,16,17])]⟩
theorem is188 : cx188.fun? Tryz.f188 = some ir188 := by kernel_rfl
noncomputable def cx192 : Cx := ⟨Tryz.prog, Nat.beq 209, [0,1,2,6,28,95,26,27,8,7,9,10,13,12,14,93,94,92,11,17,19,18,15], 149, [(5,[0,1,2,3,4,5,6,7,8,9,10,11,12,13,14,15]),(31,[0,1,2,3,4,5,6,7,8,9,10,11,12])]⟩
theorem is192 : cx192.fun? Tryz.f192 = some ir192 := by kernel_rfl
noncomputable def cx197 : Cx := ⟨Tryz.prog, Nat.beq 209, [0,1,2,3,4,10,11,34,12,14,32,33,15,16,18,17,13], 82, [(19,[0,1,2,3,4,5,6,7,8,9,10,11,12])]⟩
theorem is197 : cx197.fun? Tryz.f197 = some ir197 := by kernel_rfl
noncomputable def cx201 : Cx := ⟨Tryz.prog, Nat.beq 209, [0,1,2,6,18,16,17,15,7,8,9], 32, []⟩
theorem is201 : cx201.fun? Tryz.f201 = some ir201 := by kernel_rfl
noncomputable def cx205 : Cx := ⟨Tryz.prog, Nat.beq 209, [0,1,7,14,2,4], 16, []⟩
theorem is205 : cx205.dfun? Tryz.f205 = some ir205 := by kernel_rfl
noncomputable def cx210 : Cx := ⟨Tryz.prog, Nat.beq 209, [0,1,4], 10, []⟩
theorem is210 : cx210.fun? Tryz.f210 = some ir210 := by kernel_rfl
noncomputable def cx217 : Cx := ⟨Tryz.prog, Nat.beq 209, [0,1,2], 30, [(4,[0,1,2,3,4,5,6,7,8,9,10,11,12]),(5,[0,1,2,3,4,5,6,7,8,9,10,11])]⟩
theorem is217 : cx217.fun? Tryz.f217 = some ir217 := by kernel_rfl
noncomputable def cx226 : Cx := ⟨Tryz.prog, Nat.beq 209, [0,2], 9, []⟩
theorem is226 : cx226.fun? Tryz.f226 = some ir226 := by kernel_rfl
noncomputable def cx230 : Cx := ⟨Tryz.prog, Nat.beq 209, [0,2,3], 13, [(3,[0,1,2,3,4])]⟩
theorem is230 : cx230.fun? Tryz.f230 = some ir230 := by kernel_rfl
noncomputable def cx234 : Cx := ⟨Tryz.prog, Nat.beq 209, [0,2,1], 20, [(3,[0,1,2,3,5,6,7,8,4,9,10,11])]⟩
theorem is234 : cx234.fun? Tryz.f234 = some ir234 := by kernel_rfl
noncomputable def cx238 : Cx := ⟨Tryz.prog, Nat.beq 209, [0,2,3,5,4], 18, []⟩
theorem is238 : cx238.fun? Tryz.f238 = some ir238 := by kernel_rfl
noncomputable def cx242 : Cx := ⟨Tryz.prog, Nat.beq 209, [0,1,4], 14, []⟩
theorem is242 : cx242.fun? Tryz.f242 = some ir242 := by kernel_rfl
noncomputable def cx246 : Cx := ⟨Tryz.prog, Nat.beq 209, [0,1,4,5,6,7,8], 48, [(9,[0,1,2,3,4,5,6,7,8,9])]⟩
theorem is246 : cx246.fun? Tryz.f246 = some ir246 := by kernel_rfl
noncomputable def cx250 : Cx := ⟨Tryz.prog, Nat.beq 209, [0,1,2,3], 12, []⟩
theorem is250 : cx250.fun? Tryz.f250 = some ir250 := by kernel_rfl
noncomputable def cx255 : Cx := ⟨Tryz.prog, Nat.beq 209, [0,1,2,3,8,85,5,10,9,11,83,84,82,13,14], 140, [(19,[0,1,2,3,4,5,6,7,8,9,10]),(21,[0,1,2,3,4,5,6,7,8,9,10,11,12,13,14,15,16,17,18])]⟩
theorem is255 : cx255.fun? Tryz.f255 = some ir255 := by kernel_rfl
noncomputable def cx269 : Cx := ⟨Tryz.prog, Nat.beq 209, [0,2,4,3,6,5,7], 79, [(13,[0,1,2,3,4,5,6])]⟩
theorem is269 : cx269.fun? Tryz.f269 = some ir269 := by kernel_rfl
noncomputable def cx273 : Cx := ⟨Tryz.prog, Nat.beq 209, [0,2,3,50,4,48,49,47,8,6,5,9,10], 77, []⟩
theorem is273 : cx273.fun? Tryz.f273 = some ir273 := by kernel_rfl
noncomputable def cx278 : Cx := ⟨Tryz.prog, Nat.beq 209, [0,2], 6, []⟩
theorem is278 : cx278.fun? Tryz.f278 = some ir278 := by kernel_rfl
noncomputable def cx282 : Cx := ⟨Tryz.prog, Nat.beq 209, [0,2], 9, []⟩
theorem is282 : cx282.fun? Tryz.f282 = some ir282 := by kernel_rfl
noncomputable def cx287 : Cx := ⟨Tryz.prog, Nat.beq 209, [0,2,4,3], 10, []⟩
theorem is287 : cx287.fun? Tryz.f287 = some ir287 := by kernel_rfl
noncomputable def cx307 : Cx := ⟨Tryz.prog, Nat.beq 209, [0,1,2,6,7], 21, []⟩
theorem is307 : cx307.fun? Tryz.f307 = some ir307 := by kernel_rfl
noncomputable def cx318 : Cx := ⟨Tryz.prog, Nat.beq 209, [0,1,2,6,8,7], 36, []⟩
theorem is318 : cx318.fun? Tryz.f318 = some ir318 := by kernel_rfl
end Go.Ev
