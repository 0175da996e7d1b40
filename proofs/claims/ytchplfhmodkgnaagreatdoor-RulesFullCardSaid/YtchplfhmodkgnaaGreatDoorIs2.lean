/-
  Each function's instructions are those into which the evaluator turns the program's own code (by the kernel).
  No condition stands but those in each theorem's own words.
-/
import Derived.Test.YtchplfhmodkgnaaGreatDoorIr0
import Derived.Test.YtchplfhmodkgnaaGreatDoorIr1
import Derived.Test.YtchplfhmodkgnaaGreatDoorProg
set_option maxRecDepth 1000000
namespace Go.Ev
open Go.Proofs
noncomputable def cx5 : Cx := ⟨Tryz.prog, (ix2 114 4236), [0,2,3,4,6,5,7], 42, [(9,[0,1,2,3,4,5,6,7,8,9,10])]⟩
theorem is5 : cx5.fun? Tryz.f5 = some ir5 := by kernel_rfl
noncomputable def cx8 : Cx := ⟨Tryz.prog, (ix2 114 4236), [0,1,4,5,6,7], 36, [(6,[0,1,2,3,4,5,6,7,8,9,10])]⟩
theorem is8 : cx8.fun? Tryz.f8 = some ir8 := by kernel_rfl
noncomputable def cx11 : Cx := ⟨Tryz.prog, (ix2 114 4236), [0,1,7,14,2,4], 16, []⟩
theorem is11 : cx11.dfun? Tryz.f11 = some ir11 := by kernel_rfl
noncomputable def cx14 : Cx := ⟨Tryz.prog, (ix2 114 4236), [0,2], 7, []⟩
theorem is14 : cx14.fun? Tryz.f14 = some ir14 := by kernel_rfl
noncomputable def cx17 : Cx := ⟨Tryz.prog, (ix2 114 4236), [0], 6, []⟩
theorem is17 : cx17.fun? Tryz.f17 = some ir17 := by kernel_rfl
noncomputable def cx20 : Cx := ⟨Tryz.prog, (ix2 114 4236), [0,2], 12, []⟩
theorem is20 : cx20.fun? Tryz.f20 = some ir20 := by kernel_rfl
noncomputable def cx23 : Cx := ⟨Tryz.prog, (ix2 114 4236), [0,2], 10, []⟩
theorem is23 : cx23.fun? Tryz.f23 = some ir23 := by kernel_rfl
noncomputable def cx27 : Cx := ⟨Tryz.prog, (ix2 114 4236), [0,2,3], 8, []⟩
theorem is27 : cx27.fun? Tryz.f27 = some ir27 := by kernel_rfl
noncomputable def cx30 : Cx := ⟨Tryz.prog, (ix2 114 4236), [0,1,2,3,4,10,11,13,12,14,15,17,16], 73, [(12,[0,1,2,3,4,5,6,7,8,9,10,15,11,12,13,14,16,17])]⟩
theorem is30 : cx30.fun? Tryz.f30 = some ir30 := by kernel_rfl
noncomputable def cx33 : Cx := ⟨Tryz.prog, (ix2 114 4236), [0,2,3], 18, []⟩
theorem is33 : cx33.fun? Tryz.f33 = some ir33 := by kernel_rfl
noncomputable def cx37 : Cx := ⟨Tryz.prog, (ix2 114 4236), [0,2], 45, [(1,[0,1,2,3,4,5,6,7,8,9,10,11,12,13,14,15,16,17,18,19,20,21,22,23]),(3,[0,1,2,3,4,5,6,7,8,9,10,11])]⟩
theorem is37 : cx37.fun? Tryz.f37 = some ir37 := by kernel_rfl
noncomputable def cx44 : Cx := ⟨Tryz.prog, (ix2 114 4236), [0,1,3], 14, [(1,[0,1,2,3,4,5,6,7,8,9,10])]⟩
theorem is44 : cx44.fun? Tryz.f44 = some ir44 := by kernel_rfl
noncomputable def cx47 : Cx := ⟨Tryz.prog, (ix2 114 4236), [0,2,12,10,11,9,3,5], 21, []⟩
theorem is47 : cx47.fun? Tryz.f47 = some ir47 := by kernel_rfl
noncomputable def cx50 : Cx := ⟨Tryz.prog, (ix2 114 4236), [0,2,3,4], 13, []⟩
theorem is50 : cx50.fun? Tryz.f50 = some ir50 := by kernel_rfl
noncomputable def cx53 : Cx := ⟨Tryz.prog, (ix2 114 4236), [0,1,2,3,6,4,7], 35, [(3,[0,1,2,3,4,5,6,7,8,9])]⟩
theorem is53 : cx53.fun? Tryz.f53 = some ir53 := by kernel_rfl
noncomputable def cx56 : Cx := ⟨Tryz.prog, (ix2 114 4236), [0,1,2,6,18,16,17,15,7,8,9], 32, []⟩
theorem is56 : cx56.fun? Tryz.f56 = some ir56 := by kernel_rfl
noncomputable def cx61 : Cx := ⟨Tryz.prog, (ix2 114 4236), [0,1,20,18,19,17,4,5], 51, []⟩
theorem is61 : cx61.fun? Tryz.f61 = some ir61 := by kernel_rfl
noncomputable def cx67 : Cx := ⟨Tryz.prog, (ix2 114 4236), [0,1,4,5,3], 15, [(1,[0,2,4,1,3,5,6,7,8,9,10])]⟩
theorem is67 : cx67.fun? Tryz.f67 = some ir67 := by kernel_rfl
noncomputable def cx74 : Cx := ⟨Tryz.prog, (ix2 114 4236), [0,1,4], 18, []⟩
theorem is74 : cx74.fun? Tryz.f74 = some ir74 := by kernel_rfl
noncomputable def cx77 : Cx := ⟨Tryz.prog, (ix2 114 4236), [0,1,4], 9, []⟩
theorem is77 : cx77.fun? Tryz.f77 = some ir77 := by kernel_rfl
noncomputable def cx80 : Cx := ⟨Tryz.prog, (ix2 114 4236), [0,1,4], 9, []⟩
theorem is80 : cx80.fun? Tryz.f80 = some ir80 := by kernel_rfl
noncomputable def cx87 : Cx := ⟨Tryz.prog, (ix2 114 4236), [0,2,13,84,1,8,3,4], 110, [(18,[0,1,2,3,4,5,6,7,8,9,10]),(26,[0,1,2,3,4,5,6,7])]⟩
theorem is87 : cx87.fun? Tryz.f87 = some ir87 := by kernel_rfl
noncomputable def cx92 : Cx := ⟨Tryz.prog, (ix2 114 4236), [0,1,2,6,59,90,25,28,41,52,10,57,58,56,12,7,88,89,87,13,15], 105, [(16,[0,1,2,3,4,5,6,7,8,9,10]),(19,[0,1,2,3,4,5,6,7,8,9,10,11,12])]⟩
theorem is92 : cx92.fun? Tryz.f92 = some ir92 := by kernel_rfl
noncomputable def cx95 : Cx := ⟨Tryz.prog, (ix2 114 4236), [0,2], 8, []⟩
theorem is95 : cx95.fun? Tryz.f95 = some ir95 := by kernel_rfl
noncomputable def cx98 : Cx := ⟨Tryz.prog, (ix2 114 4236), [0,1,4,2,3], 17, []⟩
theorem is98 : cx98.fun? Tryz.f98 = some ir98 := by kernel_rfl
noncomputable def cx101 : Cx := ⟨Tryz.prog, (ix2 114 4236), [0,2,1], 21, []⟩
theorem is101 : cx101.fun? Tryz.f101 = some ir101 := by kernel_rfl
noncomputable def cx104 : Cx := ⟨Tryz.prog, (ix2 114 4236), [0,1,4,9,7,8,5], 19, []⟩
theorem is104 : cx104.fun? Tryz.f104 = some ir104 := by kernel_rfl
noncomputable def cx107 : Cx := ⟨Tryz.prog, (ix2 114 4236), [0,1,4,45,55,65,84,5,7,43,44,42,10,53,54,52,14,12,63,64,8,15,11,82,83,81,17,16], 103, [(30,[0,1,2,4,5,3,6,7])]⟩
theorem is107 : cx107.fun? Tryz.f107 = some ir107 := by kernel_rfl
noncomputable def cx111 : Cx := ⟨Tryz.prog, (ix2 114 4236), [0,1,4,5,2,3,6,7,8], 16, [(5,[0,1,2,3])]⟩
theorem is111 : cx111.fun? Tryz.f111 = some ir111 := by kernel_rfl
noncomputable def cx118 : Cx := ⟨Tryz.prog, (ix2 114 4236), [0,1,4,9,7,8,5], 19, []⟩
theorem is118 : cx118.fun? Tryz.f118 = some ir118 := by kernel_rfl
noncomputable def cx125 : Cx := ⟨Tryz.prog, (ix2 114 4236), [0,2], 8, []⟩
theorem is125 : cx125.fun? Tryz.f125 = some ir125 := by kernel_rfl
noncomputable def cx128 : Cx := ⟨Tryz.prog, (ix2 114 4236), [0,1,4], 28, []⟩
theorem is128 : cx128.fun? Tryz.f128 = some ir128 := by kernel_rfl
noncomputable def cx131 : Cx := ⟨Tryz.prog, (ix2 114 4236), [0,2,33,1,3,31,32,30,7,5,4,6,8], 62, [(10,[0,1,2,3,4,5,6]),(12,[0,1,2,3,4,5,6,7,8,9,10,11,16,12,13,14,15,17,18])]⟩
theorem is131 : cx131.fun? Tryz.f131 = some ir131 := by kernel_rfl
noncomputable def cx134 : Cx := ⟨Tryz.prog, (ix2 114 4236), [0,1,4,2], 14, []⟩
theorem is134 : cx134.fun? Tryz.f134 = some ir134 := by kernel_rfl
noncomputable def cx137 : Cx := ⟨Tryz.prog, (ix2 114 4236), [0,1,4,2,3], 10, []⟩
theorem is137 : cx137.fun? Tryz.f137 = some ir137 := by kernel_rfl
noncomputable def cx141 : Cx := ⟨Tryz.prog, (ix2 114 4236), [0,1,2,3,4,5,6,10,43,51,88,7,11,13,12,8,42,41,16,49,50,48,14,18,86,87,19], 110, [(24,[0,1,2,3,4,5,6,7,8,9,10,11,13,14,15,12,16,17,18])]⟩
theorem is141 : cx141.fun? Tryz.f141 = some ir141 := by kernel_rfl
noncomputable def cx145 : Cx := ⟨Tryz.prog, (ix2 114 4236), [0,1,4,2,3], 45, []⟩
theorem is145 : cx145.fun? Tryz.f145 = some ir145 := by kernel_rfl
noncomputable def cx152 : Cx := ⟨Tryz.prog, (ix2 114 4236), [0,1,2,3,8,9], 53, [(4,[0,1,2,3,4,5,6,7,8,9,10,11,12,13,14,15,16]),(6,[0,1,2,3,4,5,6,7,8,9,10,11,12,13,14,15,16,17])]⟩
theorem is152 : cx152.fun? Tryz.f152 = some ir152 := by kernel_rfl
noncomputable def cx163 : Cx := ⟨Tryz.prog, (ix2 114 4236), [0,1,4], 8, []⟩
theorem is163 : cx163.fun? Tryz.f163 = some ir163 := by kernel_rfl
noncomputable def cx166 : Cx := ⟨Tryz.prog, (ix2 114 4236), [0,2,3,4,5,6,7], 25, [(3,[0,1,2,3,4,5])]⟩
theorem is166 : cx166.fun? Tryz.f166 = some ir166 := by kernel_rfl
noncomputable def cx169 : Cx := ⟨Tryz.prog, (ix2 114 4236), [0,1,4,5,6,3,7,8,9,10,11,12,13], 140, [(3,[0,1,2,3,4,5,6,7,8,9,10,11,12]),(4,[0,1,2,3,4,5,6,7,8,9,10,11,12,13,14]),(11,[0,1,2,3,4,5,6,11,7,8,9,10,12,13]),(14,[0,1,2,3,4,5,6,7,8,9,14,10,11,12,13,15,16])]⟩
theorem is169 : cx169.fun? Tryz.f169 = some ir169 := by kernel_rfl
noncomputable def cx172 : Cx := ⟨Tryz.prog, (ix2 114 4236), [0,2,57,88,123,1,3,6,7,8,55,56,54,10,5,86,87,85,12,11,4,13,121,122,120,15], 140, [(1,[0,1,2,3,4,5,6,7,8,9])]⟩
theorem is172 : cx172.fun? Tryz.f172 = some ir172 := by kernel_rfl
noncomputable def cx176 : Cx := ⟨Tryz.prog, (ix2 114 4236), [0,1,2,3,4,5,8,9,10], 34, []⟩
theorem is176 : cx176.fun? Tryz.f176 = some ir176 := by kernel_rfl
noncomputable def cx179 : Cx := ⟨Tryz.prog, (ix2 114 4236), [0,1,2,6,18,16,17,15,7,8,9], 32, []⟩
theorem is179 : cx179.fun? Tryz.f179 = some ir179 := by kernel_rfl
noncomputable def cx184 : Cx := ⟨Tryz.prog, (ix2 114 4236), [0,1,4,14,12,13,5], 26, [(6,[0,1,2,3,4,5,6,7,8])]⟩
theorem is184 : cx184.fun? Tryz.f184 = some ir184 := by kernel_rfl
noncomputable def cx197 : Cx := ⟨Tryz.prog, (ix2 114 4236), [0,1,7,14,2,4], 16, []⟩
theorem is197 : cx197.dfun? Tryz.f197 = some ir197 := by kernel_rfl
noncomputable def cx200 : Cx := ⟨Tryz.prog, (ix2 114 4236), [0,1,2,3,8,9,10,11], 53, []⟩
theorem is200 : cx200.fun? Tryz.f200 = some ir200 := by kernel_rfl
noncomputable def cx203 : Cx := ⟨Tryz.prog, (ix2 114 4236), [0,1,4,9,7,8,5], 19, []⟩
theorem is203 : cx203.fun? Tryz.f203 = some ir203 := by kernel_rfl
noncomputable def cx206 : Cx := ⟨Tryz.prog, (ix2 114 4236), [0,1,4,5,6,7], 42, []⟩
theorem is206 : cx206.fun? Tryz.f206 = some ir206 := by kernel_rfl
noncomputable def cx211 : Cx := ⟨Tryz.prog, (ix2 114 4236), [0,2,26,51,3,24,25,7,8,49,50,48,10,5,12,11,6,4], 98, [(13,[0,1,3,4,2,5,6]),(14,[0,1,3,4,5,6,7,2,8,9])]⟩
theorem is211 : cx211.fun? Tryz.f211 = some ir211 := by kernel_rfl
noncomputable def cx214 : Cx := ⟨Tryz.prog, (ix2 114 4236), [0,1,2], 16, []⟩
theorem is214 : cx214.fun? Tryz.f214 = some ir214 := by kernel_rfl
noncomputable def cx217 : Cx := ⟨Tryz.prog, (ix2 114 4236), [0,2], 8, []⟩
theorem is217 : cx217.fun? Tryz.f217 = some ir217 := by kernel_rfl
noncomputable def cx223 : Cx := ⟨Tryz.prog, (ix2 114 4236), [0,1,2,3,8,85,5,10,9,11,83,84,82,13,14], 140, [(19,[0,1,2,3,4,5,6,7,8,9,10]),(21,[0,1,2,3,4,5,6,7,8,9,10,11,12,13,14,15,16,17,18])]⟩
theorem is223 : cx223.fun? Tryz.f223 = some ir223 := by kernel_rfl
noncomputable def cx231 : Cx := ⟨Tryz.prog, (ix2 114 4236), [0,2,3,4,39], 147, [(1,[0,1,2,3,4,5,6,7,8,9,10,11,12]),(19,[0,1,2,3,4,5,6,7,8,9,10,11,12,13,14]),(23,[0,1,2,3,4,5,6,7,8,9,10,11,12,13,14,15,16,17,18,19]),(8,[0,1,2,3,4,5,6,7,8,9])]⟩
theorem is231 : cx231.fun? Tryz.f231 = some ir231 := by kernel_rfl
noncomputable def cx234 : Cx := ⟨Tryz.prog, (ix2 114 4236), [0,2,3,50,4,48,49,47,8,6,5,9,10], 77, []⟩
theorem is234 : cx234.fun? Tryz.f234 = some ir234 := by kernel_rfl
noncomputable def cx238 : Cx := ⟨Tryz.prog, (ix2 114 4236), [0,1,2,3,4,12,10,14,13,11,15,17,16,18,19,20], 148, [(17,[0,1,2,3,4,5,6,7,8,9,10,11,12,13,14,15,16])]⟩
theorem is238 : cx238.fun? Tryz.f238 = some ir238 := by kernel_rfl
noncomputable def cx242 : Cx := ⟨Tryz.prog, (ix2 114 4236), [0,1,4,5,6,7,8,9], 30, []⟩
theorem is242 : cx242.fun? Tryz.f242 = some ir242 := by kernel_rfl
noncomputable def cx248 : Cx := ⟨Tryz.prog, (ix2 114 4236), [0,2,4,3], 10, []⟩
theorem is248 : cx248.fun? Tryz.f248 = some ir248 := by kernel_rfl
noncomputable def cx264 : Cx := ⟨Tryz.prog, (ix2 114 4236), [0,1,2,6,7], 21, []⟩
theorem is264 : cx264.fun? Tryz.f264 = some ir264 := by kernel_rfl
noncomputable def cx268 : Cx := ⟨Tryz.prog, (ix2 114 4236), [0,1,4,6,7,5,9], 54, []⟩
theorem is268 : cx268.fun? Tryz.f268 = some ir268 := by kernel_rfl
end Go.Ev
