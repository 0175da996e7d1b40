/-
  Each function's instructions are those into which the evaluator turns the program's own code (by the kernel).
  No condition stands but those in each theorem's own words.
-/
import Derived.Test.YtoehnhbgdmhomaaGreatDoorIr0
import Derived.Test.YtoehnhbgdmhomaaGreatDoorIr1
import Derived.Test.YtoehnhbgdmhomaaGreatDoorProg
set_option maxRecDepth 1000000
namespace Go.Ev
open Go.Proofs
noncomputable def cx3 : Cx := ⟨Tryz.prog, Nat.beq 209, [0,1,2,6,7,11,10,8,13,12,14,9], 72, []⟩
theorem is3 : cx3.fun? Tryz.f3 = some ir3 := by kernel_rfl
noncomputable def cx7 : Cx := ⟨Tryz.prog, Nat.beq 209, [0,2], 11, []⟩
theorem is7 : cx7.fun? Tryz.f7 = some ir7 := by kernel_rfl
noncomputable def cx11 : Cx := ⟨Tryz.prog, Nat.beq 209, [0,2,1,4,7,9,3,6,5,8], 75, []⟩
theorem is11 : cx11.fun? Tryz.f11 = some ir11 := by kernel_rfl
noncomputable def cx15 : Cx := ⟨Tryz.prog, Nat.beq 209, [0,2], 5, []⟩
theorem is15 : cx15.fun? Tryz.f15 = some ir15 := by kernel_rfl
noncomputable def cx19 : Cx := ⟨Tryz.prog, Nat.beq 209, [0,1,2,6,116,137,170,7,114,115,113,10,8,11,135,136,134,12,13,168,169,167,15], 180, [(6,[0,1,2,3,4,5,6,7,8,9,10,11,12,13,14,15,16,17,18,19,20,23,24,25,26,27,28,29,30,31,32,33,21,22,34,35,36,37,38,39]),(8,[0,1,2,3,4,5,6,7,8,9,10,11,12,13,14,15,16,17,18,19,20,21,22]),(12,[0,1,2,3,5,4,6,7,8]),(17,[0,1,2,3,4,5,6,7,8,9,10,11,12,13,14,15,16,17,18,19,20])]⟩
theorem is19 : cx19.fun? Tryz.f19 = some ir19 := by kernel_rfl
noncomputable def cx23 : Cx := ⟨Tryz.prog, Nat.beq 209, [0,1,4,5,55,6,7,53,54,52,8,10,12,11], 88, [(6,[0,1,2,3,4,5,6,7,8,9,10,11,12])]⟩
theorem is23 : cx23.fun? Tryz.f23 = some ir23 := by kernel_rfl
noncomputable def cx27 : Cx := ⟨Tryz.prog, Nat.beq 209, [0,1,4,5,6,42,9,7,8,10,40,41,39,11,13], 55, []⟩
theorem is27 : cx27.fun? Tryz.f27 = some ir27 := by kernel_rfl
noncomputable def cx31 : Cx := ⟨Tryz.prog, Nat.beq 209, [0,2,13,11,12,10,6,4,3], 60, []⟩
theorem is31 : cx31.fun? Tryz.f31 = some ir31 := by kernel_rfl
noncomputable def cx35 : Cx := ⟨Tryz.prog, Nat.beq 209, [0,1,4,5], 22, []⟩
theorem is35 : cx35.fun? Tryz.f35 = some ir35 := by kernel_rfl
noncomputable def cx39 : Cx := ⟨Tryz.prog, Nat.beq 209, [0,1,4], 14, []⟩
theorem is39 : cx39.fun? Tryz.f39 = some ir39 := by kernel_rfl
noncomputable def cx45 : Cx := ⟨Tryz.prog, Nat.beq 209, [0,1,4,3], 9, []⟩
theorem is45 : cx45.fun? Tryz.f45 = some ir45 := by kernel_rfl
noncomputable def cx49 : Cx := ⟨Tryz.prog, Nat.beq 209, [0,2,12,10,11,9,3,4,5], 44, []⟩
theorem is49 : cx49.fun? Tryz.f49 = some ir49 := by kernel_rfl
noncomputable def cx53 : Cx := ⟨Tryz.prog, Nat.beq 209, [0,2], 5, []⟩
theorem is53 : cx53.fun? Tryz.f53 = some ir53 := by kernel_rfl
noncomputable def cx57 : Cx := ⟨Tryz.prog, Nat.beq 209, [0,1,4], 11, []⟩
theorem is57 : cx57.fun? Tryz.f57 = some ir57 := by kernel_rfl
noncomputable def cx61 : Cx := ⟨Tryz.prog, Nat.beq 209, [0,2], 8, []⟩
theorem is61 : cx61.fun? Tryz.f61 = some ir61 := by kernel_rfl
noncomputable def cx66 : Cx := ⟨Tryz.prog, Nat.beq 209, [0,1,3], 14, [(1,[0,1,2,3,4,5,6,7,8,9,10])]⟩
theorem is66 : cx66.fun? Tryz.f66 = some ir66 := by kernel_rfl
noncomputable def cx70 : Cx := ⟨Tryz.prog, Nat.beq 209, [0,1,2,6,44,136,189,3,5,7,37,8,9,10,11,134,135,12,13,14], 203, [(17,[0,1,2,3,4,5,6,11,12,7,8,9,10,13,14]),(27,[0,1,2,3,4,5,6,7,8,9,10,11,12]),(28,[0,1,2,3,4,5,6,7,8,9]),(43,[0,1,2,3,4,5,6,7,8,9,11,10,12,13,14,15]),(47,[0,1,2,3,4,5,6,7,8,9,10,11,12,13,14]),(54,[0,1,2,3,4,5,6])]⟩
theorem is70 : cx70.fun? Tryz.f70 = some ir70 := by kernel_rfl
noncomputable def cx74 : Cx := ⟨Tryz.prog, Nat.beq 209, [0,1,4], 28, []⟩
theorem is74 : cx74.fun? Tryz.f74 = some ir74 := by kernel_rfl
noncomputable def cx78 : Cx := ⟨Tryz.prog, Nat.beq 209, [0,2,3], 18, []⟩
theorem is78 : cx78.fun? Tryz.f78 = some ir78 := by kernel_rfl
noncomputable def cx82 : Cx := ⟨Tryz.prog, Nat.beq 209, [0,2], 45, [(1,[0,1,2,3,4,5,6,7,8,9,10,11,12,13,14,15,16,17,18,19,20,21,22,23]),(3,[0,1,2,3,4,5,6,7,8,9,10,11])]⟩
theorem is82 : cx82.fun? Tryz.f82 = some ir82 := by kernel_rfl
noncomputable def cx86 : Cx := ⟨Tryz.prog, Nat.beq 209, [0,2], 5, []⟩
theorem is86 : cx86.fun? Tryz.f86 = some ir86 := by kernel_rfl
noncomputable def cx90 : Cx := ⟨Tryz.prog, Nat.beq 209, [0,2,12,10,11,9,3,5], 21, []⟩
theorem is90 : cx90.fun? Tryz.f90 = some ir90 := by kernel_rfl
noncomputable def cx95 : Cx := ⟨Tryz.prog, Nat.beq 209, [0,1,4,9,7,8,3,5], 19, [(4,[0,1,2,3,4,5])]⟩
theorem is95 : cx95.fun? Tryz.f95 = some ir95 := by kernel_rfl
noncomputable def cx100 : Cx := ⟨Tryz.prog, Nat.beq 209, [0,2], 6, []⟩
theorem is100 : cx100.fun? Tryz.f100 = some ir100 := by kernel_rfl
noncomputable def cx104 : Cx := ⟨Tryz.prog, Nat.beq 209, [0,2], 8, []⟩
theorem is104 : cx104.fun? Tryz.f104 = some ir104 := by kernel_rfl
noncomputable def cx108 : Cx := ⟨Tryz.prog, Nat.beq 209, [0,1,4,5], 32, []⟩
theorem is108 : cx108.fun? Tryz.f108 = some ir108 := by kernel_rfl
noncomputable def cx112 : Cx := ⟨Tryz.prog, Nat.beq 209, [0,1,2,29,5,27,28,26,4,7], 49, [(8,[0,1,2,3,4,5,6,7,8,9,10,11,12,13])]⟩
theorem is112 : cx112.fun? Tryz.f112 = some ir112 := by kernel_rfl
noncomputable def cx118 : Cx := ⟨Tryz.prog, Nat.beq 209, [0,1,2], 6, []⟩
theorem is118 : cx118.fun? Tryz.f118 = some ir118 := by kernel_rfl
noncomputable def cx122 : Cx := ⟨Tryz.prog, Nat.beq 209, [0,2,3,4,5], 67, [(9,[0,1,2,3,4,5,6,7]),(11,[0,1,2,3,4,5,6,7])]⟩
theorem is122 : cx122.fun? Tryz.f122 = some ir122 := by kernel_rfl
noncomputable def cx126 : Cx := ⟨Tryz.prog, Nat.beq 209, [0,2,4,3], 28, [(5,[0,1,2,3,4,5])]⟩
theorem is126 : cx126.fun? Tryz.f126 = some ir126 := by kernel_rfl
noncomputable def cx130 : Cx := ⟨Tryz.prog, Nat.beq 209, [0,2,33,1,3,31,32,30,7,5,4,6,8], 62, [(10,[0,1,2,3,4,5,6]),(12,[0,1,2,3,4,5,6,7,8,9,10,11,16,12,13,14,15,17,18])]⟩
theorem is130 : cx130.fun? Tryz.f130 = some ir130 := by kernel_rfl
noncomputable def cx134 : Cx := ⟨Tryz.prog, Nat.beq 209, [0,1,2,6,3], 17, []⟩
theorem is134 : cx134.fun? Tryz.f134 = some ir134 := by kernel_rfl
noncomputable def cx138 : Cx := ⟨Tryz.prog, Nat.beq 209, [0,2,3], 22, []⟩
theorem is138 : cx138.fun? Tryz.f138 = some ir138 := by kernel_rfl
noncomputable def cx143 : Cx := ⟨Tryz.prog, Nat.beq 209, [0,2,3,4,5], 21, []⟩
theorem is143 : cx143.fun? Tryz.f143 = some ir143 := by kernel_rfl
noncomputable def cx148 : Cx := ⟨Tryz.prog, Nat.beq 209, [0,1,4,8,6,9,7,5,10], 53, []⟩
theorem is148 : cx148.fun? Tryz.f148 = some ir148 := by kernel_rfl
noncomputable def cx152 : Cx := ⟨Tryz.prog, Nat.beq 209, [0,1,2,6,18,16,17,15,7,8,9], 32, []⟩
theorem is152 : cx152.fun? Tryz.f152 = some ir152 := by kernel_rfl
noncomputable def cx156 : Cx := ⟨Tryz.prog, Nat.beq 209, [0,1,2,3,8,9], 53, [(4,[0,1,2,3,4,5,6,7,8,9,10,11,12,13,14,15,16]),(6,[0,1,2,3,4,5,6,7,8,9,10,11,12,13,14,15,16,17])]⟩
theorem is156 : cx156.fun? Tryz.f156 = some ir156 := by kernel_rfl
noncomputable def cx170 : Cx := ⟨Tryz.prog, Nat.beq 209, [0,1,2,3,5,21,47,4,19,20,18,8,6,7,45,46,44,12,11,9,10,13], 87, [(8,[0,1,2,3,4,5,6,7]),(13,[0,1,2,3,4,5,6,7,8,9]),(16,[0,1,2,3,4,5,6,7]),(17,[0,1,2,3,4,5,6,7,8,9])]⟩
theorem is170 : cx170.fun? Tryz.f170 = some ir170 := by kernel_rfl
noncomputable def cx174 : Cx := ⟨Tryz.prog, Nat.beq 209, [0,2,4,3], 38, [(5,[0,1,2,3,4,5,6,7,8,9,10,11,12,13,14,15,16,17,18,19,20,21])]⟩
theorem is174 : cx174.fun? Tryz.f174 = some ir174 := by kernel_rfl
noncomputable def cx178 : Cx := ⟨Tryz.prog, Nat.beq 209, [0,2,3,4,5,6], 63, [(17,[0,1,2,3,4,5,6,7])]⟩
theorem is178 : cx178.fun? Tryz.f178 = some ir178 := by kernel_rfl
noncomputable def cx182 : Cx := ⟨Tryz.prog, Nat.beq 209, [0,1,2,6,9,7,4,5], 28, []⟩
theorem is182 : cx182.fun? Tryz.f182 = some ir182 := by kernel_rfl
noncomputable def cx186 : Cx := ⟨Tryz.prog, Nat.beq 209, [0,1,4,2,5,7,6], 46, []⟩
theorem is186 : cx186.fun? Tryz.f186 = some ir186 := by kernel_rfl
noncomputable def cx190 : Cx := ⟨Tryz.prog, Nat.beq 209, [0,1,2,3,4,11,8,10], 51, [(7,[0,1,2,3,4,5,6,7,8,9,10,11])]⟩
theorem is190 : cx190.fun? Tryz.f190 = some ir190 := by kernel_rfl
noncomputable def cx194 : Cx := ⟨Tryz.prog, Nat.beq 209, [0,2,57,88,123,1,3,6,7,8,55,56,54,10,5,86,87,85,12,11,4,13,121,122,120,15], 140, [(1,[0,1,2,3,4,5,6,7,8,9])]⟩
theorem is194 : cx194.fun? Tryz.f194 = some ir194 := by kernel_rfl
noncomputable def cx199 : Cx := ⟨Tryz.prog, Nat.beq 209, [0,1,2,4], 12, []⟩
theorem is199 : cx199.fun? Tryz.f199 = some ir199 := by kernel_rfl
noncomputable def cx203 : Cx := ⟨Tryz.prog, Nat.beq 209, [0,1,2,6,18,16,17,15,7,8,9], 32, []⟩
theorem is203 : cx203.fun? Tryz.f203 = some ir203 := by kernel_rfl
noncomputable def cx207 : Cx := ⟨Tryz.prog, Nat.beq 209, [0,2,13,11,12,4,5,6,3], 44, []⟩
theorem is207 : cx207.fun? Tryz.f207 = some ir207 := by kernel_rfl
noncomputable def cx214 : Cx := ⟨Tryz.prog, Nat.beq 209, [0,2,3,4], 15, []⟩
theorem is214 : cx214.fun? Tryz.f214 = some ir214 := by kernel_rfl
noncomputable def cx224 : Cx := ⟨Tryz.prog, Nat.beq 209, [0,2,29,3,28], 43, []⟩
theorem is224 : cx224.fun? Tryz.f224 = some ir224 := by kernel_rfl
noncomputable def cx228 : Cx := ⟨Tryz.prog, Nat.beq 209, [0,1,4,5], 23, []⟩
theorem is228 : cx228.fun? Tryz.f228 = some ir228 := by kernel_rfl
noncomputable def cx232 : Cx := ⟨Tryz.prog, Nat.beq 209, [0,1,4,18,3,17,6,5], 59, []⟩
theorem is232 : cx232.fun? Tryz.f232 = some ir232 := by kernel_rfl
noncomputable def cx236 : Cx := ⟨Tryz.prog, Nat.beq 209, [0,1,2,3], 26, [(0,[0,1,2,3,4,5,6,7,8,9,10,11,12,13,14,15,16,17,18])]⟩
theorem is236 : cx236.fun? Tryz.f236 = some ir236 := by kernel_rfl
noncomputable def cx240 : Cx := ⟨Tryz.prog, Nat.beq 209, [0,1,4,5,6,7], 42, []⟩
theorem is240 : cx240.fun? Tryz.f240 = some ir240 := by kernel_rfl
noncomputable def cx244 : Cx := ⟨Tryz.prog, Nat.beq 209, [0,1,4,5,6], 20, []⟩
theorem is244 : cx244.fun? Tryz.f244 = some ir244 := by kernel_rfl
noncomputable def cx248 : Cx := ⟨Tryz.prog, Nat.beq 209, [0,1,2], 16, []⟩
theorem is248 : cx248.fun? Tryz.f248 = some ir248 := by kernel_rfl
noncomputable def cx252 : Cx := ⟨Tryz.prog, Nat.beq 209, [0,1,2,3,4], 37, [(1,[0,1,2,3,4,5,6,7,8,9,10,11,12,13,14,15,16,17,18,19,20])]⟩
theorem is252 : cx252.fun? Tryz.f252 = some ir252 := by kernel_rfl
noncomputable def cx262 : Cx := ⟨Tryz.prog, Nat.beq 209, [0,2,3,5,4,7,6], 306, [(1,[0,1,2,3,4,5,6,7,8,9,10,11,12,13,14]),(2,[0,1,2,3,4,5,6,7,8,9,10,11,12,13,14,15,16,17]),(5,[0,1,2,3,4,5,6,7,8,9,10,11,12]),(8,[0,1,2,3,4,5,6,7,8,9,10,11,12,13,14,15,16,17]),(9,[0,1,2,3,4,5,6,7,8,9,10,11,12]),(15,[0,1,2,3,4,5,6,7,8,9,10,11,12,13,14,15,16,17,18,19,20,21,22]),(17,[0,1,2,3,4,5,6,7,8,9,10,11,12,13,14,15,16,17,18]),(31,[0,1,2,3,4,5,6,7,8,9,10,11,12,13,14,15]),(33,[0,1,2,3,4,5,6,7,8,9,10,11,12,13,14,15,16,17,18,19,20,21,22,23])]⟩
theorem is262 : cx262.fun? Tryz.f262 = some ir262 := by kernel_rfl
noncomputable def cx271 : Cx := ⟨Tryz.prog, Nat.beq 209, [0,2], 5, []⟩
theorem is271 : cx271.fun? Tryz.f271 = some ir271 := by kernel_rfl
noncomputable def cx276 : Cx := ⟨Tryz.prog, Nat.beq 209, [0,1,4,9,7,8,5], 19, []⟩
theorem is276 : cx276.fun? Tryz.f276 = some ir276 := by kernel_rfl
noncomputable def cx280 : Cx := ⟨Tryz.prog, Nat.beq 209, [0,1,4], 8, []⟩
theorem is280 : cx280.fun? Tryz.f280 = some ir280 := by kernel_rfl
noncomputable def cx284 : Cx := ⟨Tryz.prog, Nat.beq 209, [0,1,4,9,7,8,5], 19, []⟩
theorem is284 : cx284.fun? Tryz.f284 = some ir284 := by kernel_rfl
noncomputable def cx293 : Cx := ⟨Tryz.prog, Nat.beq 209, [0,2], 5, []⟩
theorem is293 : cx293.fun? Tryz.f293 = some ir293 := by kernel_rfl
noncomputable def cx310 : Cx := ⟨Tryz.prog, Nat.beq 209, [0,1,4,5,6,8,7,10,11,12,9,13], 51, []⟩
theorem is310 : cx310.fun? Tryz.f310 = some ir310 := by kernel_rfl
end Go.Ev
