/-
  Each function's instructions are those into which the evaluator turns the program's own code (by the kernel).
  No condition stands but those in each theorem's own words.
-/
import Derived.Test.YtoehnhbgdmhomaaGreatDoorIr0
import Derived.Test.YtoehnhbgdmhomaaGreatDoorIr1
import Derived.Test.YtoehnhbgdmhomaaGreatDoorProg
set_option maxRecDepth 1000000
namespace Go.Ev
open Go.Proofs
noncomputable def cx6 : Cx := ⟨Tryz.prog, Nat.beq 209, [0,1,2,6,7,8,10,12,9,11,13,15,14], 77, [(15,[0,1,2,3,4,5,6,7,8,9,10,11,12,13,14,15,16])]⟩
theorem is6 : cx6.fun? Tryz.f6 = some ir6 := by kernel_rfl
noncomputable def cx10 : Cx := ⟨Tryz.prog, Nat.beq 209, [0,1,4,5,6,8,7,9], 30, []⟩
theorem is10 : cx10.fun? Tryz.f10 = some ir10 := by kernel_rfl
noncomputable def cx14 : Cx := ⟨Tryz.prog, Nat.beq 209, [0,1,4,45,55,65,84,5,7,43,44,42,10,53,54,52,14,12,63,64,8,15,11,82,83,81,17,16], 103, [(30,[0,1,2,4,5,3,6,7])]⟩
theorem is14 : cx14.fun? Tryz.f14 = some ir14 := by kernel_rfl
noncomputable def cx18 : Cx := ⟨Tryz.prog, Nat.beq 209, [0,1,2,6,7,8,9], 40, []⟩
theorem is18 : cx18.fun? Tryz.f18 = some ir18 := by kernel_rfl
noncomputable def cx22 : Cx := ⟨Tryz.prog, Nat.beq 209, [0,2,10,3,8,9,4], 26, []⟩
theorem is22 : cx22.fun? Tryz.f22 = some ir22 := by kernel_rfl
noncomputable def cx26 : Cx := ⟨Tryz.prog, Nat.beq 209, [0,1,4,5,8,16], 22, []⟩
theorem is26 : cx26.fun? Tryz.f26 = some ir26 := by kernel_rfl
noncomputable def cx30 : Cx := ⟨Tryz.prog, Nat.beq 209, [0,1,7,14,2,4], 16, []⟩
theorem is30 : cx30.dfun? Tryz.f30 = some ir30 := by kernel_rfl
noncomputable def cx34 : Cx := ⟨Tryz.prog, Nat.beq 209, [0,1], 8, []⟩
theorem is34 : cx34.fun? Tryz.f34 = some ir34 := by kernel_rfl
noncomputable def cx38 : Cx := ⟨Tryz.prog, Nat.beq 209, [0,2], 8, []⟩
theorem is38 : cx38.fun? Tryz.f38 = some ir38 := by kernel_rfl
noncomputable def cx44 : Cx := ⟨Tryz.prog, Nat.beq 209, [0,2,1], 6, []⟩
theorem is44 : cx44.fun? Tryz.f44 = some ir44 := by kernel_rfl
noncomputable def cx48 : Cx := ⟨Tryz.prog, Nat.beq 209, [0,1,3,2], 8, []⟩
theorem is48 : cx48.fun? Tryz.f48 = some ir48 := by kernel_rfl
noncomputable def cx52 : Cx := ⟨Tryz.prog, Nat.beq 209, [0,2,17,15,16,14,3,5], 26, []⟩
theorem is52 : cx52.fun? Tryz.f52 = some ir52 := by kernel_rfl
noncomputable def cx56 : Cx := ⟨Tryz.prog, Nat.beq 209, [0,1,4,26,24,25,23,6,8,5,7], 50, []⟩
theorem is56 : cx56.fun? Tryz.f56 = some ir56 := by kernel_rfl
noncomputable def cx60 : Cx := ⟨Tryz.prog, Nat.beq 209, [0,1,2,22,20,21,19,4,6], 42, [(1,[0,1,2,3,4,5,6,7]),(5,[0,1,2,3,4,5,6,7,8,9,10,11,12,13])]⟩
theorem is60 : cx60.fun? Tryz.f60 = some ir60 := by kernel_rfl
noncomputable def cx65 : Cx := ⟨Tryz.prog, Nat.beq 209, [0,1,2,6,7], 33, [(5,[0,1,2,3,4,5,6,7])]⟩
theorem is65 : cx65.fun? Tryz.f65 = some ir65 := by kernel_rfl
noncomputable def cx69 : Cx := ⟨Tryz.prog, Nat.beq 209, [0,1,2,3,4,10,17,20,26,5,7,6,19], 28, []⟩
theorem is69 : cx69.dfun? Tryz.f69 = some ir69 := by kernel_rfl
noncomputable def cx73 : Cx := ⟨Tryz.prog, Nat.beq 209, [0,1,4,5,6,60,2,3,7,8,11,12,58,59,13,14,9,10], 118, [(4,[0,2,1,3,4,5]),(14,[0,1,2,4,5,6,3,7,8]),(18,[0,1,2,3,5,6,7,8,11,4,9,10,12]),(23,[0,1,2,3,4,5,6,7,8])]⟩
theorem is73 : cx73.fun? Tryz.f73 = some ir73 := by kernel_rfl
noncomputable def cx77 : Cx := ⟨Tryz.prog, Nat.beq 209, [0,1,4], 8, []⟩
theorem is77 : cx77.fun? Tryz.f77 = some ir77 := by kernel_rfl
noncomputable def cx81 : Cx := ⟨Tryz.prog, Nat.beq 209, [0,1,4], 16, []⟩
theorem is81 : cx81.fun? Tryz.f81 = some ir81 := by kernel_rfl
noncomputable def cx85 : Cx := ⟨Tryz.prog, Nat.beq 209, [0,2], 7, []⟩
theorem is85 : cx85.fun? Tryz.f85 = some ir85 := by kernel_rfl
noncomputable def cx89 : Cx := ⟨Tryz.prog, Nat.beq 209, [0,2,29,56,27,28,26,3,5,6,7,54,55,53,8,10], 67, [(6,[0,1,2,3,4,5,6,7,8,9,10,11])]⟩
theorem is89 : cx89.fun? Tryz.f89 = some ir89 := by kernel_rfl
noncomputable def cx93 : Cx := ⟨Tryz.prog, Nat.beq 209, [0,2], 8, []⟩
theorem is93 : cx93.fun? Tryz.f93 = some ir93 := by kernel_rfl
noncomputable def cx99 : Cx := ⟨Tryz.prog, Nat.beq 209, [0,1,4], 9, []⟩
theorem is99 : cx99.fun? Tryz.f99 = some ir99 := by kernel_rfl
noncomputable def cx103 : Cx := ⟨Tryz.prog, Nat.beq 209, [0,2,9,7,8,6,3,4,5], 35, []⟩
theorem is103 : cx103.fun? Tryz.f103 = some ir103 := by kernel_rfl
noncomputable def cx107 : Cx := ⟨Tryz.prog, Nat.beq 209, [0,1,2,6,7], 96, [(1,[0,1,2,3,4,5,6,7,8,9,10,11,12,13]),(7,[0,1,2,3,4,5,6,7,8,9,10,11,12,13,14,15,16]),(8,[0,1,2,3,4,5,6,7,8,9,10,11,12,13,14,17,18,19,20,21,22,23,24,15,16,25,26,27,28,29,30])]⟩
theorem is107 : cx107.fun? Tryz.f107 = some ir107 := by kernel_rfl
noncomputable def cx111 : Cx := ⟨Tryz.prog, Nat.beq 209, [0,1], 13, []⟩
theorem is111 : cx111.fun? Tryz.f111 = some ir111 := by kernel_rfl
noncomputable def cx116 : Cx := ⟨Tryz.prog, Nat.beq 209, [0,1,2,3,8], 30, []⟩
theorem is116 : cx116.fun? Tryz.f116 = some ir116 := by kernel_rfl
noncomputable def cx121 : Cx := ⟨Tryz.prog, Nat.beq 209, [0,2,3,5,6,4], 85, []⟩
theorem is121 : cx121.fun? Tryz.f121 = some ir121 := by kernel_rfl
noncomputable def cx125 : Cx := ⟨Tryz.prog, Nat.beq 209, [0,2,3], 15, [(3,[0,1,2,3,4,5,6])]⟩
theorem is125 : cx125.fun? Tryz.f125 = some ir125 := by kernel_rfl
noncomputable def cx129 : Cx := ⟨Tryz.prog, Nat.beq 209, [0,1,4,2,3], 18, []⟩
theorem is129 : cx129.fun? Tryz.f129 = some ir129 := by kernel_rfl
noncomputable def cx133 : Cx := ⟨Tryz.prog, Nat.beq 209, [0,1,4,2], 14, []⟩
theorem is133 : cx133.fun? Tryz.f133 = some ir133 := by kernel_rfl
noncomputable def cx137 : Cx := ⟨Tryz.prog, Nat.beq 209, [0,1,4], 8, []⟩
theorem is137 : cx137.fun? Tryz.f137 = some ir137 := by kernel_rfl
noncomputable def cx141 : Cx := ⟨Tryz.prog, Nat.beq 209, [0,1,4], 8, []⟩
theorem is141 : cx141.fun? Tryz.f141 = some ir141 := by kernel_rfl
noncomputable def cx147 : Cx := ⟨Tryz.prog, Nat.beq 209, [0,1,4], 29, [(1,[0,1,2,3,4,5,6,7,8,9,10,11,12,13,14,15,16,17,18,19,20,21,22,23,24])]⟩
theorem is147 : cx147.fun? Tryz.f147 = some ir147 := by kernel_rfl
noncomputable def cx151 : Cx := ⟨Tryz.prog, Nat.beq 209, [0,1,2,6,3,7], 26, []⟩
theorem is151 : cx151.fun? Tryz.f151 = some ir151 := by kernel_rfl
noncomputable def cx155 : Cx := ⟨Tryz.prog, Nat.beq 209, [0,1,2], 31, [(1,[0,1,2,3,4,5]),(2,[0,1,2,3,4,5,6,7]),(3,[0,1,2,3,4,5,6,7])]⟩
theorem is155 : cx155.fun? Tryz.f155 = some ir155 := by kernel_rfl
noncomputable def cx167 : Cx := ⟨Tryz.prog, Nat.beq 209, [0,1,4], 9, []⟩
theorem is167 : cx167.fun? Tryz.f167 = some ir167 := by kernel_rfl
noncomputable def cx173 : Cx := ⟨Tryz.prog, Nat.beq 209, [0,2], 9, []⟩
theorem is173 : cx173.fun? Tryz.f173 = some ir173 := by kernel_rfl
noncomputable def cx177 : Cx := ⟨Tryz.prog, Nat.beq 209, [0,2], 7, []⟩
theorem is177 : cx177.fun? Tryz.f177 = some ir177 := by kernel_rfl
noncomputable def cx181 : Cx := ⟨Tryz.prog, Nat.beq 209, [0,2], 23, [(1,[0,1,2,3,4,5,6,7,8,9]),(2,[0,1,2,3,4,5,6,7,8,9,10])]⟩
theorem is181 : cx181.fun? Tryz.f181 = some ir181 := by kernel_rfl
noncomputable def cx185 : Cx := ⟨Tryz.prog, Nat.beq 209, [0,2,1,3,5,4,7,6], 56, [(7,[0,1,2,3,4,5,6,7,8,9]),(13,[0,1,2,3,4,5,6,7,8,9,10,11])]⟩
theorem is185 : cx185.fun? Tryz.f185 = some ir185 := by kernel_rfl
noncomputable def cx189 : Cx := ⟨Tryz.prog, Nat.beq 209, [0,1,4], 30, [(1,[0,1,2,3,4,5,6,8,9,10,11,12,13,7,14,15,16,17,18,19,20])]⟩
theorem is189 : cx189.fun? Tryz.f189 = some ir189 := by kernel_rfl
noncomputable def cx193 : Cx := ⟨Tryz.prog, Nat.beq 209, [0,2,1], 17, []⟩
theorem is193 : cx193.fun? Tryz.f193 = some ir193 := by kernel_rfl
noncomputable def cx198 : Cx := ⟨Tryz.prog, Nat.beq 209, [0,1,2,3,4,5,8,9,10], 34, []⟩
theorem is198 : cx198.fun? Tryz.f198 = some ir198 := by kernel_rfl
noncomputable def cx202 : Cx := ⟨Tryz.prog, Nat.beq 209, [0,1,4,14,12,13,5], 26, [(6,[0,1,2,3,4,5,6,7,8])]⟩
theorem is202 : cx202.fun? Tryz.f202 = some ir202 := by kernel_rfl
noncomputable def cx206 : Cx := ⟨Tryz.prog, Nat.beq 209, [0,1,2,3,4,10,62,127,144,166,5,11,32,7,12,13,60,61,59,14,16,84,17,18,125,126,124,20,19,164,165,163,21,22,23], 197, [(5,[0,1,2,3,4,5,6,7,8,9,10,11,12,13,14]),(20,[0,1,2,3,4,5,6,7,8,9,10,11,12,13]),(22,[0,1,2,3,4,5,6,7,8,9,10,11,12]),(31,[0,1,2,3,4,5,6,7,8,9,10,11,12,13,14])]⟩
theorem is206 : cx206.fun? Tryz.f206 = some ir206 := by kernel_rfl
noncomputable def cx213 : Cx := ⟨Tryz.prog, Nat.beq 209, [0,2,35,3,4,5,6,34,7], 52, []⟩
theorem is213 : cx213.fun? Tryz.f213 = some ir213 := by kernel_rfl
noncomputable def cx223 : Cx := ⟨Tryz.prog, Nat.beq 209, [0,1,4,9,7,8,5], 19, []⟩
theorem is223 : cx223.fun? Tryz.f223 = some ir223 := by kernel_rfl
noncomputable def cx227 : Cx := ⟨Tryz.prog, Nat.beq 209, [0,1,4,5,6,7,8,9,10], 96, [(16,[0,1,2,3,4,5,6,7,8,9]),(22,[0,1,2,3,4,5,6,7,8]),(30,[0,1,2,3,4,5,6,7,8])]⟩
theorem is227 : cx227.fun? Tryz.f227 = some ir227 := by kernel_rfl
noncomputable def cx231 : Cx := ⟨Tryz.prog, Nat.beq 209, [0,1,4,5,6], 26, []⟩
theorem is231 : cx231.fun? Tryz.f231 = some ir231 := by kernel_rfl
noncomputable def cx235 : Cx := ⟨Tryz.prog, Nat.beq 209, [0,2,3,5,4], 60, [(1,[0,1,2,3,4,5,6,9,10,11,12,13,14,15,16,17,18,19,7,8,20,21,22])]⟩
theorem is235 : cx235.fun? Tryz.f235 = some ir235 := by kernel_rfl
noncomputable def cx239 : Cx := ⟨Tryz.prog, Nat.beq 209, [0,2,30,37,82,28,29,27,7,35,36,34,3,9,6,4,5,10,80,81,79,12], 99, [(10,[0,1,2,3,4,5,6,7,8,9,10,11,12])]⟩
theorem is239 : cx239.fun? Tryz.f239 = some ir239 := by kernel_rfl
noncomputable def cx243 : Cx := ⟨Tryz.prog, Nat.beq 209, [0,1,4,2,3], 10, []⟩
theorem is243 : cx243.fun? Tryz.f243 = some ir243 := by kernel_rfl
noncomputable def cx247 : Cx := ⟨Tryz.prog, Nat.beq 209, [0,2,23,34,1,21,22,20,4,32,33,31,6], 66, []⟩
theorem is247 : cx247.fun? Tryz.f247 = some ir247 := by kernel_rfl
noncomputable def cx251 : Cx := ⟨Tryz.prog, Nat.beq 209, [0,2], 8, []⟩
theorem is251 : cx251.fun? Tryz.f251 = some ir251 := by kernel_rfl
noncomputable def cx257 : Cx := ⟨Tryz.prog, Nat.beq 209, [0,1,4], 20, []⟩
theorem is257 : cx257.fun? Tryz.f257 = some ir257 := by kernel_rfl
noncomputable def cx270 : Cx := ⟨Tryz.prog, Nat.beq 209, [0,1,4,5,6], 32, []⟩
theorem is270 : cx270.fun? Tryz.f270 = some ir270 := by kernel_rfl
noncomputable def cx275 : Cx := ⟨Tryz.prog, Nat.beq 209, [0,2], 8, []⟩
theorem is275 : cx275.fun? Tryz.f275 = some ir275 := by kernel_rfl
noncomputable def cx279 : Cx := ⟨Tryz.prog, Nat.beq 209, [0,1,2,6], 11, []⟩
theorem is279 : cx279.fun? Tryz.f279 = some ir279 := by kernel_rfl
noncomputable def cx283 : Cx := ⟨Tryz.prog, Nat.beq 209, [0,1,4], 9, []⟩
theorem is283 : cx283.fun? Tryz.f283 = some ir283 := by kernel_rfl
noncomputable def cx288 : Cx := ⟨Tryz.prog, Nat.beq 209, [0,1,2,6,8,7], 37, []⟩
theorem is288 : cx288.fun? Tryz.f288 = some ir288 := by kernel_rfl
noncomputable def cx308 : Cx := ⟨Tryz.prog, Nat.beq 209, [0,1,4], 10, []⟩
theorem is308 : cx308.fun? Tryz.f308 = some ir308 := by kernel_rfl
noncomputable def cx319 : Cx := ⟨Tryz.prog, Nat.beq 209, [0,2], 15, []⟩
theorem is319 : cx319.fun? Tryz.f319 = some ir319 := by kernel_rfl
end Go.Ev
