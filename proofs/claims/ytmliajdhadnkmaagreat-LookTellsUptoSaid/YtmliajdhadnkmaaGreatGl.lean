/-
  slices.Insert, Delete and BinarySearch of numbers, laid over this program.
  Conditions: none.
-/
import Derived.Test.YtmliajdhadnkmaaGreatGx
import Derived.Test.YtmliajdhadnkmaaGreatProg

set_option linter.unusedSimpArgs false
set_option linter.unusedVariables false

namespace Go.Ab
open Go.Shelf Go.Proofs

def ren_n21 : Ren := ⟨fun | 21 => 232 | 27 => 237 | 28 => 238 | 35 => 240 | 39 => 241 | n => n,fun | 0 => 0 | 3 => 3 | 4 => 4 | 22 => 47 | n => n,fun n => n⟩
theorem lays_n21 : Lays2.n21 Go.Proofs.Tryz.prog ren_n21 where
 mixed := by kernel_rfl
 f21 := Go.Proofs.Tryz.func232.trans (congrArg some (by kernel_rfl))
 f27 := Go.Proofs.Tryz.func237.trans (congrArg some (by kernel_rfl))
 f28 := Go.Proofs.Tryz.func238.trans (congrArg some (by kernel_rfl))
 f35 := Go.Proofs.Tryz.func240.trans (congrArg some (by kernel_rfl))
 f39 := Go.Proofs.Tryz.func241.trans (congrArg some (by kernel_rfl))
 t0 := Go.Proofs.Tryz.underlying0
 a0 := Go.Proofs.Tryz.isAgg0
 z0 := Go.Proofs.Tryz.sizeOf0
 v0 := Go.Proofs.Tryz.zeroValue0
 t3 := Go.Proofs.Tryz.underlying3
 a3 := Go.Proofs.Tryz.isAgg3
 z3 := Go.Proofs.Tryz.sizeOf3
 v3 := Go.Proofs.Tryz.zeroValue3
 t4 := Go.Proofs.Tryz.underlying4
 a4 := Go.Proofs.Tryz.isAgg4
 z4 := Go.Proofs.Tryz.sizeOf4
 v4 := Go.Proofs.Tryz.zeroValue4
 t22 := Go.Proofs.Tryz.underlying47
 a22 := Go.Proofs.Tryz.isAgg47
 z22 := Go.Proofs.Tryz.sizeOf47
 v22 := Go.Proofs.Tryz.zeroValue47
 i3 := by kernel_rfl

def ren_n23 : Ren := ⟨fun | 23 => 233 | n => n,fun | 0 => 0 | 3 => 3 | 4 => 4 | 22 => 47 | n => n,fun n => n⟩
theorem lays_n23 : Lays2.n23 Go.Proofs.Tryz.prog ren_n23 where
 mixed := by kernel_rfl
 f23 := Go.Proofs.Tryz.func233.trans (congrArg some (by kernel_rfl))
 t0 := Go.Proofs.Tryz.underlying0
 a0 := Go.Proofs.Tryz.isAgg0
 z0 := Go.Proofs.Tryz.sizeOf0
 v0 := Go.Proofs.Tryz.zeroValue0
 t3 := Go.Proofs.Tryz.underlying3
 a3 := Go.Proofs.Tryz.isAgg3
 z3 := Go.Proofs.Tryz.sizeOf3
 v3 := Go.Proofs.Tryz.zeroValue3
 t4 := Go.Proofs.Tryz.underlying4
 a4 := Go.Proofs.Tryz.isAgg4
 z4 := Go.Proofs.Tryz.sizeOf4
 v4 := Go.Proofs.Tryz.zeroValue4
 t22 := Go.Proofs.Tryz.underlying47
 a22 := Go.Proofs.Tryz.isAgg47
 z22 := Go.Proofs.Tryz.sizeOf47
 v22 := Go.Proofs.Tryz.zeroValue47
 i3 := by kernel_rfl

def ren_n25 : Ren := ⟨fun | 25 => 231 | 31 => 235 | 32 => 236 | 37 => 239 | n => n,fun | 0 => 0 | 3 => 3 | 4 => 4 | 22 => 47 | 40 => 52 | n => n,fun n => n⟩
theorem lays_n25 : Lays2.n25 Go.Proofs.Tryz.prog ren_n25 where
 mixed := by kernel_rfl
 f25 := Go.Proofs.Tryz.func231.trans (congrArg some (by kernel_rfl))
 f31 := Go.Proofs.Tryz.func235.trans (congrArg some (by kernel_rfl))
 f32 := Go.Proofs.Tryz.func236.trans (congrArg some (by kernel_rfl))
 f37 := Go.Proofs.Tryz.func239.trans (congrArg some (by kernel_rfl))
 t0 := Go.Proofs.Tryz.underlying0
 a0 := Go.Proofs.Tryz.isAgg0
 z0 := Go.Proofs.Tryz.sizeOf0
 v0 := Go.Proofs.Tryz.zeroValue0
 t3 := Go.Proofs.Tryz.underlying3
 a3 := Go.Proofs.Tryz.isAgg3
 z3 := Go.Proofs.Tryz.sizeOf3
 v3 := Go.Proofs.Tryz.zeroValue3
 t4 := Go.Proofs.Tryz.underlying4
 a4 := Go.Proofs.Tryz.isAgg4
 z4 := Go.Proofs.Tryz.sizeOf4
 v4 := Go.Proofs.Tryz.zeroValue4
 t22 := Go.Proofs.Tryz.underlying47
 a22 := Go.Proofs.Tryz.isAgg47
 z22 := Go.Proofs.Tryz.sizeOf47
 v22 := Go.Proofs.Tryz.zeroValue47
 t40 := Go.Proofs.Tryz.underlying52
 a40 := Go.Proofs.Tryz.isAgg52
 z40 := Go.Proofs.Tryz.sizeOf52
 v40 := Go.Proofs.Tryz.zeroValue52

end Go.Ab
