/-
  slices.Insert, Delete and BinarySearch of numbers, laid over this program.
  Conditions: none.
-/
import Derived.Test.YtgofbakhdaegeaaGreatGx
import Derived.Test.YtgofbakhdaegeaaGreatProg

set_option linter.unusedSimpArgs false
set_option linter.unusedVariables false

namespace Go.Ab
open Go.Shelf Go.Proofs

def ren_n21 : Ren := ⟨fun | 21 => 167 | 27 => 172 | 28 => 173 | 35 => 175 | 39 => 176 | n => n, fun | 0 => 0 | 3 => 3 | 4 => 4 | 22 => 41 | n => n, fun n => n⟩
theorem lays_n21 : Lays2.n21 Go.Proofs.Tryz.prog ren_n21 where
  mixed := by kernel_rfl
  f21 := Go.Proofs.Tryz.func167.trans (congrArg some (by kernel_rfl))
  f27 := Go.Proofs.Tryz.func172.trans (congrArg some (by kernel_rfl))
  f28 := Go.Proofs.Tryz.func173.trans (congrArg some (by kernel_rfl))
  f35 := Go.Proofs.Tryz.func175.trans (congrArg some (by kernel_rfl))
  f39 := Go.Proofs.Tryz.func176.trans (congrArg some (by kernel_rfl))
  t0 := Go.Proofs.Tryz.underlying0
  a0 := Go.Proofs.Tryz.isAgg0
  z0 := Go.Proofs.Tryz.sizeOf0
  v0 := Go.Proofs.Tryz.zeroValue0
  t3 := Go.Proofs.Tryz.underlying3
  a3 := Go.Proofs.Tryz.isAgg3
  z3 := Go.Proofs.Tryz.sizeOf3
  v3 := Go.Proofs.Tryz.zeroValue3
  t4 := Go.Proofs.Tryz.underlying4
  a4 := Go.Proofs.Tryz.isAgg4
  z4 := Go.Proofs.Tryz.sizeOf4
  v4 := Go.Proofs.Tryz.zeroValue4
  t22 := Go.Proofs.Tryz.underlying41
  a22 := Go.Proofs.Tryz.isAgg41
  z22 := Go.Proofs.Tryz.sizeOf41
  v22 := Go.Proofs.Tryz.zeroValue41
  i3 := by kernel_rfl

def ren_n23 : Ren := ⟨fun | 23 => 168 | n => n, fun | 0 => 0 | 3 => 3 | 4 => 4 | 22 => 41 | n => n, fun n => n⟩
theorem lays_n23 : Lays2.n23 Go.Proofs.Tryz.prog ren_n23 where
  mixed := by kernel_rfl
  f23 := Go.Proofs.Tryz.func168.trans (congrArg some (by kernel_rfl))
  t0 := Go.Proofs.Tryz.underlying0
  a0 := Go.Proofs.Tryz.isAgg0
  z0 := Go.Proofs.Tryz.sizeOf0
  v0 := Go.Proofs.Tryz.zeroValue0
  t3 := Go.Proofs.Tryz.underlying3
  a3 := Go.Proofs.Tryz.isAgg3
  z3 := Go.Proofs.Tryz.sizeOf3
  v3 := Go.Proofs.Tryz.zeroValue3
  t4 := Go.Proofs.Tryz.underlying4
  a4 := Go.Proofs.Tryz.isAgg4
  z4 := Go.Proofs.Tryz.sizeOf4
  v4 := Go.Proofs.Tryz.zeroValue4
  t22 := Go.Proofs.Tryz.underlying41
  a22 := Go.Proofs.Tryz.isAgg41
  z22 := Go.Proofs.Tryz.sizeOf41
  v22 := Go.Proofs.Tryz.zeroValue41
  i3 := by kernel_rfl

def ren_n25 : Ren := ⟨fun | 25 => 166 | 31 => 170 | 32 => 171 | 37 => 174 | n => n, fun | 0 => 0 | 3 => 3 | 4 => 4 | 22 => 41 | 40 => 178 | n => n, fun n => n⟩
theorem lays_n25 : Lays2.n25 Go.Proofs.Tryz.prog ren_n25 where
  mixed := by kernel_rfl
  f25 := Go.Proofs.Tryz.func166.trans (congrArg some (by kernel_rfl))
  f31 := Go.Proofs.Tryz.func170.trans (congrArg some (by kernel_rfl))
  f32 := Go.Proofs.Tryz.func171.trans (congrArg some (by kernel_rfl))
  f37 := Go.Proofs.Tryz.func174.trans (congrArg some (by kernel_rfl))
  t0 := Go.Proofs.Tryz.underlying0
  a0 := Go.Proofs.Tryz.isAgg0
  z0 := Go.Proofs.Tryz.sizeOf0
  v0 := Go.Proofs.Tryz.zeroValue0
  t3 := Go.Proofs.Tryz.underlying3
  a3 := Go.Proofs.Tryz.isAgg3
  z3 := Go.Proofs.Tryz.sizeOf3
  v3 := Go.Proofs.Tryz.zeroValue3
  t4 := Go.Proofs.Tryz.underlying4
  a4 := Go.Proofs.Tryz.isAgg4
  z4 := Go.Proofs.Tryz.sizeOf4
  v4 := Go.Proofs.Tryz.zeroValue4
  t22 := Go.Proofs.Tryz.underlying41
  a22 := Go.Proofs.Tryz.isAgg41
  z22 := Go.Proofs.Tryz.sizeOf41
  v22 := Go.Proofs.Tryz.zeroValue41
  t40 := Go.Proofs.Tryz.underlying178
  a40 := Go.Proofs.Tryz.isAgg178
  z40 := Go.Proofs.Tryz.sizeOf178
  v40 := Go.Proofs.Tryz.zeroValue178

end Go.Ab
