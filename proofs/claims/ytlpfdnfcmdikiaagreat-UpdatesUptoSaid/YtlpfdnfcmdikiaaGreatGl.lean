/-
  slices.Insert, Delete and BinarySearch of numbers, laid over this program.
  Conditions: none.
-/
import Derived.Test.YtlpfdnfcmdikiaaGreatGx
import Derived.Test.YtlpfdnfcmdikiaaGreatProg

set_option linter.unusedSimpArgs false
set_option linter.unusedVariables false

namespace Go.Ab
open Go.Shelf Go.Proofs

def ren_n21:Ren:=⟨fun|21=>216|27=>220|28=>221|35=>223|39=>224|n=>n,fun|0=>0|3=>3|4=>4|22=>44|n=>n,fun n=>n⟩
theorem lays_n21:Lays2.n21 Go.Proofs.Tryz.prog ren_n21 where
 mixed:=by kernel_rfl
 f21:=Go.Proofs.Tryz.func216.trans (congrArg some (by kernel_rfl))
 f27:=Go.Proofs.Tryz.func220.trans (congrArg some (by kernel_rfl))
 f28:=Go.Proofs.Tryz.func221.trans (congrArg some (by kernel_rfl))
 f35:=Go.Proofs.Tryz.func223.trans (congrArg some (by kernel_rfl))
 f39:=Go.Proofs.Tryz.func224.trans (congrArg some (by kernel_rfl))
 t0:=Go.Proofs.Tryz.underlying0
 a0:=Go.Proofs.Tryz.isAgg0
 z0:=Go.Proofs.Tryz.sizeOf0
 v0:=Go.Proofs.Tryz.zeroValue0
 t3:=Go.Proofs.Tryz.underlying3
 a3:=Go.Proofs.Tryz.isAgg3
 z3:=Go.Proofs.Tryz.sizeOf3
 v3:=Go.Proofs.Tryz.zeroValue3
 t4:=Go.Proofs.Tryz.underlying4
 a4:=Go.Proofs.Tryz.isAgg4
 z4:=Go.Proofs.Tryz.sizeOf4
 v4:=Go.Proofs.Tryz.zeroValue4
 t22:=Go.Proofs.Tryz.underlying44
 a22:=Go.Proofs.Tryz.isAgg44
 z22:=Go.Proofs.Tryz.sizeOf44
 v22:=Go.Proofs.Tryz.zeroValue44
 i3:=by kernel_rfl

def ren_n23:Ren:=⟨fun|23=>217|n=>n,fun|0=>0|3=>3|4=>4|22=>44|n=>n,fun n=>n⟩
theorem lays_n23:Lays2.n23 Go.Proofs.Tryz.prog ren_n23 where
 mixed:=by kernel_rfl
 f23:=Go.Proofs.Tryz.func217.trans (congrArg some (by kernel_rfl))
 t0:=Go.Proofs.Tryz.underlying0
 a0:=Go.Proofs.Tryz.isAgg0
 z0:=Go.Proofs.Tryz.sizeOf0
 v0:=Go.Proofs.Tryz.zeroValue0
 t3:=Go.Proofs.Tryz.underlying3
 a3:=Go.Proofs.Tryz.isAgg3
 z3:=Go.Proofs.Tryz.sizeOf3
 v3:=Go.Proofs.Tryz.zeroValue3
 t4:=Go.Proofs.Tryz.underlying4
 a4:=Go.Proofs.Tryz.isAgg4
 z4:=Go.Proofs.Tryz.sizeOf4
 v4:=Go.Proofs.Tryz.zeroValue4
 t22:=Go.Proofs.Tryz.underlying44
 a22:=Go.Proofs.Tryz.isAgg44
 z22:=Go.Proofs.Tryz.sizeOf44
 v22:=Go.Proofs.Tryz.zeroValue44
 i3:=by kernel_rfl

def ren_n25:Ren:=⟨fun|25=>215|31=>218|32=>219|37=>222|n=>n,fun|0=>0|3=>3|4=>4|22=>44|40=>57|n=>n,fun n=>n⟩
theorem lays_n25:Lays2.n25 Go.Proofs.Tryz.prog ren_n25 where
 mixed:=by kernel_rfl
 f25:=Go.Proofs.Tryz.func215.trans (congrArg some (by kernel_rfl))
 f31:=Go.Proofs.Tryz.func218.trans (congrArg some (by kernel_rfl))
 f32:=Go.Proofs.Tryz.func219.trans (congrArg some (by kernel_rfl))
 f37:=Go.Proofs.Tryz.func222.trans (congrArg some (by kernel_rfl))
 t0:=Go.Proofs.Tryz.underlying0
 a0:=Go.Proofs.Tryz.isAgg0
 z0:=Go.Proofs.Tryz.sizeOf0
 v0:=Go.Proofs.Tryz.zeroValue0
 t3:=Go.Proofs.Tryz.underlying3
 a3:=Go.Proofs.Tryz.isAgg3
 z3:=Go.Proofs.Tryz.sizeOf3
 v3:=Go.Proofs.Tryz.zeroValue3
 t4:=Go.Proofs.Tryz.underlying4
 a4:=Go.Proofs.Tryz.isAgg4
 z4:=Go.Proofs.Tryz.sizeOf4
 v4:=Go.Proofs.Tryz.zeroValue4
 t22:=Go.Proofs.Tryz.underlying44
 a22:=Go.Proofs.Tryz.isAgg44
 z22:=Go.Proofs.Tryz.sizeOf44
 v22:=Go.Proofs.Tryz.zeroValue44
 t40:=Go.Proofs.Tryz.underlying57
 a40:=Go.Proofs.Tryz.isAgg57
 z40:=Go.Proofs.Tryz.sizeOf57
 v40:=Go.Proofs.Tryz.zeroValue57

end Go.Ab
