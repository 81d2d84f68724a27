/-
  slices.Insert, Delete, BinarySearch and Grow of numbers, laid over this program.
  Conditions: none.
-/
import Derived.Test.YtbnmnlijdoabkaaGreatGx
import Derived.Test.YtbnmnlijdoabkaaGreatProg

set_option linter.unusedSimpArgs false
set_option linter.unusedVariables false

namespace Go.Ab
open Go.Shelf Go.Proofs

def ren_n21:Ren:=⟨fun|21=>218|27=>223|28=>224|35=>226|39=>227|n=>n,fun|0=>0|3=>3|4=>4|22=>44|n=>n,fun n=>n⟩
theorem lays_n21:Lays2.n21 Go.Proofs.Tryz.prog ren_n21 where
 mixed:=by kernel_rfl
 f21:=Go.Proofs.Tryz.func218.trans (congrArg some (by kernel_rfl))
 f27:=Go.Proofs.Tryz.func223.trans (congrArg some (by kernel_rfl))
 f28:=Go.Proofs.Tryz.func224.trans (congrArg some (by kernel_rfl))
 f35:=Go.Proofs.Tryz.func226.trans (congrArg some (by kernel_rfl))
 f39:=Go.Proofs.Tryz.func227.trans (congrArg some (by kernel_rfl))
 t0:=Go.Proofs.Tryz.underlying0
 a0:=Go.Proofs.Tryz.isAgg0
 z0:=Go.Proofs.Tryz.sizeOf0
 v0:=Go.Proofs.Tryz.zeroValue0
 t3:=Go.Proofs.Tryz.underlying3
 a3:=Go.Proofs.Tryz.isAgg3
 z3:=Go.Proofs.Tryz.sizeOf3
 v3:=Go.Proofs.Tryz.zeroValue3
 t4:=Go.Proofs.Tryz.underlying4
 a4:=Go.Proofs.Tryz.isAgg4
 z4:=Go.Proofs.Tryz.sizeOf4
 v4:=Go.Proofs.Tryz.zeroValue4
 t22:=Go.Proofs.Tryz.underlying44
 a22:=Go.Proofs.Tryz.isAgg44
 z22:=Go.Proofs.Tryz.sizeOf44
 v22:=Go.Proofs.Tryz.zeroValue44
 i3:=by kernel_rfl

def ren_n23:Ren:=⟨fun|23=>219|n=>n,fun|0=>0|3=>3|4=>4|22=>44|n=>n,fun n=>n⟩
theorem lays_n23:Lays2.n23 Go.Proofs.Tryz.prog ren_n23 where
 mixed:=by kernel_rfl
 f23:=Go.Proofs.Tryz.func219.trans (congrArg some (by kernel_rfl))
 t0:=Go.Proofs.Tryz.underlying0
 a0:=Go.Proofs.Tryz.isAgg0
 z0:=Go.Proofs.Tryz.sizeOf0
 v0:=Go.Proofs.Tryz.zeroValue0
 t3:=Go.Proofs.Tryz.underlying3
 a3:=Go.Proofs.Tryz.isAgg3
 z3:=Go.Proofs.Tryz.sizeOf3
 v3:=Go.Proofs.Tryz.zeroValue3
 t4:=Go.Proofs.Tryz.underlying4
 a4:=Go.Proofs.Tryz.isAgg4
 z4:=Go.Proofs.Tryz.sizeOf4
 v4:=Go.Proofs.Tryz.zeroValue4
 t22:=Go.Proofs.Tryz.underlying44
 a22:=Go.Proofs.Tryz.isAgg44
 z22:=Go.Proofs.Tryz.sizeOf44
 v22:=Go.Proofs.Tryz.zeroValue44
 i3:=by kernel_rfl

def ren_n25:Ren:=⟨fun|25=>217|31=>221|32=>222|37=>225|n=>n,fun|0=>0|3=>3|4=>4|22=>44|40=>66|n=>n,fun n=>n⟩
theorem lays_n25:Lays2.n25 Go.Proofs.Tryz.prog ren_n25 where
 mixed:=by kernel_rfl
 f25:=Go.Proofs.Tryz.func217.trans (congrArg some (by kernel_rfl))
 f31:=Go.Proofs.Tryz.func221.trans (congrArg some (by kernel_rfl))
 f32:=Go.Proofs.Tryz.func222.trans (congrArg some (by kernel_rfl))
 f37:=Go.Proofs.Tryz.func225.trans (congrArg some (by kernel_rfl))
 t0:=Go.Proofs.Tryz.underlying0
 a0:=Go.Proofs.Tryz.isAgg0
 z0:=Go.Proofs.Tryz.sizeOf0
 v0:=Go.Proofs.Tryz.zeroValue0
 t3:=Go.Proofs.Tryz.underlying3
 a3:=Go.Proofs.Tryz.isAgg3
 z3:=Go.Proofs.Tryz.sizeOf3
 v3:=Go.Proofs.Tryz.zeroValue3
 t4:=Go.Proofs.Tryz.underlying4
 a4:=Go.Proofs.Tryz.isAgg4
 z4:=Go.Proofs.Tryz.sizeOf4
 v4:=Go.Proofs.Tryz.zeroValue4
 t22:=Go.Proofs.Tryz.underlying44
 a22:=Go.Proofs.Tryz.isAgg44
 z22:=Go.Proofs.Tryz.sizeOf44
 v22:=Go.Proofs.Tryz.zeroValue44
 t40:=Go.Proofs.Tryz.underlying66
 a40:=Go.Proofs.Tryz.isAgg66
 z40:=Go.Proofs.Tryz.sizeOf66
 v40:=Go.Proofs.Tryz.zeroValue66

def ren_n4:Ren:=⟨fun|4=>216|n=>n,fun|0=>0|3=>3|4=>4|9=>9|20=>20|22=>44|25=>3|n=>n,fun n=>n⟩
theorem lays_n4:Lays8.n4 Go.Proofs.Tryz.prog ren_n4 where
 mixed:=by kernel_rfl
 f4 := ⟨"slices.Grow[[]int,int]", by kernel_rfl, Go.Proofs.Tryz.func216.trans (congrArg some (by kernel_rfl))⟩
 t0:=Go.Proofs.Tryz.underlying0
 a0:=Go.Proofs.Tryz.isAgg0
 z0:=Go.Proofs.Tryz.sizeOf0
 v0:=Go.Proofs.Tryz.zeroValue0
 t3:=Go.Proofs.Tryz.underlying3
 a3:=Go.Proofs.Tryz.isAgg3
 z3:=Go.Proofs.Tryz.sizeOf3
 v3:=Go.Proofs.Tryz.zeroValue3
 t4:=Go.Proofs.Tryz.underlying4
 a4:=Go.Proofs.Tryz.isAgg4
 z4:=Go.Proofs.Tryz.sizeOf4
 v4:=Go.Proofs.Tryz.zeroValue4
 t9:=Go.Proofs.Tryz.underlying9
 a9:=Go.Proofs.Tryz.isAgg9
 z9:=Go.Proofs.Tryz.sizeOf9
 v9:=Go.Proofs.Tryz.zeroValue9
 t20:=Go.Proofs.Tryz.underlying20
 a20:=Go.Proofs.Tryz.isAgg20
 z20:=Go.Proofs.Tryz.sizeOf20
 v20:=Go.Proofs.Tryz.zeroValue20
 t22:=Go.Proofs.Tryz.underlying44
 a22:=Go.Proofs.Tryz.isAgg44
 z22:=Go.Proofs.Tryz.sizeOf44
 v22:=Go.Proofs.Tryz.zeroValue44
set_option maxRecDepth 100000 in
theorem grow_lay:ExtOK Go.Proofs.Tryz.prog 216 growF:=grow_fits lays_n4 (by kernel_rfl) (by kernel_rfl)

end Go.Ab
