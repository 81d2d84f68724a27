/-
  slices.Insert, Delete, BinarySearch and Grow of numbers, laid over this program.
  Conditions: none.
-/
import Derived.Test.YtbgkjaicehonfaaGreatGx
import Derived.Test.YtbgkjaicehonfaaGreatProg

set_option linter.unusedSimpArgs false
set_option linter.unusedVariables false

namespace Go.Ab
open Go.Shelf Go.Proofs

def ren_n21:Ren:=⟨fun|21=>188|27=>193|28=>194|35=>196|39=>197|n=>n,fun|0=>0|3=>3|4=>4|22=>22|n=>n,fun n=>n⟩
theorem lays_n21:Lays2.n21 Go.Proofs.Tryz.prog ren_n21 where
 mixed:=by kernel_rfl
 f21:=Go.Proofs.Tryz.func188.trans (congrArg some (by kernel_rfl))
 f27:=Go.Proofs.Tryz.func193.trans (congrArg some (by kernel_rfl))
 f28:=Go.Proofs.Tryz.func194.trans (congrArg some (by kernel_rfl))
 f35:=Go.Proofs.Tryz.func196.trans (congrArg some (by kernel_rfl))
 f39:=Go.Proofs.Tryz.func197.trans (congrArg some (by kernel_rfl))
 t0:=Go.Proofs.Tryz.underlying0
 a0:=Go.Proofs.Tryz.isAgg0
 z0:=Go.Proofs.Tryz.sizeOf0
 v0:=Go.Proofs.Tryz.zeroValue0
 t3:=Go.Proofs.Tryz.underlying3
 a3:=Go.Proofs.Tryz.isAgg3
 z3:=Go.Proofs.Tryz.sizeOf3
 v3:=Go.Proofs.Tryz.zeroValue3
 t4:=Go.Proofs.Tryz.underlying4
 a4:=Go.Proofs.Tryz.isAgg4
 z4:=Go.Proofs.Tryz.sizeOf4
 v4:=Go.Proofs.Tryz.zeroValue4
 t22:=Go.Proofs.Tryz.underlying22
 a22:=Go.Proofs.Tryz.isAgg22
 z22:=Go.Proofs.Tryz.sizeOf22
 v22:=Go.Proofs.Tryz.zeroValue22
 i3:=by kernel_rfl

def ren_n23:Ren:=⟨fun|23=>189|n=>n,fun|0=>0|3=>3|4=>4|22=>22|n=>n,fun n=>n⟩
theorem lays_n23:Lays2.n23 Go.Proofs.Tryz.prog ren_n23 where
 mixed:=by kernel_rfl
 f23:=Go.Proofs.Tryz.func189.trans (congrArg some (by kernel_rfl))
 t0:=Go.Proofs.Tryz.underlying0
 a0:=Go.Proofs.Tryz.isAgg0
 z0:=Go.Proofs.Tryz.sizeOf0
 v0:=Go.Proofs.Tryz.zeroValue0
 t3:=Go.Proofs.Tryz.underlying3
 a3:=Go.Proofs.Tryz.isAgg3
 z3:=Go.Proofs.Tryz.sizeOf3
 v3:=Go.Proofs.Tryz.zeroValue3
 t4:=Go.Proofs.Tryz.underlying4
 a4:=Go.Proofs.Tryz.isAgg4
 z4:=Go.Proofs.Tryz.sizeOf4
 v4:=Go.Proofs.Tryz.zeroValue4
 t22:=Go.Proofs.Tryz.underlying22
 a22:=Go.Proofs.Tryz.isAgg22
 z22:=Go.Proofs.Tryz.sizeOf22
 v22:=Go.Proofs.Tryz.zeroValue22
 i3:=by kernel_rfl

def ren_n25:Ren:=⟨fun|25=>187|31=>191|32=>192|37=>195|n=>n,fun|0=>0|3=>3|4=>4|22=>22|40=>55|n=>n,fun n=>n⟩
theorem lays_n25:Lays2.n25 Go.Proofs.Tryz.prog ren_n25 where
 mixed:=by kernel_rfl
 f25:=Go.Proofs.Tryz.func187.trans (congrArg some (by kernel_rfl))
 f31:=Go.Proofs.Tryz.func191.trans (congrArg some (by kernel_rfl))
 f32:=Go.Proofs.Tryz.func192.trans (congrArg some (by kernel_rfl))
 f37:=Go.Proofs.Tryz.func195.trans (congrArg some (by kernel_rfl))
 t0:=Go.Proofs.Tryz.underlying0
 a0:=Go.Proofs.Tryz.isAgg0
 z0:=Go.Proofs.Tryz.sizeOf0
 v0:=Go.Proofs.Tryz.zeroValue0
 t3:=Go.Proofs.Tryz.underlying3
 a3:=Go.Proofs.Tryz.isAgg3
 z3:=Go.Proofs.Tryz.sizeOf3
 v3:=Go.Proofs.Tryz.zeroValue3
 t4:=Go.Proofs.Tryz.underlying4
 a4:=Go.Proofs.Tryz.isAgg4
 z4:=Go.Proofs.Tryz.sizeOf4
 v4:=Go.Proofs.Tryz.zeroValue4
 t22:=Go.Proofs.Tryz.underlying22
 a22:=Go.Proofs.Tryz.isAgg22
 z22:=Go.Proofs.Tryz.sizeOf22
 v22:=Go.Proofs.Tryz.zeroValue22
 t40:=Go.Proofs.Tryz.underlying55
 a40:=Go.Proofs.Tryz.isAgg55
 z40:=Go.Proofs.Tryz.sizeOf55
 v40:=Go.Proofs.Tryz.zeroValue55

def ren_n4:Ren:=⟨fun|4=>186|n=>n,fun|0=>0|3=>3|4=>4|9=>9|20=>20|22=>22|25=>3|n=>n,fun n=>n⟩
theorem lays_n4:Lays8.n4 Go.Proofs.Tryz.prog ren_n4 where
 mixed:=by kernel_rfl
 f4 := ⟨"slices.Grow[[]int,int]", by kernel_rfl, Go.Proofs.Tryz.func186.trans (congrArg some (by kernel_rfl))⟩
 t0:=Go.Proofs.Tryz.underlying0
 a0:=Go.Proofs.Tryz.isAgg0
 z0:=Go.Proofs.Tryz.sizeOf0
 v0:=Go.Proofs.Tryz.zeroValue0
 t3:=Go.Proofs.Tryz.underlying3
 a3:=Go.Proofs.Tryz.isAgg3
 z3:=Go.Proofs.Tryz.sizeOf3
 v3:=Go.Proofs.Tryz.zeroValue3
 t4:=Go.Proofs.Tryz.underlying4
 a4:=Go.Proofs.Tryz.isAgg4
 z4:=Go.Proofs.Tryz.sizeOf4
 v4:=Go.Proofs.Tryz.zeroValue4
 t9:=Go.Proofs.Tryz.underlying9
 a9:=Go.Proofs.Tryz.isAgg9
 z9:=Go.Proofs.Tryz.sizeOf9
 v9:=Go.Proofs.Tryz.zeroValue9
 t20:=Go.Proofs.Tryz.underlying20
 a20:=Go.Proofs.Tryz.isAgg20
 z20:=Go.Proofs.Tryz.sizeOf20
 v20:=Go.Proofs.Tryz.zeroValue20
 t22:=Go.Proofs.Tryz.underlying22
 a22:=Go.Proofs.Tryz.isAgg22
 z22:=Go.Proofs.Tryz.sizeOf22
 v22:=Go.Proofs.Tryz.zeroValue22
set_option maxRecDepth 100000 in
theorem grow_lay:ExtOK Go.Proofs.Tryz.prog 186 growF:=grow_fits lays_n4 (by kernel_rfl) (by kernel_rfl)

end Go.Ab
