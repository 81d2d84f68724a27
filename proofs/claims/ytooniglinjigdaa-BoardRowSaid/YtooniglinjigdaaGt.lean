/-
  The table of the functions that are used here, and that it is the program's.
  Conditions: none.
-/
import Derived.Test.YtooniglinjigdaaGk0
import Derived.Test.YtooniglinjigdaaGb
import Derived.Test.YtooniglinjigdaaGd
namespace Go.Ab

def tab : FuncId → Option MFunc
  | 6 => some m6
  | 10 => some m10.p
  | 12 => some m12.p
  | 13 => some m13.p
  | 14 => some m14.p
  | 19 => some m19.p
  | 21 => some m21.p
  | 22 => some m22.p
  | 23 => some m23.p
  | 24 => some m24.p
  | 25 => some m25.p
  | 26 => some m26.p
  | 27 => some m27.p
  | 30 => some m30.p
  | 38 => some m38.p
  | 40 => some m40.p
  | 41 => some m41.p
  | 42 => some m42.p
  | 43 => some m43.p
  | 44 => some m44.p
  | 45 => some m45.p
  | 46 => some m46.p
  | 47 => some m47.p
  | 48 => some m48.p
  | 49 => some m49.p
  | 50 => some m50.p
  | 51 => some m51.p
  | 52 => some m52.p
  | 53 => some m53.p
  | 59 => some m59.p
  | 60 => some m60.p
  | 61 => some m61.p
  | 62 => some m62.p
  | 63 => some m63
  | 64 => some m64.p
  | 65 => some m65.p
  | 66 => some m66.p
  | 67 => some m67.p
  | 68 => some m68.p
  | 69 => some m69.p
  | 70 => some m70.p
  | 71 => some m71.p
  | 72 => some m72.p
  | 73 => some m73.p
  | 74 => some m74.p
  | 75 => some m75.p
  | 76 => some m76.p
  | 77 => some m77.p
  | 78 => some m78.p
  | 79 => some m79.p
  | 80 => some m80.p
  | 81 => some m81.p
  | 82 => some m82.p
  | 83 => some m83.p
  | 84 => some m84.p
  | 85 => some m85.p
  | 86 => some m86.p
  | 87 => some m87.p
  | 88 => some m88.p
  | 89 => some m89.p
  | 91 => some m91.p
  | 92 => some m92.p
  | 93 => some m93.p
  | 94 => some m94.p
  | 95 => some m95.p
  | 96 => some m96.p
  | 97 => some m97.p
  | 98 => some m98.p
  | 99 => some m99.p
  | 100 => some m100.b
  | 101 => some m101.p
  | 102 => some m102.p
  | 103 => some m103.p
  | 104 => some m104.p
  | 105 => some m105.p
  | 106 => some m106.p
  | 107 => some m107.p
  | 108 => some m108.p
  | 109 => some m109.p
  | 110 => some m110.p
  | 111 => some m111.p
  | 112 => some m112.p
  | 113 => some m113.p
  | 114 => some m114.p
  | 115 => some m115.p
  | 116 => some m116.p
  | 117 => some m117.p
  | 118 => some m118.p
  | 119 => some m119
  | 120 => some m120.b
  | 121 => some m121
  | 122 => some m122.p
  | 123 => some m123.b
  | 124 => some m124
  | 125 => some m125.p
  | 126 => some m126.p
  | 127 => some m127.p
  | 128 => some m128.p
  | _ => none

set_option maxRecDepth 100000 in
set_option maxHeartbeats 0 in
theorem tab_faithful : Faithful Go.Proofs.Try.prog tab := by
  refine ⟨by kernel_rfl, fun f F h => ?_⟩
  unfold tab at h
  split at h
  · cases h; exact ⟨Go.Proofs.Try.f6, [5, 8, 11], Go.Proofs.Try.func6, c6⟩
  · cases h; exact ⟨Go.Proofs.Try.f10, [1, 2, 4, 6], Go.Proofs.Try.func10, c10⟩
  · cases h; exact ⟨Go.Proofs.Try.f12, [], Go.Proofs.Try.func12, c12⟩
  · cases h; exact ⟨Go.Proofs.Try.f13, [], Go.Proofs.Try.func13, c13⟩
  · cases h; exact ⟨Go.Proofs.Try.f14, [1, 3], Go.Proofs.Try.func14, c14⟩
  · cases h; exact ⟨Go.Proofs.Try.f19, [], Go.Proofs.Try.func19, c19⟩
  · cases h; exact ⟨Go.Proofs.Try.f21, [1], Go.Proofs.Try.func21, c21⟩
  · cases h; exact ⟨Go.Proofs.Try.f22, [1, 7], Go.Proofs.Try.func22, c22⟩
  · cases h; exact ⟨Go.Proofs.Try.f23, [0, 1], Go.Proofs.Try.func23, c23⟩
  · cases h; exact ⟨Go.Proofs.Try.f24, [3, 5, 6, 10, 11], Go.Proofs.Try.func24, c24⟩
  · cases h; exact ⟨Go.Proofs.Try.f25, [4], Go.Proofs.Try.func25, c25⟩
  · cases h; exact ⟨Go.Proofs.Try.f26, [10], Go.Proofs.Try.func26, c26⟩
  · cases h; exact ⟨Go.Proofs.Try.f27, [0, 1], Go.Proofs.Try.func27, c27⟩
  · cases h; exact ⟨Go.Proofs.Try.f30, [1], Go.Proofs.Try.func30, c30⟩
  · cases h; exact ⟨Go.Proofs.Try.f38, [2], Go.Proofs.Try.func38, c38⟩
  · cases h; exact ⟨Go.Proofs.Try.f40, [], Go.Proofs.Try.func40, c40⟩
  · cases h; exact ⟨Go.Proofs.Try.f41, [3], Go.Proofs.Try.func41, c41⟩
  · cases h; exact ⟨Go.Proofs.Try.f42, [3], Go.Proofs.Try.func42, c42⟩
  · cases h; exact ⟨Go.Proofs.Try.f43, [4], Go.Proofs.Try.func43, c43⟩
  · cases h; exact ⟨Go.Proofs.Try.f44, [], Go.Proofs.Try.func44, c44⟩
  · cases h; exact ⟨Go.Proofs.Try.f45, [], Go.Proofs.Try.func45, c45⟩
  · cases h; exact ⟨Go.Proofs.Try.f46, [2, 3], Go.Proofs.Try.func46, c46⟩
  · cases h; exact ⟨Go.Proofs.Try.f47, [], Go.Proofs.Try.func47, c47⟩
  · cases h; exact ⟨Go.Proofs.Try.f48, [2, 3], Go.Proofs.Try.func48, c48⟩
  · cases h; exact ⟨Go.Proofs.Try.f49, [2, 3], Go.Proofs.Try.func49, c49⟩
  · cases h; exact ⟨Go.Proofs.Try.f50, [2, 3], Go.Proofs.Try.func50, c50⟩
  · cases h; exact ⟨Go.Proofs.Try.f51, [2, 3], Go.Proofs.Try.func51, c51⟩
  · cases h; exact ⟨Go.Proofs.Try.f52, [], Go.Proofs.Try.func52, c52⟩
  · cases h; exact ⟨Go.Proofs.Try.f53, [1], Go.Proofs.Try.func53, c53⟩
  · cases h; exact ⟨Go.Proofs.Try.f59, [], Go.Proofs.Try.func59, c59⟩
  · cases h; exact ⟨Go.Proofs.Try.f60, [1, 2, 3, 6, 8], Go.Proofs.Try.func60, c60⟩
  · cases h; exact ⟨Go.Proofs.Try.f61, [], Go.Proofs.Try.func61, c61⟩
  · cases h; exact ⟨Go.Proofs.Try.f62, [1, 2], Go.Proofs.Try.func62, c62⟩
  · cases h; exact ⟨Go.Proofs.Try.f63, [], Go.Proofs.Try.func63, c63⟩
  · cases h; exact ⟨Go.Proofs.Try.f64, [], Go.Proofs.Try.func64, c64⟩
  · cases h; exact ⟨Go.Proofs.Try.f65, [2], Go.Proofs.Try.func65, c65⟩
  · cases h; exact ⟨Go.Proofs.Try.f66, [1], Go.Proofs.Try.func66, c66⟩
  · cases h; exact ⟨Go.Proofs.Try.f67, [], Go.Proofs.Try.func67, c67⟩
  · cases h; exact ⟨Go.Proofs.Try.f68, [], Go.Proofs.Try.func68, c68⟩
  · cases h; exact ⟨Go.Proofs.Try.f69, [], Go.Proofs.Try.func69, c69⟩
  · cases h; exact ⟨Go.Proofs.Try.f70, [], Go.Proofs.Try.func70, c70⟩
  · cases h; exact ⟨Go.Proofs.Try.f71, [2], Go.Proofs.Try.func71, c71⟩
  · cases h; exact ⟨Go.Proofs.Try.f72, [2], Go.Proofs.Try.func72, c72⟩
  · cases h; exact ⟨Go.Proofs.Try.f73, [2], Go.Proofs.Try.func73, c73⟩
  · cases h; exact ⟨Go.Proofs.Try.f74, [1], Go.Proofs.Try.func74, c74⟩
  · cases h; exact ⟨Go.Proofs.Try.f75, [], Go.Proofs.Try.func75, c75⟩
  · cases h; exact ⟨Go.Proofs.Try.f76, [], Go.Proofs.Try.func76, c76⟩
  · cases h; exact ⟨Go.Proofs.Try.f77, [3], Go.Proofs.Try.func77, c77⟩
  · cases h; exact ⟨Go.Proofs.Try.f78, [], Go.Proofs.Try.func78, c78⟩
  · cases h; exact ⟨Go.Proofs.Try.f79, [], Go.Proofs.Try.func79, c79⟩
  · cases h; exact ⟨Go.Proofs.Try.f80, [2], Go.Proofs.Try.func80, c80⟩
  · cases h; exact ⟨Go.Proofs.Try.f81, [], Go.Proofs.Try.func81, c81⟩
  · cases h; exact ⟨Go.Proofs.Try.f82, [2], Go.Proofs.Try.func82, c82⟩
  · cases h; exact ⟨Go.Proofs.Try.f83, [1], Go.Proofs.Try.func83, c83⟩
  · cases h; exact ⟨Go.Proofs.Try.f84, [], Go.Proofs.Try.func84, c84⟩
  · cases h; exact ⟨Go.Proofs.Try.f85, [], Go.Proofs.Try.func85, c85⟩
  · cases h; exact ⟨Go.Proofs.Try.f86, [2], Go.Proofs.Try.func86, c86⟩
  · cases h; exact ⟨Go.Proofs.Try.f87, [1, 5], Go.Proofs.Try.func87, c87⟩
  · cases h; exact ⟨Go.Proofs.Try.f88, [3], Go.Proofs.Try.func88, c88⟩
  · cases h; exact ⟨Go.Proofs.Try.f89, [], Go.Proofs.Try.func89, c89⟩
  · cases h; exact ⟨Go.Proofs.Try.f91, [1, 2], Go.Proofs.Try.func91, c91⟩
  · cases h; exact ⟨Go.Proofs.Try.f92, [1, 2, 3], Go.Proofs.Try.func92, c92⟩
  · cases h; exact ⟨Go.Proofs.Try.f93, [2], Go.Proofs.Try.func93, c93⟩
  · cases h; exact ⟨Go.Proofs.Try.f94, [7], Go.Proofs.Try.func94, c94⟩
  · cases h; exact ⟨Go.Proofs.Try.f95, [1, 2], Go.Proofs.Try.func95, c95⟩
  · cases h; exact ⟨Go.Proofs.Try.f96, [7], Go.Proofs.Try.func96, c96⟩
  · cases h; exact ⟨Go.Proofs.Try.f97, [1, 2], Go.Proofs.Try.func97, c97⟩
  · cases h; exact ⟨Go.Proofs.Try.f98, [7], Go.Proofs.Try.func98, c98⟩
  · cases h; exact ⟨Go.Proofs.Try.f99, [1, 2], Go.Proofs.Try.func99, c99⟩
  · cases h; exact ⟨Go.Proofs.Try.f100, [], Go.Proofs.Try.func100, c100⟩
  · cases h; exact ⟨Go.Proofs.Try.f101, [], Go.Proofs.Try.func101, c101⟩
  · cases h; exact ⟨Go.Proofs.Try.f102, [], Go.Proofs.Try.func102, c102⟩
  · cases h; exact ⟨Go.Proofs.Try.f103, [1], Go.Proofs.Try.func103, c103⟩
  · cases h; exact ⟨Go.Proofs.Try.f104, [], Go.Proofs.Try.func104, c104⟩
  · cases h; exact ⟨Go.Proofs.Try.f105, [2], Go.Proofs.Try.func105, c105⟩
  · cases h; exact ⟨Go.Proofs.Try.f106, [1], Go.Proofs.Try.func106, c106⟩
  · cases h; exact ⟨Go.Proofs.Try.f107, [1], Go.Proofs.Try.func107, c107⟩
  · cases h; exact ⟨Go.Proofs.Try.f108, [1], Go.Proofs.Try.func108, c108⟩
  · cases h; exact ⟨Go.Proofs.Try.f109, [], Go.Proofs.Try.func109, c109⟩
  · cases h; exact ⟨Go.Proofs.Try.f110, [], Go.Proofs.Try.func110, c110⟩
  · cases h; exact ⟨Go.Proofs.Try.f111, [], Go.Proofs.Try.func111, c111⟩
  · cases h; exact ⟨Go.Proofs.Try.f112, [], Go.Proofs.Try.func112, c112⟩
  · cases h; exact ⟨Go.Proofs.Try.f113, [], Go.Proofs.Try.func113, c113⟩
  · cases h; exact ⟨Go.Proofs.Try.f114, [], Go.Proofs.Try.func114, c114⟩
  · cases h; exact ⟨Go.Proofs.Try.f115, [], Go.Proofs.Try.func115, c115⟩
  · cases h; exact ⟨Go.Proofs.Try.f116, [1], Go.Proofs.Try.func116, c116⟩
  · cases h; exact ⟨Go.Proofs.Try.f117, [], Go.Proofs.Try.func117, c117⟩
  · cases h; exact ⟨Go.Proofs.Try.f118, [], Go.Proofs.Try.func118, c118⟩
  · cases h; exact ⟨Go.Proofs.Try.f119, [], Go.Proofs.Try.func119, c119⟩
  · cases h; exact ⟨Go.Proofs.Try.f120, [], Go.Proofs.Try.func120, c120⟩
  · cases h; exact ⟨Go.Proofs.Try.f121, [], Go.Proofs.Try.func121, c121⟩
  · cases h; exact ⟨Go.Proofs.Try.f122, [1, 2], Go.Proofs.Try.func122, c122⟩
  · cases h; exact ⟨Go.Proofs.Try.f123, [], Go.Proofs.Try.func123, c123⟩
  · cases h; exact ⟨Go.Proofs.Try.f124, [], Go.Proofs.Try.func124, c124⟩
  · cases h; exact ⟨Go.Proofs.Try.f125, [], Go.Proofs.Try.func125, c125⟩
  · cases h; exact ⟨Go.Proofs.Try.f126, [], Go.Proofs.Try.func126, c126⟩
  · cases h; exact ⟨Go.Proofs.Try.f127, [], Go.Proofs.Try.func127, c127⟩
  · cases h; exact ⟨Go.Proofs.Try.f128, [], Go.Proofs.Try.func128, c128⟩
  · cases h

end Go.Ab
