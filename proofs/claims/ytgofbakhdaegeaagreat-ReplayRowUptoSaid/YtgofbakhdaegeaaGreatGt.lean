/-
  The table of the functions that are used here, and that it is the program's.
  Conditions: none.
-/
import Derived.Test.YtgofbakhdaegeaaGreatGk0
import Derived.Test.YtgofbakhdaegeaaGreatGb
import Derived.Test.YtgofbakhdaegeaaGreatGy
import Derived.Test.YtgofbakhdaegeaaGreatGl
namespace Go.Ab

def tab : FuncId → Option MFunc
  | 3 => some m3
  | 4 => some m4
  | 5 => some m5
  | 7 => some m7
  | 8 => some m8.p
  | 9 => some m9.p
  | 10 => some m10.p
  | 11 => some m11.p
  | 12 => some m12.p
  | 13 => some m13
  | 14 => some m14.p
  | 15 => some m15.p
  | 16 => some m16.p
  | 17 => some m17.p
  | 18 => some m18.p
  | 19 => some m19.p
  | 20 => some m20.p
  | 21 => some m21.p
  | 22 => some m22.p
  | 23 => some m23.p
  | 24 => some m24.p
  | 25 => some m25.p
  | 26 => some m26.p
  | 27 => some m27.p
  | 28 => some m28
  | 29 => some m29.p
  | 30 => some m30.p
  | 31 => some m31.p
  | 32 => some m32.p
  | 33 => some m33.p
  | 34 => some m34
  | 35 => some m35
  | 36 => some m36
  | 37 => some m37
  | 38 => some m38.p
  | 39 => some m39.p
  | 40 => some m40.p
  | 41 => some m41.p
  | 42 => some m42.p
  | 43 => some m43.p
  | 44 => some m44
  | 45 => some m45
  | 46 => some m46
  | 47 => some m47.p
  | 48 => some m48.p
  | 49 => some m49.p
  | 50 => some m50.p
  | 51 => some m51.p
  | 52 => some m52.p
  | 53 => some m53.p
  | 54 => some m54.p
  | 55 => some m55.p
  | 56 => some m56.p
  | 57 => some m57.p
  | 58 => some m58.p
  | 59 => some m59.p
  | 60 => some m60.p
  | 61 => some m61.p
  | 62 => some m62.p
  | 63 => some m63.p
  | 64 => some m64.b
  | 65 => some m65.p
  | 66 => some m66.p
  | 67 => some m67.p
  | 68 => some m68.p
  | 69 => some m69.p
  | 70 => some m70
  | 71 => some m71.p
  | 72 => some m72.p
  | 73 => some m73.p
  | 74 => some m74.p
  | 75 => some m75.p
  | 76 => some m76.p
  | 77 => some m77.p
  | 78 => some m78.p
  | 79 => some m79.p
  | 80 => some m80.p
  | 81 => some m81.p
  | 82 => some m82.p
  | 83 => some m83.p
  | 84 => some m84.p
  | 85 => some m85.p
  | 86 => some m86.p
  | 87 => some m87.p
  | 88 => some m88.p
  | 89 => some m89.p
  | 90 => some m90.p
  | 91 => some m91.p
  | 92 => some m92.p
  | 93 => some m93.p
  | 94 => some m94.p
  | 95 => some m95.p
  | 96 => some m96.p
  | 97 => some m97.p
  | 98 => some m98
  | 99 => some m99.b
  | 100 => some m100
  | 101 => some m101.p
  | 102 => some m102.b
  | 103 => some m103
  | 104 => some m104.p
  | 105 => some m105.p
  | 106 => some m106.p
  | 107 => some m107.p
  | 108 => some m108.p
  | 109 => some m109.p
  | 110 => some m110.p
  | 111 => some m111.p
  | 112 => some m112.p
  | 113 => some m113.p
  | 114 => some m114.p
  | 115 => some m115.p
  | 116 => some m116.p
  | 117 => some m117.p
  | 118 => some m118.p
  | 119 => some m119.p
  | 120 => some m120.p
  | 121 => some m121.p
  | 122 => some m122.p
  | 123 => some m123.p
  | 124 => some m124.p
  | 125 => some m125.p
  | 126 => some m126.p
  | 127 => some m127.p
  | 128 => some m128.p
  | 129 => some m129.p
  | 130 => some m130.p
  | 131 => some m131.p
  | 132 => some m132.p
  | 133 => some m133.p
  | 134 => some m134.p
  | 135 => some m135.p
  | 136 => some m136.p
  | 137 => some m137.p
  | 138 => some m138.p
  | 139 => some m139.p
  | 140 => some m140.p
  | 141 => some m141.p
  | 142 => some m142.p
  | 143 => some m143.p
  | 144 => some m144.p
  | 145 => some m145.p
  | 146 => some m146.p
  | 147 => some m147.p
  | 148 => some m148.p
  | 149 => some m149.p
  | 150 => some m150.p
  | 151 => some m151.p
  | 152 => some m152.p
  | 153 => some m153.p
  | 154 => some m154.p
  | 155 => some m155.p
  | 156 => some m156.p
  | 158 => some m158
  | 159 => some m159
  | 160 => some m160.p
  | 161 => some m161
  | 162 => some m162
  | 163 => some m163.p
  | 164 => some m164.p
  | 166 => some bsF
  | 167 => some insF
  | 168 => some delF
  | 169 => some m169.p
  | _ => none

set_option maxRecDepth 100000 in
set_option maxHeartbeats 0 in
theorem tab_faithful : Faithful Go.Proofs.Tryz.prog tab := by
  refine ⟨by kernel_rfl, fun f F h => ?_⟩
  unfold tab at h
  split at h
  · cases h; exact .inl ⟨Go.Proofs.Tryz.f3, [3, 7, 8, 11], Go.Proofs.Tryz.func3, c3⟩
  · cases h; exact .inl ⟨Go.Proofs.Tryz.f4, [3, 7, 10, 12, 15, 16], Go.Proofs.Tryz.func4, c4⟩
  · cases h; exact .inl ⟨Go.Proofs.Tryz.f5, [3, 7, 10, 12, 14, 16, 19], Go.Proofs.Tryz.func5, c5⟩
  · cases h; exact .inl ⟨Go.Proofs.Tryz.f7, [3, 9], Go.Proofs.Tryz.func7, c7⟩
  · cases h; exact .inl ⟨Go.Proofs.Tryz.f8, [1, 2, 3, 6, 8], Go.Proofs.Tryz.func8, c8⟩
  · cases h; exact .inl ⟨Go.Proofs.Tryz.f9, [6], Go.Proofs.Tryz.func9, c9⟩
  · cases h; exact .inl ⟨Go.Proofs.Tryz.f10, [3, 6, 9, 10, 12], Go.Proofs.Tryz.func10, c10⟩
  · cases h; exact .inl ⟨Go.Proofs.Tryz.f11, [2, 3, 7, 8], Go.Proofs.Tryz.func11, c11⟩
  · cases h; exact .inl ⟨Go.Proofs.Tryz.f12, [], Go.Proofs.Tryz.func12, c12⟩
  · cases h; exact .inl ⟨Go.Proofs.Tryz.f13, [1], Go.Proofs.Tryz.func13, c13⟩
  · cases h; exact .inl ⟨Go.Proofs.Tryz.f14, [1, 2, 5, 8, 11], Go.Proofs.Tryz.func14, c14⟩
  · cases h; exact .inl ⟨Go.Proofs.Tryz.f15, [2, 4, 6], Go.Proofs.Tryz.func15, c15⟩
  · cases h; exact .inl ⟨Go.Proofs.Tryz.f16, [5, 6, 8, 11], Go.Proofs.Tryz.func16, c16⟩
  · cases h; exact .inl ⟨Go.Proofs.Tryz.f17, [1, 3], Go.Proofs.Tryz.func17, c17⟩
  · cases h; exact .inl ⟨Go.Proofs.Tryz.f18, [2, 3], Go.Proofs.Tryz.func18, c18⟩
  · cases h; exact .inl ⟨Go.Proofs.Tryz.f19, [0, 1], Go.Proofs.Tryz.func19, c19⟩
  · cases h; exact .inl ⟨Go.Proofs.Tryz.f20, [0, 1], Go.Proofs.Tryz.func20, c20⟩
  · cases h; exact .inl ⟨Go.Proofs.Tryz.f21, [3, 5, 6, 10, 11], Go.Proofs.Tryz.func21, c21⟩
  · cases h; exact .inl ⟨Go.Proofs.Tryz.f22, [2, 4, 7], Go.Proofs.Tryz.func22, c22⟩
  · cases h; exact .inl ⟨Go.Proofs.Tryz.f23, [], Go.Proofs.Tryz.func23, c23⟩
  · cases h; exact .inl ⟨Go.Proofs.Tryz.f24, [1, 2], Go.Proofs.Tryz.func24, c24⟩
  · cases h; exact .inl ⟨Go.Proofs.Tryz.f25, [1, 2, 3], Go.Proofs.Tryz.func25, c25⟩
  · cases h; exact .inl ⟨Go.Proofs.Tryz.f26, [], Go.Proofs.Tryz.func26, c26⟩
  · cases h; exact .inl ⟨Go.Proofs.Tryz.f27, [1, 2], Go.Proofs.Tryz.func27, c27⟩
  · cases h; exact .inl ⟨Go.Proofs.Tryz.f28, [8, 10], Go.Proofs.Tryz.func28, c28⟩
  · cases h; exact .inl ⟨Go.Proofs.Tryz.f29, [4], Go.Proofs.Tryz.func29, c29⟩
  · cases h; exact .inl ⟨Go.Proofs.Tryz.f30, [1, 2, 3, 6, 8], Go.Proofs.Tryz.func30, c30⟩
  · cases h; exact .inl ⟨Go.Proofs.Tryz.f31, [], Go.Proofs.Tryz.func31, c31⟩
  · cases h; exact .inl ⟨Go.Proofs.Tryz.f32, [2, 3], Go.Proofs.Tryz.func32, c32⟩
  · cases h; exact .inl ⟨Go.Proofs.Tryz.f33, [2, 3], Go.Proofs.Tryz.func33, c33⟩
  · cases h; exact .inl ⟨Go.Proofs.Tryz.f34, [], Go.Proofs.Tryz.func34, c34⟩
  · cases h; exact .inl ⟨Go.Proofs.Tryz.f35, [1], Go.Proofs.Tryz.func35, c35⟩
  · cases h; exact .inl ⟨Go.Proofs.Tryz.f36, [1], Go.Proofs.Tryz.func36, c36⟩
  · cases h; exact .inl ⟨Go.Proofs.Tryz.f37, [], Go.Proofs.Tryz.func37, c37⟩
  · cases h; exact .inl ⟨Go.Proofs.Tryz.f38, [1, 5], Go.Proofs.Tryz.func38, c38⟩
  · cases h; exact .inl ⟨Go.Proofs.Tryz.f39, [3], Go.Proofs.Tryz.func39, c39⟩
  · cases h; exact .inl ⟨Go.Proofs.Tryz.f40, [3], Go.Proofs.Tryz.func40, c40⟩
  · cases h; exact .inl ⟨Go.Proofs.Tryz.f41, [1], Go.Proofs.Tryz.func41, c41⟩
  · cases h; exact .inl ⟨Go.Proofs.Tryz.f42, [1, 2, 3], Go.Proofs.Tryz.func42, c42⟩
  · cases h; exact .inl ⟨Go.Proofs.Tryz.f43, [], Go.Proofs.Tryz.func43, c43⟩
  · cases h; exact .inl ⟨Go.Proofs.Tryz.f44, [3], Go.Proofs.Tryz.func44, c44⟩
  · cases h; exact .inl ⟨Go.Proofs.Tryz.f45, [3], Go.Proofs.Tryz.func45, c45⟩
  · cases h; exact .inl ⟨Go.Proofs.Tryz.f46, [3], Go.Proofs.Tryz.func46, c46⟩
  · cases h; exact .inl ⟨Go.Proofs.Tryz.f47, [1], Go.Proofs.Tryz.func47, c47⟩
  · cases h; exact .inl ⟨Go.Proofs.Tryz.f48, [2, 3], Go.Proofs.Tryz.func48, c48⟩
  · cases h; exact .inl ⟨Go.Proofs.Tryz.f49, [2, 3], Go.Proofs.Tryz.func49, c49⟩
  · cases h; exact .inl ⟨Go.Proofs.Tryz.f50, [2, 3], Go.Proofs.Tryz.func50, c50⟩
  · cases h; exact .inl ⟨Go.Proofs.Tryz.f51, [], Go.Proofs.Tryz.func51, c51⟩
  · cases h; exact .inl ⟨Go.Proofs.Tryz.f52, [0, 1], Go.Proofs.Tryz.func52, c52⟩
  · cases h; exact .inl ⟨Go.Proofs.Tryz.f53, [1, 2, 4, 6], Go.Proofs.Tryz.func53, c53⟩
  · cases h; exact .inl ⟨Go.Proofs.Tryz.f54, [2, 4, 6, 10, 11, 14, 16, 17], Go.Proofs.Tryz.func54, c54⟩
  · cases h; exact .inl ⟨Go.Proofs.Tryz.f55, [2, 4, 6, 9, 11], Go.Proofs.Tryz.func55, c55⟩
  · cases h; exact .inl ⟨Go.Proofs.Tryz.f56, [2, 4, 6, 9, 11, 14, 16], Go.Proofs.Tryz.func56, c56⟩
  · cases h; exact .inl ⟨Go.Proofs.Tryz.f57, [], Go.Proofs.Tryz.func57, c57⟩
  · cases h; exact .inl ⟨Go.Proofs.Tryz.f58, [7], Go.Proofs.Tryz.func58, c58⟩
  · cases h; exact .inl ⟨Go.Proofs.Tryz.f59, [1, 2], Go.Proofs.Tryz.func59, c59⟩
  · cases h; exact .inl ⟨Go.Proofs.Tryz.f60, [7], Go.Proofs.Tryz.func60, c60⟩
  · cases h; exact .inl ⟨Go.Proofs.Tryz.f61, [1, 2], Go.Proofs.Tryz.func61, c61⟩
  · cases h; exact .inl ⟨Go.Proofs.Tryz.f62, [7], Go.Proofs.Tryz.func62, c62⟩
  · cases h; exact .inl ⟨Go.Proofs.Tryz.f63, [1, 2], Go.Proofs.Tryz.func63, c63⟩
  · cases h; exact .inl ⟨Go.Proofs.Tryz.f64, [], Go.Proofs.Tryz.func64, c64⟩
  · cases h; exact .inl ⟨Go.Proofs.Tryz.f65, [4, 6], Go.Proofs.Tryz.func65, c65⟩
  · cases h; exact .inl ⟨Go.Proofs.Tryz.f66, [4, 5, 6, 9, 10], Go.Proofs.Tryz.func66, c66⟩
  · cases h; exact .inl ⟨Go.Proofs.Tryz.f67, [2], Go.Proofs.Tryz.func67, c67⟩
  · cases h; exact .inl ⟨Go.Proofs.Tryz.f68, [1, 2], Go.Proofs.Tryz.func68, c68⟩
  · cases h; exact .inl ⟨Go.Proofs.Tryz.f69, [], Go.Proofs.Tryz.func69, c69⟩
  · cases h; exact .inl ⟨Go.Proofs.Tryz.f70, [], Go.Proofs.Tryz.func70, c70⟩
  · cases h; exact .inl ⟨Go.Proofs.Tryz.f71, [], Go.Proofs.Tryz.func71, c71⟩
  · cases h; exact .inl ⟨Go.Proofs.Tryz.f72, [], Go.Proofs.Tryz.func72, c72⟩
  · cases h; exact .inl ⟨Go.Proofs.Tryz.f73, [], Go.Proofs.Tryz.func73, c73⟩
  · cases h; exact .inl ⟨Go.Proofs.Tryz.f74, [1], Go.Proofs.Tryz.func74, c74⟩
  · cases h; exact .inl ⟨Go.Proofs.Tryz.f75, [], Go.Proofs.Tryz.func75, c75⟩
  · cases h; exact .inl ⟨Go.Proofs.Tryz.f76, [], Go.Proofs.Tryz.func76, c76⟩
  · cases h; exact .inl ⟨Go.Proofs.Tryz.f77, [], Go.Proofs.Tryz.func77, c77⟩
  · cases h; exact .inl ⟨Go.Proofs.Tryz.f78, [], Go.Proofs.Tryz.func78, c78⟩
  · cases h; exact .inl ⟨Go.Proofs.Tryz.f79, [2], Go.Proofs.Tryz.func79, c79⟩
  · cases h; exact .inl ⟨Go.Proofs.Tryz.f80, [3, 6, 7], Go.Proofs.Tryz.func80, c80⟩
  · cases h; exact .inl ⟨Go.Proofs.Tryz.f81, [4, 8, 11], Go.Proofs.Tryz.func81, c81⟩
  · cases h; exact .inl ⟨Go.Proofs.Tryz.f82, [3, 6, 7], Go.Proofs.Tryz.func82, c82⟩
  · cases h; exact .inl ⟨Go.Proofs.Tryz.f83, [3, 6, 8], Go.Proofs.Tryz.func83, c83⟩
  · cases h; exact .inl ⟨Go.Proofs.Tryz.f84, [3, 6], Go.Proofs.Tryz.func84, c84⟩
  · cases h; exact .inl ⟨Go.Proofs.Tryz.f85, [2, 4, 6], Go.Proofs.Tryz.func85, c85⟩
  · cases h; exact .inl ⟨Go.Proofs.Tryz.f86, [2, 4, 6], Go.Proofs.Tryz.func86, c86⟩
  · cases h; exact .inl ⟨Go.Proofs.Tryz.f87, [2, 4, 6, 7, 9, 10, 13, 15, 17], Go.Proofs.Tryz.func87, c87⟩
  · cases h; exact .inl ⟨Go.Proofs.Tryz.f88, [1], Go.Proofs.Tryz.func88, c88⟩
  · cases h; exact .inl ⟨Go.Proofs.Tryz.f89, [], Go.Proofs.Tryz.func89, c89⟩
  · cases h; exact .inl ⟨Go.Proofs.Tryz.f90, [3], Go.Proofs.Tryz.func90, c90⟩
  · cases h; exact .inl ⟨Go.Proofs.Tryz.f91, [3], Go.Proofs.Tryz.func91, c91⟩
  · cases h; exact .inl ⟨Go.Proofs.Tryz.f92, [4], Go.Proofs.Tryz.func92, c92⟩
  · cases h; exact .inl ⟨Go.Proofs.Tryz.f93, [], Go.Proofs.Tryz.func93, c93⟩
  · cases h; exact .inl ⟨Go.Proofs.Tryz.f94, [], Go.Proofs.Tryz.func94, c94⟩
  · cases h; exact .inl ⟨Go.Proofs.Tryz.f95, [2, 3], Go.Proofs.Tryz.func95, c95⟩
  · cases h; exact .inl ⟨Go.Proofs.Tryz.f96, [], Go.Proofs.Tryz.func96, c96⟩
  · cases h; exact .inl ⟨Go.Proofs.Tryz.f97, [2, 3], Go.Proofs.Tryz.func97, c97⟩
  · cases h; exact .inl ⟨Go.Proofs.Tryz.f98, [], Go.Proofs.Tryz.func98, c98⟩
  · cases h; exact .inl ⟨Go.Proofs.Tryz.f99, [], Go.Proofs.Tryz.func99, c99⟩
  · cases h; exact .inl ⟨Go.Proofs.Tryz.f100, [], Go.Proofs.Tryz.func100, c100⟩
  · cases h; exact .inl ⟨Go.Proofs.Tryz.f101, [1, 2], Go.Proofs.Tryz.func101, c101⟩
  · cases h; exact .inl ⟨Go.Proofs.Tryz.f102, [], Go.Proofs.Tryz.func102, c102⟩
  · cases h; exact .inl ⟨Go.Proofs.Tryz.f103, [], Go.Proofs.Tryz.func103, c103⟩
  · cases h; exact .inl ⟨Go.Proofs.Tryz.f104, [1], Go.Proofs.Tryz.func104, c104⟩
  · cases h; exact .inl ⟨Go.Proofs.Tryz.f105, [], Go.Proofs.Tryz.func105, c105⟩
  · cases h; exact .inl ⟨Go.Proofs.Tryz.f106, [3], Go.Proofs.Tryz.func106, c106⟩
  · cases h; exact .inl ⟨Go.Proofs.Tryz.f107, [], Go.Proofs.Tryz.func107, c107⟩
  · cases h; exact .inl ⟨Go.Proofs.Tryz.f108, [1, 2], Go.Proofs.Tryz.func108, c108⟩
  · cases h; exact .inl ⟨Go.Proofs.Tryz.f109, [1, 2], Go.Proofs.Tryz.func109, c109⟩
  · cases h; exact .inl ⟨Go.Proofs.Tryz.f110, [1, 2], Go.Proofs.Tryz.func110, c110⟩
  · cases h; exact .inl ⟨Go.Proofs.Tryz.f111, [2], Go.Proofs.Tryz.func111, c111⟩
  · cases h; exact .inl ⟨Go.Proofs.Tryz.f112, [2, 4, 5, 6], Go.Proofs.Tryz.func112, c112⟩
  · cases h; exact .inl ⟨Go.Proofs.Tryz.f113, [3, 10], Go.Proofs.Tryz.func113, c113⟩
  · cases h; exact .inl ⟨Go.Proofs.Tryz.f114, [2, 4, 9, 10], Go.Proofs.Tryz.func114, c114⟩
  · cases h; exact .inl ⟨Go.Proofs.Tryz.f115, [2, 4, 7], Go.Proofs.Tryz.func115, c115⟩
  · cases h; exact .inl ⟨Go.Proofs.Tryz.f116, [4, 6, 8, 10], Go.Proofs.Tryz.func116, c116⟩
  · cases h; exact .inl ⟨Go.Proofs.Tryz.f117, [], Go.Proofs.Tryz.func117, c117⟩
  · cases h; exact .inl ⟨Go.Proofs.Tryz.f118, [], Go.Proofs.Tryz.func118, c118⟩
  · cases h; exact .inl ⟨Go.Proofs.Tryz.f119, [], Go.Proofs.Tryz.func119, c119⟩
  · cases h; exact .inl ⟨Go.Proofs.Tryz.f120, [2], Go.Proofs.Tryz.func120, c120⟩
  · cases h; exact .inl ⟨Go.Proofs.Tryz.f121, [2], Go.Proofs.Tryz.func121, c121⟩
  · cases h; exact .inl ⟨Go.Proofs.Tryz.f122, [2], Go.Proofs.Tryz.func122, c122⟩
  · cases h; exact .inl ⟨Go.Proofs.Tryz.f123, [], Go.Proofs.Tryz.func123, c123⟩
  · cases h; exact .inl ⟨Go.Proofs.Tryz.f124, [], Go.Proofs.Tryz.func124, c124⟩
  · cases h; exact .inl ⟨Go.Proofs.Tryz.f125, [3], Go.Proofs.Tryz.func125, c125⟩
  · cases h; exact .inl ⟨Go.Proofs.Tryz.f126, [], Go.Proofs.Tryz.func126, c126⟩
  · cases h; exact .inl ⟨Go.Proofs.Tryz.f127, [], Go.Proofs.Tryz.func127, c127⟩
  · cases h; exact .inl ⟨Go.Proofs.Tryz.f128, [2], Go.Proofs.Tryz.func128, c128⟩
  · cases h; exact .inl ⟨Go.Proofs.Tryz.f129, [], Go.Proofs.Tryz.func129, c129⟩
  · cases h; exact .inl ⟨Go.Proofs.Tryz.f130, [2], Go.Proofs.Tryz.func130, c130⟩
  · cases h; exact .inl ⟨Go.Proofs.Tryz.f131, [1], Go.Proofs.Tryz.func131, c131⟩
  · cases h; exact .inl ⟨Go.Proofs.Tryz.f132, [], Go.Proofs.Tryz.func132, c132⟩
  · cases h; exact .inl ⟨Go.Proofs.Tryz.f133, [], Go.Proofs.Tryz.func133, c133⟩
  · cases h; exact .inl ⟨Go.Proofs.Tryz.f134, [2], Go.Proofs.Tryz.func134, c134⟩
  · cases h; exact .inl ⟨Go.Proofs.Tryz.f135, [], Go.Proofs.Tryz.func135, c135⟩
  · cases h; exact .inl ⟨Go.Proofs.Tryz.f136, [1], Go.Proofs.Tryz.func136, c136⟩
  · cases h; exact .inl ⟨Go.Proofs.Tryz.f137, [], Go.Proofs.Tryz.func137, c137⟩
  · cases h; exact .inl ⟨Go.Proofs.Tryz.f138, [], Go.Proofs.Tryz.func138, c138⟩
  · cases h; exact .inl ⟨Go.Proofs.Tryz.f139, [2, 3, 4], Go.Proofs.Tryz.func139, c139⟩
  · cases h; exact .inl ⟨Go.Proofs.Tryz.f140, [2, 3, 4], Go.Proofs.Tryz.func140, c140⟩
  · cases h; exact .inl ⟨Go.Proofs.Tryz.f141, [2, 3, 4], Go.Proofs.Tryz.func141, c141⟩
  · cases h; exact .inl ⟨Go.Proofs.Tryz.f142, [2, 4, 6], Go.Proofs.Tryz.func142, c142⟩
  · cases h; exact .inl ⟨Go.Proofs.Tryz.f143, [], Go.Proofs.Tryz.func143, c143⟩
  · cases h; exact .inl ⟨Go.Proofs.Tryz.f144, [2], Go.Proofs.Tryz.func144, c144⟩
  · cases h; exact .inl ⟨Go.Proofs.Tryz.f145, [1], Go.Proofs.Tryz.func145, c145⟩
  · cases h; exact .inl ⟨Go.Proofs.Tryz.f146, [1], Go.Proofs.Tryz.func146, c146⟩
  · cases h; exact .inl ⟨Go.Proofs.Tryz.f147, [1], Go.Proofs.Tryz.func147, c147⟩
  · cases h; exact .inl ⟨Go.Proofs.Tryz.f148, [], Go.Proofs.Tryz.func148, c148⟩
  · cases h; exact .inl ⟨Go.Proofs.Tryz.f149, [], Go.Proofs.Tryz.func149, c149⟩
  · cases h; exact .inl ⟨Go.Proofs.Tryz.f150, [], Go.Proofs.Tryz.func150, c150⟩
  · cases h; exact .inl ⟨Go.Proofs.Tryz.f151, [], Go.Proofs.Tryz.func151, c151⟩
  · cases h; exact .inl ⟨Go.Proofs.Tryz.f152, [], Go.Proofs.Tryz.func152, c152⟩
  · cases h; exact .inl ⟨Go.Proofs.Tryz.f153, [], Go.Proofs.Tryz.func153, c153⟩
  · cases h; exact .inl ⟨Go.Proofs.Tryz.f154, [], Go.Proofs.Tryz.func154, c154⟩
  · cases h; exact .inl ⟨Go.Proofs.Tryz.f155, [1], Go.Proofs.Tryz.func155, c155⟩
  · cases h; exact .inl ⟨Go.Proofs.Tryz.f156, [], Go.Proofs.Tryz.func156, c156⟩
  · cases h; exact .inl ⟨Go.Proofs.Tryz.f158, [], Go.Proofs.Tryz.func158, c158⟩
  · cases h; exact .inl ⟨Go.Proofs.Tryz.f159, [], Go.Proofs.Tryz.func159, c159⟩
  · cases h; exact .inl ⟨Go.Proofs.Tryz.f160, [], Go.Proofs.Tryz.func160, c160⟩
  · cases h; exact .inl ⟨Go.Proofs.Tryz.f161, [], Go.Proofs.Tryz.func161, c161⟩
  · cases h; exact .inl ⟨Go.Proofs.Tryz.f162, [], Go.Proofs.Tryz.func162, c162⟩
  · cases h; exact .inl ⟨Go.Proofs.Tryz.f163, [], Go.Proofs.Tryz.func163, c163⟩
  · cases h; exact .inl ⟨Go.Proofs.Tryz.f164, [], Go.Proofs.Tryz.func164, c164⟩
  · cases h; exact .inr (search_ok lays_n25)
  · cases h; exact .inr (insert_ok lays_n21)
  · cases h; exact .inr (delete_ok lays_n23)
  · cases h; exact .inl ⟨Go.Proofs.Tryz.f169, [], Go.Proofs.Tryz.func169, c169⟩
  · cases h

end Go.Ab
