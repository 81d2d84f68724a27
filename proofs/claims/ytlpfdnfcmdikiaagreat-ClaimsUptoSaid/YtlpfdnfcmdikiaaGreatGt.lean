/-
  The table of the functions that are used here, and that it is the program's.
  Conditions: none.
-/
import Derived.Test.YtlpfdnfcmdikiaaGreatGk0
import Derived.Test.YtlpfdnfcmdikiaaGreatGb
import Derived.Test.YtlpfdnfcmdikiaaGreatGy
import Derived.Test.YtlpfdnfcmdikiaaGreatGl
namespace Go.Ab

def tab:FuncId→Option MFunc
 | 3=>some m3
 | 16=>some m16.p
 | 17=>some m17.p
 | 18=>some m18.p
 | 19=>some m19.p
 | 20=>some m20.p
 | 21=>some m21
 | 22=>some m22.p
 | 24=>some m24.p
 | 25=>some m25.p
 | 26=>some m26.p
 | 27=>some m27.p
 | 28=>some m28.p
 | 29=>some m29.p
 | 30=>some m30.p
 | 32=>some m32.p
 | 34=>some m34.p
 | 35=>some m35.p
 | 36=>some m36.p
 | 37=>some m37.p
 | 38=>some m38.p
 | 41=>some m41.p
 | 42=>some m42
 | 43=>some m43
 | 44=>some m44.p
 | 45=>some m45.p
 | 46=>some m46.p
 | 47=>some m47.p
 | 48=>some m48.p
 | 49=>some m49.p
 | 50=>some m50.p
 | 51=>some m51.p
 | 52=>some m52.p
 | 53=>some m53
 | 54=>some m54
 | 55=>some m55
 | 56=>some m56
 | 57=>some m57.p
 | 58=>some m58.p
 | 59=>some m59.p
 | 60=>some m60.p
 | 61=>some m61.p
 | 62=>some m62.p
 | 63=>some m63.p
 | 64=>some m64.p
 | 65=>some m65.p
 | 66=>some m66.p
 | 67=>some m67.p
 | 68=>some m68.p
 | 69=>some m69.p
 | 70=>some m70.p
 | 71=>some m71
 | 72=>some m72
 | 80=>some m80.p
 | 81=>some m81.p
 | 82=>some m82.p
 | 83=>some m83.p
 | 84=>some m84.p
 | 85=>some m85.p
 | 86=>some m86.p
 | 87=>some m87.p
 | 88=>some m88.p
 | 89=>some m89
 | 90=>some m90
 | 91=>some m91
 | 92=>some m92.p
 | 93=>some m93.p
 | 94=>some m94.p
 | 95=>some m95
 | 96=>some m96
 | 97=>some m97
 | 98=>some m98
 | 99=>some m99.p
 | 100=>some m100.p
 | 101=>some m101.p
 | 102=>some m102.p
 | 103=>some m103.p
 | 104=>some m104.p
 | 105=>some m105
 | 106=>some m106.p
 | 107=>some m107.p
 | 108=>some m108.p
 | 110=>some m110
 | 114=>some m114
 | 117=>some m117.p
 | 118=>some m118.p
 | 119=>some m119.p
 | 120=>some m120.p
 | 121=>some m121.p
 | 122=>some m122.p
 | 123=>some m123.p
 | 124=>some m124.p
 | 125=>some m125.p
 | 126=>some m126.p
 | 127=>some m127.p
 | 128=>some m128.p
 | 129=>some m129.b
 | 130=>some m130
 | 131=>some m131.p
 | 132=>some m132.p
 | 133=>some m133.p
 | 134=>some m134
 | 135=>some m135
 | 136=>some m136.p
 | 137=>some m137.p
 | 138=>some m138.p
 | 142=>some m142.p
 | 143=>some m143.p
 | 144=>some m144.p
 | 145=>some m145.p
 | 146=>some m146.p
 | 147=>some m147.p
 | 148=>some m148.p
 | 149=>some m149.p
 | 150=>some m150.p
 | 151=>some m151.p
 | 152=>some m152
 | 153=>some m153.b
 | 154=>some m154
 | 155=>some m155.p
 | 156=>some m156.b
 | 157=>some m157
 | 158=>some m158.p
 | 159=>some m159.p
 | 160=>some m160.p
 | 161=>some m161.p
 | 162=>some m162.p
 | 163=>some m163.p
 | 164=>some m164.p
 | 166=>some m166.p
 | 167=>some m167.p
 | 168=>some m168.p
 | 169=>some m169.p
 | 170=>some m170.p
 | 171=>some m171.p
 | 172=>some m172.p
 | 173=>some m173.p
 | 174=>some m174.p
 | 175=>some m175.p
 | 176=>some m176.p
 | 177=>some m177.p
 | 178=>some m178.p
 | 179=>some m179.p
 | 180=>some m180.p
 | 181=>some m181.p
 | 182=>some m182.p
 | 183=>some m183.p
 | 184=>some m184.p
 | 185=>some m185.p
 | 186=>some m186.p
 | 187=>some m187.p
 | 188=>some m188.p
 | 189=>some m189.p
 | 190=>some m190.p
 | 191=>some m191.p
 | 192=>some m192.p
 | 193=>some m193.p
 | 194=>some m194.p
 | 195=>some m195.p
 | 196=>some m196.p
 | 197=>some m197.p
 | 198=>some m198.p
 | 199=>some m199.p
 | 200=>some m200.p
 | 201=>some m201.p
 | 202=>some m202.p
 | 203=>some m203.p
 | 204=>some m204.p
 | 205=>some m205.p
 | 206=>some m206.p
 | 207=>some m207.p
 | 208=>some m208
 | 209=>some m209
 | 210=>some m210.p
 | 211=>some m211
 | 212=>some m212
 | 213=>some m213.p
 | 215=>some bsF
 | 216=>some insF
 | 217=>some delF
 | _=>none

set_option maxRecDepth 100000 in
set_option maxHeartbeats 0 in
theorem tab_faithful:Faithful Go.Proofs.Tryz.prog tab:=by
 refine⟨by kernel_rfl,fun f F h=>?_⟩
 unfold tab at h
 split at h
 ·cases h;exact .inl ⟨Go.Proofs.Tryz.f3,[2,5,6,8],Go.Proofs.Tryz.func3,c3⟩
 ·cases h;exact .inl ⟨Go.Proofs.Tryz.f16,[1,2,3,6,8],Go.Proofs.Tryz.func16,c16⟩
 ·cases h;exact .inl ⟨Go.Proofs.Tryz.f17,[2,4],Go.Proofs.Tryz.func17,c17⟩
 ·cases h;exact .inl ⟨Go.Proofs.Tryz.f18,[2,4,6,7,9,10,13,15,17],Go.Proofs.Tryz.func18,c18⟩
 ·cases h;exact .inl ⟨Go.Proofs.Tryz.f19,[2,3,7,8],Go.Proofs.Tryz.func19,c19⟩
 ·cases h;exact .inl ⟨Go.Proofs.Tryz.f20,[],Go.Proofs.Tryz.func20,c20⟩
 ·cases h;exact .inl ⟨Go.Proofs.Tryz.f21,[1],Go.Proofs.Tryz.func21,c21⟩
 ·cases h;exact .inl ⟨Go.Proofs.Tryz.f22,[1,3,5,7],Go.Proofs.Tryz.func22,c22⟩
 ·cases h;exact .inl ⟨Go.Proofs.Tryz.f24,[2,4,6],Go.Proofs.Tryz.func24,c24⟩
 ·cases h;exact .inl ⟨Go.Proofs.Tryz.f25,[2,4,7],Go.Proofs.Tryz.func25,c25⟩
 ·cases h;exact .inl ⟨Go.Proofs.Tryz.f26,[1,3],Go.Proofs.Tryz.func26,c26⟩
 ·cases h;exact .inl ⟨Go.Proofs.Tryz.f27,[2,3],Go.Proofs.Tryz.func27,c27⟩
 ·cases h;exact .inl ⟨Go.Proofs.Tryz.f28,[0,1],Go.Proofs.Tryz.func28,c28⟩
 ·cases h;exact .inl ⟨Go.Proofs.Tryz.f29,[],Go.Proofs.Tryz.func29,c29⟩
 ·cases h;exact .inl ⟨Go.Proofs.Tryz.f30,[1,2],Go.Proofs.Tryz.func30,c30⟩
 ·cases h;exact .inl ⟨Go.Proofs.Tryz.f32,[2,4,6,9,11,14,16],Go.Proofs.Tryz.func32,c32⟩
 ·cases h;exact .inl ⟨Go.Proofs.Tryz.f34,[1,2,4,6],Go.Proofs.Tryz.func34,c34⟩
 ·cases h;exact .inl ⟨Go.Proofs.Tryz.f35,[1],Go.Proofs.Tryz.func35,c35⟩
 ·cases h;exact .inl ⟨Go.Proofs.Tryz.f36,[3,5,6,10,11],Go.Proofs.Tryz.func36,c36⟩
 ·cases h;exact .inl ⟨Go.Proofs.Tryz.f37,[5,6,8,11],Go.Proofs.Tryz.func37,c37⟩
 ·cases h;exact .inl ⟨Go.Proofs.Tryz.f38,[2,3],Go.Proofs.Tryz.func38,c38⟩
 ·cases h;exact .inl ⟨Go.Proofs.Tryz.f41,[1,2,3],Go.Proofs.Tryz.func41,c41⟩
 ·cases h;exact .inl ⟨Go.Proofs.Tryz.f42,[],Go.Proofs.Tryz.func42,c42⟩
 ·cases h;exact .inl ⟨Go.Proofs.Tryz.f43,[3],Go.Proofs.Tryz.func43,c43⟩
 ·cases h;exact .inl ⟨Go.Proofs.Tryz.f44,[4],Go.Proofs.Tryz.func44,c44⟩
 ·cases h;exact .inl ⟨Go.Proofs.Tryz.f45,[3,6,7],Go.Proofs.Tryz.func45,c45⟩
 ·cases h;exact .inl ⟨Go.Proofs.Tryz.f46,[3,6,7],Go.Proofs.Tryz.func46,c46⟩
 ·cases h;exact .inl ⟨Go.Proofs.Tryz.f47,[2,4,9,10],Go.Proofs.Tryz.func47,c47⟩
 ·cases h;exact .inl ⟨Go.Proofs.Tryz.f48,[2,4,7],Go.Proofs.Tryz.func48,c48⟩
 ·cases h;exact .inl ⟨Go.Proofs.Tryz.f49,[4,6,8,10],Go.Proofs.Tryz.func49,c49⟩
 ·cases h;exact .inl ⟨Go.Proofs.Tryz.f50,[1,2,3,6,8],Go.Proofs.Tryz.func50,c50⟩
 ·cases h;exact .inl ⟨Go.Proofs.Tryz.f51,[],Go.Proofs.Tryz.func51,c51⟩
 ·cases h;exact .inl ⟨Go.Proofs.Tryz.f52,[2,3],Go.Proofs.Tryz.func52,c52⟩
 ·cases h;exact .inl ⟨Go.Proofs.Tryz.f53,[],Go.Proofs.Tryz.func53,c53⟩
 ·cases h;exact .inl ⟨Go.Proofs.Tryz.f54,[1],Go.Proofs.Tryz.func54,c54⟩
 ·cases h;exact .inl ⟨Go.Proofs.Tryz.f55,[1],Go.Proofs.Tryz.func55,c55⟩
 ·cases h;exact .inl ⟨Go.Proofs.Tryz.f56,[],Go.Proofs.Tryz.func56,c56⟩
 ·cases h;exact .inl ⟨Go.Proofs.Tryz.f57,[0,1],Go.Proofs.Tryz.func57,c57⟩
 ·cases h;exact .inl ⟨Go.Proofs.Tryz.f58,[1,5],Go.Proofs.Tryz.func58,c58⟩
 ·cases h;exact .inl ⟨Go.Proofs.Tryz.f59,[3],Go.Proofs.Tryz.func59,c59⟩
 ·cases h;exact .inl ⟨Go.Proofs.Tryz.f60,[2,4,6,10,11,14,16,17],Go.Proofs.Tryz.func60,c60⟩
 ·cases h;exact .inl ⟨Go.Proofs.Tryz.f61,[2,4,6,9,11],Go.Proofs.Tryz.func61,c61⟩
 ·cases h;exact .inl ⟨Go.Proofs.Tryz.f62,[1],Go.Proofs.Tryz.func62,c62⟩
 ·cases h;exact .inl ⟨Go.Proofs.Tryz.f63,[2,3],Go.Proofs.Tryz.func63,c63⟩
 ·cases h;exact .inl ⟨Go.Proofs.Tryz.f64,[2,3],Go.Proofs.Tryz.func64,c64⟩
 ·cases h;exact .inl ⟨Go.Proofs.Tryz.f65,[2,3],Go.Proofs.Tryz.func65,c65⟩
 ·cases h;exact .inl ⟨Go.Proofs.Tryz.f66,[],Go.Proofs.Tryz.func66,c66⟩
 ·cases h;exact .inl ⟨Go.Proofs.Tryz.f67,[1],Go.Proofs.Tryz.func67,c67⟩
 ·cases h;exact .inl ⟨Go.Proofs.Tryz.f68,[],Go.Proofs.Tryz.func68,c68⟩
 ·cases h;exact .inl ⟨Go.Proofs.Tryz.f69,[0,1],Go.Proofs.Tryz.func69,c69⟩
 ·cases h;exact .inl ⟨Go.Proofs.Tryz.f70,[1],Go.Proofs.Tryz.func70,c70⟩
 ·cases h;exact .inl ⟨Go.Proofs.Tryz.f71,[],Go.Proofs.Tryz.func71,c71⟩
 ·cases h;exact .inl ⟨Go.Proofs.Tryz.f72,[],Go.Proofs.Tryz.func72,c72⟩
 ·cases h;exact .inl ⟨Go.Proofs.Tryz.f80,[2,4,6],Go.Proofs.Tryz.func80,c80⟩
 ·cases h;exact .inl ⟨Go.Proofs.Tryz.f81,[4,8,11],Go.Proofs.Tryz.func81,c81⟩
 ·cases h;exact .inl ⟨Go.Proofs.Tryz.f82,[2,4,6],Go.Proofs.Tryz.func82,c82⟩
 ·cases h;exact .inl ⟨Go.Proofs.Tryz.f83,[3,6,8],Go.Proofs.Tryz.func83,c83⟩
 ·cases h;exact .inl ⟨Go.Proofs.Tryz.f84,[3,6],Go.Proofs.Tryz.func84,c84⟩
 ·cases h;exact .inl ⟨Go.Proofs.Tryz.f85,[2],Go.Proofs.Tryz.func85,c85⟩
 ·cases h;exact .inl ⟨Go.Proofs.Tryz.f86,[3],Go.Proofs.Tryz.func86,c86⟩
 ·cases h;exact .inl ⟨Go.Proofs.Tryz.f87,[1,2,3],Go.Proofs.Tryz.func87,c87⟩
 ·cases h;exact .inl ⟨Go.Proofs.Tryz.f88,[],Go.Proofs.Tryz.func88,c88⟩
 ·cases h;exact .inl ⟨Go.Proofs.Tryz.f89,[3],Go.Proofs.Tryz.func89,c89⟩
 ·cases h;exact .inl ⟨Go.Proofs.Tryz.f90,[3],Go.Proofs.Tryz.func90,c90⟩
 ·cases h;exact .inl ⟨Go.Proofs.Tryz.f91,[3],Go.Proofs.Tryz.func91,c91⟩
 ·cases h;exact .inl ⟨Go.Proofs.Tryz.f92,[],Go.Proofs.Tryz.func92,c92⟩
 ·cases h;exact .inl ⟨Go.Proofs.Tryz.f93,[2],Go.Proofs.Tryz.func93,c93⟩
 ·cases h;exact .inl ⟨Go.Proofs.Tryz.f94,[1,2],Go.Proofs.Tryz.func94,c94⟩
 ·cases h;exact .inl ⟨Go.Proofs.Tryz.f95,[1],Go.Proofs.Tryz.func95,c95⟩
 ·cases h;exact .inl ⟨Go.Proofs.Tryz.f96,[1,6],Go.Proofs.Tryz.func96,c96⟩
 ·cases h;exact .inl ⟨Go.Proofs.Tryz.f97,[1,5],Go.Proofs.Tryz.func97,c97⟩
 ·cases h;exact .inl ⟨Go.Proofs.Tryz.f98,[1,6],Go.Proofs.Tryz.func98,c98⟩
 ·cases h;exact .inl ⟨Go.Proofs.Tryz.f99,[3,6,9,10,12],Go.Proofs.Tryz.func99,c99⟩
 ·cases h;exact .inl ⟨Go.Proofs.Tryz.f100,[2,4,6],Go.Proofs.Tryz.func100,c100⟩
 ·cases h;exact .inl ⟨Go.Proofs.Tryz.f101,[],Go.Proofs.Tryz.func101,c101⟩
 ·cases h;exact .inl ⟨Go.Proofs.Tryz.f102,[1,2],Go.Proofs.Tryz.func102,c102⟩
 ·cases h;exact .inl ⟨Go.Proofs.Tryz.f103,[],Go.Proofs.Tryz.func103,c103⟩
 ·cases h;exact .inl ⟨Go.Proofs.Tryz.f104,[],Go.Proofs.Tryz.func104,c104⟩
 ·cases h;exact .inl ⟨Go.Proofs.Tryz.f105,[],Go.Proofs.Tryz.func105,c105⟩
 ·cases h;exact .inl ⟨Go.Proofs.Tryz.f106,[],Go.Proofs.Tryz.func106,c106⟩
 ·cases h;exact .inl ⟨Go.Proofs.Tryz.f107,[],Go.Proofs.Tryz.func107,c107⟩
 ·cases h;exact .inl ⟨Go.Proofs.Tryz.f108,[1],Go.Proofs.Tryz.func108,c108⟩
 ·cases h;exact .inl ⟨Go.Proofs.Tryz.f110,[],Go.Proofs.Tryz.func110,c110⟩
 ·cases h;exact .inl ⟨Go.Proofs.Tryz.f114,[],Go.Proofs.Tryz.func114,c114⟩
 ·cases h;exact .inl ⟨Go.Proofs.Tryz.f117,[3,10],Go.Proofs.Tryz.func117,c117⟩
 ·cases h;exact .inl ⟨Go.Proofs.Tryz.f118,[2,4,5,6],Go.Proofs.Tryz.func118,c118⟩
 ·cases h;exact .inl ⟨Go.Proofs.Tryz.f119,[],Go.Proofs.Tryz.func119,c119⟩
 ·cases h;exact .inl ⟨Go.Proofs.Tryz.f120,[],Go.Proofs.Tryz.func120,c120⟩
 ·cases h;exact .inl ⟨Go.Proofs.Tryz.f121,[],Go.Proofs.Tryz.func121,c121⟩
 ·cases h;exact .inl ⟨Go.Proofs.Tryz.f122,[2],Go.Proofs.Tryz.func122,c122⟩
 ·cases h;exact .inl ⟨Go.Proofs.Tryz.f123,[7],Go.Proofs.Tryz.func123,c123⟩
 ·cases h;exact .inl ⟨Go.Proofs.Tryz.f124,[1,2],Go.Proofs.Tryz.func124,c124⟩
 ·cases h;exact .inl ⟨Go.Proofs.Tryz.f125,[7],Go.Proofs.Tryz.func125,c125⟩
 ·cases h;exact .inl ⟨Go.Proofs.Tryz.f126,[1,2],Go.Proofs.Tryz.func126,c126⟩
 ·cases h;exact .inl ⟨Go.Proofs.Tryz.f127,[7],Go.Proofs.Tryz.func127,c127⟩
 ·cases h;exact .inl ⟨Go.Proofs.Tryz.f128,[1,2],Go.Proofs.Tryz.func128,c128⟩
 ·cases h;exact .inl ⟨Go.Proofs.Tryz.f129,[],Go.Proofs.Tryz.func129,c129⟩
 ·cases h;exact .inl ⟨Go.Proofs.Tryz.f130,[],Go.Proofs.Tryz.func130,c130⟩
 ·cases h;exact .inl ⟨Go.Proofs.Tryz.f131,[],Go.Proofs.Tryz.func131,c131⟩
 ·cases h;exact .inl ⟨Go.Proofs.Tryz.f132,[2,4,6],Go.Proofs.Tryz.func132,c132⟩
 ·cases h;exact .inl ⟨Go.Proofs.Tryz.f133,[],Go.Proofs.Tryz.func133,c133⟩
 ·cases h;exact .inl ⟨Go.Proofs.Tryz.f134,[],Go.Proofs.Tryz.func134,c134⟩
 ·cases h;exact .inl ⟨Go.Proofs.Tryz.f135,[8,10],Go.Proofs.Tryz.func135,c135⟩
 ·cases h;exact .inl ⟨Go.Proofs.Tryz.f136,[2,4,8],Go.Proofs.Tryz.func136,c136⟩
 ·cases h;exact .inl ⟨Go.Proofs.Tryz.f137,[6,8,10],Go.Proofs.Tryz.func137,c137⟩
 ·cases h;exact .inl ⟨Go.Proofs.Tryz.f138,[],Go.Proofs.Tryz.func138,c138⟩
 ·cases h;exact .inl ⟨Go.Proofs.Tryz.f142,[1],Go.Proofs.Tryz.func142,c142⟩
 ·cases h;exact .inl ⟨Go.Proofs.Tryz.f143,[],Go.Proofs.Tryz.func143,c143⟩
 ·cases h;exact .inl ⟨Go.Proofs.Tryz.f144,[3],Go.Proofs.Tryz.func144,c144⟩
 ·cases h;exact .inl ⟨Go.Proofs.Tryz.f145,[3],Go.Proofs.Tryz.func145,c145⟩
 ·cases h;exact .inl ⟨Go.Proofs.Tryz.f146,[4],Go.Proofs.Tryz.func146,c146⟩
 ·cases h;exact .inl ⟨Go.Proofs.Tryz.f147,[],Go.Proofs.Tryz.func147,c147⟩
 ·cases h;exact .inl ⟨Go.Proofs.Tryz.f148,[],Go.Proofs.Tryz.func148,c148⟩
 ·cases h;exact .inl ⟨Go.Proofs.Tryz.f149,[2,3],Go.Proofs.Tryz.func149,c149⟩
 ·cases h;exact .inl ⟨Go.Proofs.Tryz.f150,[],Go.Proofs.Tryz.func150,c150⟩
 ·cases h;exact .inl ⟨Go.Proofs.Tryz.f151,[2,3],Go.Proofs.Tryz.func151,c151⟩
 ·cases h;exact .inl ⟨Go.Proofs.Tryz.f152,[],Go.Proofs.Tryz.func152,c152⟩
 ·cases h;exact .inl ⟨Go.Proofs.Tryz.f153,[],Go.Proofs.Tryz.func153,c153⟩
 ·cases h;exact .inl ⟨Go.Proofs.Tryz.f154,[],Go.Proofs.Tryz.func154,c154⟩
 ·cases h;exact .inl ⟨Go.Proofs.Tryz.f155,[1,2],Go.Proofs.Tryz.func155,c155⟩
 ·cases h;exact .inl ⟨Go.Proofs.Tryz.f156,[],Go.Proofs.Tryz.func156,c156⟩
 ·cases h;exact .inl ⟨Go.Proofs.Tryz.f157,[],Go.Proofs.Tryz.func157,c157⟩
 ·cases h;exact .inl ⟨Go.Proofs.Tryz.f158,[],Go.Proofs.Tryz.func158,c158⟩
 ·cases h;exact .inl ⟨Go.Proofs.Tryz.f159,[1],Go.Proofs.Tryz.func159,c159⟩
 ·cases h;exact .inl ⟨Go.Proofs.Tryz.f160,[4,6],Go.Proofs.Tryz.func160,c160⟩
 ·cases h;exact .inl ⟨Go.Proofs.Tryz.f161,[4,5,6,9,10],Go.Proofs.Tryz.func161,c161⟩
 ·cases h;exact .inl ⟨Go.Proofs.Tryz.f162,[],Go.Proofs.Tryz.func162,c162⟩
 ·cases h;exact .inl ⟨Go.Proofs.Tryz.f163,[],Go.Proofs.Tryz.func163,c163⟩
 ·cases h;exact .inl ⟨Go.Proofs.Tryz.f164,[],Go.Proofs.Tryz.func164,c164⟩
 ·cases h;exact .inl ⟨Go.Proofs.Tryz.f166,[],Go.Proofs.Tryz.func166,c166⟩
 ·cases h;exact .inl ⟨Go.Proofs.Tryz.f167,[],Go.Proofs.Tryz.func167,c167⟩
 ·cases h;exact .inl ⟨Go.Proofs.Tryz.f168,[],Go.Proofs.Tryz.func168,c168⟩
 ·cases h;exact .inl ⟨Go.Proofs.Tryz.f169,[],Go.Proofs.Tryz.func169,c169⟩
 ·cases h;exact .inl ⟨Go.Proofs.Tryz.f170,[2],Go.Proofs.Tryz.func170,c170⟩
 ·cases h;exact .inl ⟨Go.Proofs.Tryz.f171,[2],Go.Proofs.Tryz.func171,c171⟩
 ·cases h;exact .inl ⟨Go.Proofs.Tryz.f172,[2],Go.Proofs.Tryz.func172,c172⟩
 ·cases h;exact .inl ⟨Go.Proofs.Tryz.f173,[],Go.Proofs.Tryz.func173,c173⟩
 ·cases h;exact .inl ⟨Go.Proofs.Tryz.f174,[],Go.Proofs.Tryz.func174,c174⟩
 ·cases h;exact .inl ⟨Go.Proofs.Tryz.f175,[3],Go.Proofs.Tryz.func175,c175⟩
 ·cases h;exact .inl ⟨Go.Proofs.Tryz.f176,[],Go.Proofs.Tryz.func176,c176⟩
 ·cases h;exact .inl ⟨Go.Proofs.Tryz.f177,[],Go.Proofs.Tryz.func177,c177⟩
 ·cases h;exact .inl ⟨Go.Proofs.Tryz.f178,[2],Go.Proofs.Tryz.func178,c178⟩
 ·cases h;exact .inl ⟨Go.Proofs.Tryz.f179,[],Go.Proofs.Tryz.func179,c179⟩
 ·cases h;exact .inl ⟨Go.Proofs.Tryz.f180,[2],Go.Proofs.Tryz.func180,c180⟩
 ·cases h;exact .inl ⟨Go.Proofs.Tryz.f181,[],Go.Proofs.Tryz.func181,c181⟩
 ·cases h;exact .inl ⟨Go.Proofs.Tryz.f182,[],Go.Proofs.Tryz.func182,c182⟩
 ·cases h;exact .inl ⟨Go.Proofs.Tryz.f183,[2],Go.Proofs.Tryz.func183,c183⟩
 ·cases h;exact .inl ⟨Go.Proofs.Tryz.f184,[],Go.Proofs.Tryz.func184,c184⟩
 ·cases h;exact .inl ⟨Go.Proofs.Tryz.f185,[1],Go.Proofs.Tryz.func185,c185⟩
 ·cases h;exact .inl ⟨Go.Proofs.Tryz.f186,[3],Go.Proofs.Tryz.func186,c186⟩
 ·cases h;exact .inl ⟨Go.Proofs.Tryz.f187,[1,2],Go.Proofs.Tryz.func187,c187⟩
 ·cases h;exact .inl ⟨Go.Proofs.Tryz.f188,[1,2],Go.Proofs.Tryz.func188,c188⟩
 ·cases h;exact .inl ⟨Go.Proofs.Tryz.f189,[1,2],Go.Proofs.Tryz.func189,c189⟩
 ·cases h;exact .inl ⟨Go.Proofs.Tryz.f190,[],Go.Proofs.Tryz.func190,c190⟩
 ·cases h;exact .inl ⟨Go.Proofs.Tryz.f191,[2],Go.Proofs.Tryz.func191,c191⟩
 ·cases h;exact .inl ⟨Go.Proofs.Tryz.f192,[1],Go.Proofs.Tryz.func192,c192⟩
 ·cases h;exact .inl ⟨Go.Proofs.Tryz.f193,[1],Go.Proofs.Tryz.func193,c193⟩
 ·cases h;exact .inl ⟨Go.Proofs.Tryz.f194,[1],Go.Proofs.Tryz.func194,c194⟩
 ·cases h;exact .inl ⟨Go.Proofs.Tryz.f195,[],Go.Proofs.Tryz.func195,c195⟩
 ·cases h;exact .inl ⟨Go.Proofs.Tryz.f196,[],Go.Proofs.Tryz.func196,c196⟩
 ·cases h;exact .inl ⟨Go.Proofs.Tryz.f197,[],Go.Proofs.Tryz.func197,c197⟩
 ·cases h;exact .inl ⟨Go.Proofs.Tryz.f198,[],Go.Proofs.Tryz.func198,c198⟩
 ·cases h;exact .inl ⟨Go.Proofs.Tryz.f199,[],Go.Proofs.Tryz.func199,c199⟩
 ·cases h;exact .inl ⟨Go.Proofs.Tryz.f200,[],Go.Proofs.Tryz.func200,c200⟩
 ·cases h;exact .inl ⟨Go.Proofs.Tryz.f201,[2,3,4],Go.Proofs.Tryz.func201,c201⟩
 ·cases h;exact .inl ⟨Go.Proofs.Tryz.f202,[2,3,4],Go.Proofs.Tryz.func202,c202⟩
 ·cases h;exact .inl ⟨Go.Proofs.Tryz.f203,[2,3,4],Go.Proofs.Tryz.func203,c203⟩
 ·cases h;exact .inl ⟨Go.Proofs.Tryz.f204,[],Go.Proofs.Tryz.func204,c204⟩
 ·cases h;exact .inl ⟨Go.Proofs.Tryz.f205,[],Go.Proofs.Tryz.func205,c205⟩
 ·cases h;exact .inl ⟨Go.Proofs.Tryz.f206,[],Go.Proofs.Tryz.func206,c206⟩
 ·cases h;exact .inl ⟨Go.Proofs.Tryz.f207,[],Go.Proofs.Tryz.func207,c207⟩
 ·cases h;exact .inl ⟨Go.Proofs.Tryz.f208,[],Go.Proofs.Tryz.func208,c208⟩
 ·cases h;exact .inl ⟨Go.Proofs.Tryz.f209,[],Go.Proofs.Tryz.func209,c209⟩
 ·cases h;exact .inl ⟨Go.Proofs.Tryz.f210,[],Go.Proofs.Tryz.func210,c210⟩
 ·cases h;exact .inl ⟨Go.Proofs.Tryz.f211,[],Go.Proofs.Tryz.func211,c211⟩
 ·cases h;exact .inl ⟨Go.Proofs.Tryz.f212,[],Go.Proofs.Tryz.func212,c212⟩
 ·cases h;exact .inl ⟨Go.Proofs.Tryz.f213,[],Go.Proofs.Tryz.func213,c213⟩
 ·cases h;exact .inr (search_ok lays_n25)
 ·cases h;exact .inr (insert_ok lays_n21)
 ·cases h;exact .inr (delete_ok lays_n23)
 ·cases h

end Go.Ab
