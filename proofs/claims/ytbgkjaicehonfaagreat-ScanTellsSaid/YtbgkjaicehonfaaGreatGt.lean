/-
  The table of the functions that are used here, and that it is the program's.
  Conditions: none.
-/
import Derived.Test.YtbgkjaicehonfaaGreatGk0
import Derived.Test.YtbgkjaicehonfaaGreatGb
import Derived.Test.YtbgkjaicehonfaaGreatGy
import Derived.Test.YtbgkjaicehonfaaGreatGl
namespace Go.Ab
open Go.Proofs.Tryz

def tab:FuncId→Option MFunc
 | 4=>some m4
 | 9=>some m9.p
 | 10=>some m10.p
 | 11=>some m11.p
 | 12=>some m12.p
 | 13=>some m13.p
 | 14=>some m14.p
 | 15=>some m15.p
 | 23=>some m23.p
 | 24=>some m24.p
 | 25=>some m25.p
 | 26=>some m26.p
 | 27=>some m27
 | 28=>some m28
 | 29=>some m29
 | 30=>some m30
 | 31=>some m31
 | 32=>some m32
 | 33=>some m33.p
 | 34=>some m34.p
 | 35=>some m35.p
 | 47=>some m47.p
 | 48=>some m48.p
 | 49=>some m49.p
 | 50=>some m50.p
 | 51=>some m51.p
 | 52=>some m52.p
 | 53=>some m53.p
 | 54=>some m54.p
 | 55=>some m55.p
 | 56=>some m56.p
 | 57=>some m57.p
 | 58=>some m58.p
 | 59=>some m59
 | 60=>some m60
 | 61=>some m61
 | 62=>some m62
 | 63=>some m63
 | 64=>some m64
 | 65=>some m65
 | 66=>some m66
 | 67=>some m67.p
 | 68=>some m68.p
 | 69=>some m69.p
 | 70=>some m70.p
 | 71=>some m71.p
 | 72=>some m72.p
 | 73=>some m73.p
 | 74=>some m74.p
 | 75=>some m75.p
 | 76=>some m76.p
 | 77=>some m77.p
 | 81=>some m81.p
 | 82=>some m82.p
 | 83=>some m83.p
 | 84=>some m84.p
 | 85=>some m85.p
 | 86=>some m86.p
 | 87=>some m87.p
 | 88=>some m88.p
 | 89=>some m89.p
 | 90=>some m90.p
 | 91=>some m91.p
 | 92=>some m92.b
 | 93=>some m93
 | 94=>some m94.p
 | 95=>some m95.p
 | 96=>some m96.p
 | 97=>some m97
 | 98=>some m98
 | 99=>some m99
 | 100=>some m100.p
 | 101=>some m101.p
 | 102=>some m102.p
 | 103=>some m103.p
 | 104=>some m104.p
 | 107=>some m107.p
 | 108=>some m108.p
 | 109=>some m109.p
 | 110=>some m110.p
 | 111=>some m111.p
 | 112=>some m112.p
 | 113=>some m113.p
 | 114=>some m114.p
 | 115=>some m115.p
 | 116=>some m116.p
 | 117=>some m117.p
 | 118=>some m118.p
 | 119=>some m119.p
 | 120=>some m120
 | 121=>some m121.b
 | 122=>some m122
 | 123=>some m123.p
 | 124=>some m124.b
 | 125=>some m125
 | 126=>some m126.p
 | 127=>some m127.p
 | 128=>some m128.p
 | 129=>some m129.p
 | 130=>some m130.p
 | 131=>some m131.p
 | 132=>some m132.p
 | 133=>some m133.p
 | 134=>some m134.p
 | 135=>some m135.p
 | 136=>some m136.p
 | 137=>some m137.p
 | 138=>some m138.p
 | 139=>some m139.p
 | 140=>some m140.p
 | 141=>some m141.p
 | 142=>some m142.p
 | 143=>some m143.p
 | 144=>some m144.p
 | 145=>some m145.p
 | 146=>some m146.p
 | 147=>some m147.p
 | 148=>some m148.p
 | 149=>some m149.p
 | 150=>some m150.p
 | 151=>some m151.p
 | 152=>some m152.p
 | 153=>some m153.p
 | 154=>some m154.p
 | 155=>some m155.p
 | 156=>some m156.p
 | 157=>some m157.p
 | 158=>some m158.p
 | 159=>some m159.p
 | 160=>some m160.p
 | 161=>some m161.p
 | 162=>some m162.p
 | 163=>some m163.p
 | 164=>some m164.p
 | 165=>some m165.p
 | 166=>some m166.p
 | 167=>some m167.p
 | 168=>some m168.p
 | 169=>some m169.p
 | 170=>some m170.p
 | 171=>some m171.p
 | 172=>some m172.p
 | 173=>some m173.p
 | 174=>some m174.p
 | 175=>some m175.p
 | 176=>some m176.p
 | 177=>some m177
 | 178=>some m178
 | 179=>some m179.p
 | 180=>some m180
 | 181=>some m181
 | 182=>some m182.p
 | 183=>some m183.p
 | 184=>some m184.p
 | 185=>some m185.p
 | 186=>some growF
 | 187=>some bsF
 | 188=>some insF
 | 189=>some delF
 | 190=>some m190.p
 | _=>none

set_option maxRecDepth 100000 in
set_option maxHeartbeats 0 in
theorem tab_faithful:Faithful prog tab:=by
 refine⟨by kernel_rfl,fun f F h=>?_⟩
 unfold tab at h
 split at h
 ·cases h;exact .inl ⟨f4,[5,9,13,16],func4,c4⟩
 ·cases h;exact .inl ⟨f9,[1,4,6],func9,c9⟩
 ·cases h;exact .inl ⟨f10,[0,1],func10,c10⟩
 ·cases h;exact .inl ⟨f11,[3,5,6,10,11],func11,c11⟩
 ·cases h;exact .inl ⟨f12,[2,4,8],func12,c12⟩
 ·cases h;exact .inl ⟨f13,[],func13,c13⟩
 ·cases h;exact .inl ⟨f14,[0,1],func14,c14⟩
 ·cases h;exact .inl ⟨f15,[2,4,7],func15,c15⟩
 ·cases h;exact .inl ⟨f23,[1,2,4,6],func23,c23⟩
 ·cases h;exact .inl ⟨f24,[1,3],func24,c24⟩
 ·cases h;exact .inl ⟨f25,[1],func25,c25⟩
 ·cases h;exact .inl ⟨f26,[1,2,3,6,8],func26,c26⟩
 ·cases h;exact .inl ⟨f27,[],func27,c27⟩
 ·cases h;exact .inl ⟨f28,[],func28,c28⟩
 ·cases h;exact .inl ⟨f29,[],func29,c29⟩
 ·cases h;exact .inl ⟨f30,[1],func30,c30⟩
 ·cases h;exact .inl ⟨f31,[1],func31,c31⟩
 ·cases h;exact .inl ⟨f32,[1],func32,c32⟩
 ·cases h;exact .inl ⟨f33,[2,4,6,10,11,14,16,17],func33,c33⟩
 ·cases h;exact .inl ⟨f34,[2,4,6,9,11],func34,c34⟩
 ·cases h;exact .inl ⟨f35,[2,4,6,9,11,14,16],func35,c35⟩
 ·cases h;exact .inl ⟨f47,[1],func47,c47⟩
 ·cases h;exact .inl ⟨f48,[2],func48,c48⟩
 ·cases h;exact .inl ⟨f49,[2,3],func49,c49⟩
 ·cases h;exact .inl ⟨f50,[2,3],func50,c50⟩
 ·cases h;exact .inl ⟨f51,[2,3],func51,c51⟩
 ·cases h;exact .inl ⟨f52,[],func52,c52⟩
 ·cases h;exact .inl ⟨f53,[],func53,c53⟩
 ·cases h;exact .inl ⟨f54,[1,2],func54,c54⟩
 ·cases h;exact .inl ⟨f55,[1,2,3],func55,c55⟩
 ·cases h;exact .inl ⟨f56,[],func56,c56⟩
 ·cases h;exact .inl ⟨f57,[2],func57,c57⟩
 ·cases h;exact .inl ⟨f58,[1,2],func58,c58⟩
 ·cases h;exact .inl ⟨f59,[],func59,c59⟩
 ·cases h;exact .inl ⟨f60,[1],func60,c60⟩
 ·cases h;exact .inl ⟨f61,[],func61,c61⟩
 ·cases h;exact .inl ⟨f62,[],func62,c62⟩
 ·cases h;exact .inl ⟨f63,[],func63,c63⟩
 ·cases h;exact .inl ⟨f64,[],func64,c64⟩
 ·cases h;exact .inl ⟨f65,[4],func65,c65⟩
 ·cases h;exact .inl ⟨f66,[],func66,c66⟩
 ·cases h;exact .inl ⟨f67,[4],func67,c67⟩
 ·cases h;exact .inl ⟨f68,[3,6,7],func68,c68⟩
 ·cases h;exact .inl ⟨f69,[4,8,11],func69,c69⟩
 ·cases h;exact .inl ⟨f70,[3,6,7],func70,c70⟩
 ·cases h;exact .inl ⟨f71,[3,6,8],func71,c71⟩
 ·cases h;exact .inl ⟨f72,[5,6,8,11],func72,c72⟩
 ·cases h;exact .inl ⟨f73,[3,6],func73,c73⟩
 ·cases h;exact .inl ⟨f74,[1],func74,c74⟩
 ·cases h;exact .inl ⟨f75,[2,4,6],func75,c75⟩
 ·cases h;exact .inl ⟨f76,[2,4,6],func76,c76⟩
 ·cases h;exact .inl ⟨f77,[2,4,6,7,9,10,13,15,17],func77,c77⟩
 ·cases h;exact .inl ⟨f81,[],func81,c81⟩
 ·cases h;exact .inl ⟨f82,[1,5],func82,c82⟩
 ·cases h;exact .inl ⟨f83,[3],func83,c83⟩
 ·cases h;exact .inl ⟨f84,[],func84,c84⟩
 ·cases h;exact .inl ⟨f85,[2],func85,c85⟩
 ·cases h;exact .inl ⟨f86,[7],func86,c86⟩
 ·cases h;exact .inl ⟨f87,[1,2],func87,c87⟩
 ·cases h;exact .inl ⟨f88,[7],func88,c88⟩
 ·cases h;exact .inl ⟨f89,[1,2],func89,c89⟩
 ·cases h;exact .inl ⟨f90,[7],func90,c90⟩
 ·cases h;exact .inl ⟨f91,[1,2],func91,c91⟩
 ·cases h;exact .inl ⟨f92,[],func92,c92⟩
 ·cases h;exact .inl ⟨f93,[8,10],func93,c93⟩
 ·cases h;exact .inl ⟨f94,[4,5,6,9,10],func94,c94⟩
 ·cases h;exact .inl ⟨f95,[3,6,9,10,12],func95,c95⟩
 ·cases h;exact .inl ⟨f96,[],func96,c96⟩
 ·cases h;exact .inl ⟨f97,[3],func97,c97⟩
 ·cases h;exact .inl ⟨f98,[3],func98,c98⟩
 ·cases h;exact .inl ⟨f99,[3],func99,c99⟩
 ·cases h;exact .inl ⟨f100,[2,4,5,6],func100,c100⟩
 ·cases h;exact .inl ⟨f101,[3,10],func101,c101⟩
 ·cases h;exact .inl ⟨f102,[2,4,9,10],func102,c102⟩
 ·cases h;exact .inl ⟨f103,[2,4,7],func103,c103⟩
 ·cases h;exact .inl ⟨f104,[4,6,8,10],func104,c104⟩
 ·cases h;exact .inl ⟨f107,[],func107,c107⟩
 ·cases h;exact .inl ⟨f108,[],func108,c108⟩
 ·cases h;exact .inl ⟨f109,[],func109,c109⟩
 ·cases h;exact .inl ⟨f110,[1],func110,c110⟩
 ·cases h;exact .inl ⟨f111,[],func111,c111⟩
 ·cases h;exact .inl ⟨f112,[3],func112,c112⟩
 ·cases h;exact .inl ⟨f113,[3],func113,c113⟩
 ·cases h;exact .inl ⟨f114,[4],func114,c114⟩
 ·cases h;exact .inl ⟨f115,[],func115,c115⟩
 ·cases h;exact .inl ⟨f116,[],func116,c116⟩
 ·cases h;exact .inl ⟨f117,[2,3],func117,c117⟩
 ·cases h;exact .inl ⟨f118,[],func118,c118⟩
 ·cases h;exact .inl ⟨f119,[2,3],func119,c119⟩
 ·cases h;exact .inl ⟨f120,[],func120,c120⟩
 ·cases h;exact .inl ⟨f121,[],func121,c121⟩
 ·cases h;exact .inl ⟨f122,[],func122,c122⟩
 ·cases h;exact .inl ⟨f123,[1,2],func123,c123⟩
 ·cases h;exact .inl ⟨f124,[],func124,c124⟩
 ·cases h;exact .inl ⟨f125,[],func125,c125⟩
 ·cases h;exact .inl ⟨f126,[4,6],func126,c126⟩
 ·cases h;exact .inl ⟨f127,[],func127,c127⟩
 ·cases h;exact .inl ⟨f128,[1,2],func128,c128⟩
 ·cases h;exact .inl ⟨f129,[1,2],func129,c129⟩
 ·cases h;exact .inl ⟨f130,[1,2],func130,c130⟩
 ·cases h;exact .inl ⟨f131,[2,4,6],func131,c131⟩
 ·cases h;exact .inl ⟨f132,[],func132,c132⟩
 ·cases h;exact .inl ⟨f133,[2,4,6],func133,c133⟩
 ·cases h;exact .inl ⟨f134,[],func134,c134⟩
 ·cases h;exact .inl ⟨f135,[],func135,c135⟩
 ·cases h;exact .inl ⟨f136,[],func136,c136⟩
 ·cases h;exact .inl ⟨f137,[],func137,c137⟩
 ·cases h;exact .inl ⟨f138,[2],func138,c138⟩
 ·cases h;exact .inl ⟨f139,[2],func139,c139⟩
 ·cases h;exact .inl ⟨f140,[2],func140,c140⟩
 ·cases h;exact .inl ⟨f141,[1],func141,c141⟩
 ·cases h;exact .inl ⟨f142,[],func142,c142⟩
 ·cases h;exact .inl ⟨f143,[],func143,c143⟩
 ·cases h;exact .inl ⟨f144,[3],func144,c144⟩
 ·cases h;exact .inl ⟨f145,[],func145,c145⟩
 ·cases h;exact .inl ⟨f146,[],func146,c146⟩
 ·cases h;exact .inl ⟨f147,[2],func147,c147⟩
 ·cases h;exact .inl ⟨f148,[],func148,c148⟩
 ·cases h;exact .inl ⟨f149,[2],func149,c149⟩
 ·cases h;exact .inl ⟨f150,[1],func150,c150⟩
 ·cases h;exact .inl ⟨f151,[],func151,c151⟩
 ·cases h;exact .inl ⟨f152,[],func152,c152⟩
 ·cases h;exact .inl ⟨f153,[2],func153,c153⟩
 ·cases h;exact .inl ⟨f154,[],func154,c154⟩
 ·cases h;exact .inl ⟨f155,[3],func155,c155⟩
 ·cases h;exact .inl ⟨f156,[2,3,4],func156,c156⟩
 ·cases h;exact .inl ⟨f157,[2,3,4],func157,c157⟩
 ·cases h;exact .inl ⟨f158,[2,3,4],func158,c158⟩
 ·cases h;exact .inl ⟨f159,[3],func159,c159⟩
 ·cases h;exact .inl ⟨f160,[],func160,c160⟩
 ·cases h;exact .inl ⟨f161,[],func161,c161⟩
 ·cases h;exact .inl ⟨f162,[1],func162,c162⟩
 ·cases h;exact .inl ⟨f163,[],func163,c163⟩
 ·cases h;exact .inl ⟨f164,[2],func164,c164⟩
 ·cases h;exact .inl ⟨f165,[1],func165,c165⟩
 ·cases h;exact .inl ⟨f166,[1],func166,c166⟩
 ·cases h;exact .inl ⟨f167,[1],func167,c167⟩
 ·cases h;exact .inl ⟨f168,[],func168,c168⟩
 ·cases h;exact .inl ⟨f169,[],func169,c169⟩
 ·cases h;exact .inl ⟨f170,[],func170,c170⟩
 ·cases h;exact .inl ⟨f171,[],func171,c171⟩
 ·cases h;exact .inl ⟨f172,[],func172,c172⟩
 ·cases h;exact .inl ⟨f173,[],func173,c173⟩
 ·cases h;exact .inl ⟨f174,[],func174,c174⟩
 ·cases h;exact .inl ⟨f175,[],func175,c175⟩
 ·cases h;exact .inl ⟨f176,[],func176,c176⟩
 ·cases h;exact .inl ⟨f177,[],func177,c177⟩
 ·cases h;exact .inl ⟨f178,[],func178,c178⟩
 ·cases h;exact .inl ⟨f179,[],func179,c179⟩
 ·cases h;exact .inl ⟨f180,[],func180,c180⟩
 ·cases h;exact .inl ⟨f181,[],func181,c181⟩
 ·cases h;exact .inl ⟨f182,[],func182,c182⟩
 ·cases h;exact .inl ⟨f183,[1],func183,c183⟩
 ·cases h;exact .inl ⟨f184,[],func184,c184⟩
 ·cases h;exact .inl ⟨f185,[],func185,c185⟩
 ·cases h;exact .inr (grow_lay)
 ·cases h;exact .inr (search_ok lays_n25)
 ·cases h;exact .inr (insert_ok lays_n21)
 ·cases h;exact .inr (delete_ok lays_n23)
 ·cases h;exact .inl ⟨f190,[],func190,c190⟩
 ·cases h

end Go.Ab
