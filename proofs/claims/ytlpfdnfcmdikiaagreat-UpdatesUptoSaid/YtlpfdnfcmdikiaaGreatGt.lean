/-
  The table of the functions that are used here, and that it is the program's.
  Conditions: none.
-/
import Derived.Test.YtlpfdnfcmdikiaaGreatGk0
import Derived.Test.YtlpfdnfcmdikiaaGreatGb
import Derived.Test.YtlpfdnfcmdikiaaGreatGy
import Derived.Test.YtlpfdnfcmdikiaaGreatGl
namespace Go.Ab
open Go.Proofs.Tryz

def tabA:FuncId→Option MFunc
 | 10=>some m10
 | 16=>some m16.p
 | 18=>some m18.p
 | 19=>some m19.p
 | 20=>some m20.p
 | 21=>some m21
 | 24=>some m24.p
 | 26=>some m26.p
 | 27=>some m27.p
 | 29=>some m29.p
 | 30=>some m30.p
 | 31=>some m31.p
 | 32=>some m32.p
 | 33=>some m33.p
 | 34=>some m34.p
 | 35=>some m35.p
 | 36=>some m36.p
 | 37=>some m37.p
 | 38=>some m38.p
 | 39=>some m39.p
 | 40=>some m40.p
 | 41=>some m41.p
 | 42=>some m42
 | 43=>some m43
 | 44=>some m44.p
 | 45=>some m45.p
 | 46=>some m46.p
 | 47=>some m47.p
 | 48=>some m48.p
 | 49=>some m49.p
 | 50=>some m50.p
 | 51=>some m51.p
 | 52=>some m52.p
 | 53=>some m53
 | 54=>some m54
 | 55=>some m55
 | 56=>some m56
 | 58=>some m58.p
 | 59=>some m59.p
 | 62=>some m62.p
 | 63=>some m63.p
 | 64=>some m64.p
 | 65=>some m65.p
 | 66=>some m66.p
 | 67=>some m67.p
 | 68=>some m68.p
 | 70=>some m70.p
 | 71=>some m71
 | 72=>some m72
 | 73=>some m73
 | 74=>some m74
 | 75=>some m75
 | 76=>some m76
 | 77=>some m77
 | 78=>some m78
 | 79=>some m79
 | 80=>some m80.p
 | 81=>some m81.p
 | 82=>some m82.p
 | 83=>some m83.p
 | 84=>some m84.p
 | 85=>some m85.p
 | 86=>some m86.p
 | 87=>some m87.p
 | 88=>some m88.p
 | 89=>some m89
 | 90=>some m90
 | 91=>some m91
 | 92=>some m92.p
 | 93=>some m93.p
 | 94=>some m94.p
 | 95=>some m95
 | 96=>some m96
 | 97=>some m97
 | 98=>some m98
 | 99=>some m99.p
 | 100=>some m100.p
 | 101=>some m101.p
 | 102=>some m102.p
 | 103=>some m103.p
 | 104=>some m104.p
 | 105=>some m105
 | 106=>some m106.p
 | 107=>some m107.p
 | 108=>some m108.p
 | 109=>some m109
 | 110=>some m110
 | 111=>some m111
 | 112=>some m112
 | 113=>some m113
 | 114=>some m114
 | 115=>some m115
 | 116=>some m116
 | 117=>some m117.p
 | 118=>some m118.p
 | 119=>some m119.p
 | _=>none

def tabB:FuncId→Option MFunc
 | 120=>some m120.p
 | 121=>some m121.p
 | 122=>some m122.p
 | 123=>some m123.p
 | 124=>some m124.p
 | 125=>some m125.p
 | 126=>some m126.p
 | 127=>some m127.p
 | 128=>some m128.p
 | 129=>some m129.b
 | 130=>some m130
 | 131=>some m131.p
 | 132=>some m132.p
 | 133=>some m133.p
 | 134=>some m134
 | 135=>some m135
 | 136=>some m136.p
 | 137=>some m137.p
 | 138=>some m138.p
 | 139=>some m139
 | 140=>some m140.p
 | 141=>some m141
 | 142=>some m142.p
 | 143=>some m143.p
 | 144=>some m144.p
 | 145=>some m145.p
 | 146=>some m146.p
 | 147=>some m147.p
 | 148=>some m148.p
 | 149=>some m149.p
 | 150=>some m150.p
 | 151=>some m151.p
 | 152=>some m152
 | 153=>some m153.b
 | 154=>some m154
 | 155=>some m155.p
 | 156=>some m156.b
 | 157=>some m157
 | 158=>some m158.p
 | 159=>some m159.p
 | 160=>some m160.p
 | 161=>some m161.p
 | 162=>some m162.p
 | 163=>some m163.p
 | 164=>some m164.p
 | 165=>some m165.p
 | 166=>some m166.p
 | 167=>some m167.p
 | 168=>some m168.p
 | 169=>some m169.p
 | 170=>some m170.p
 | 171=>some m171.p
 | 172=>some m172.p
 | 173=>some m173.p
 | 174=>some m174.p
 | 175=>some m175.p
 | 176=>some m176.p
 | 177=>some m177.p
 | 178=>some m178.p
 | 179=>some m179.p
 | 180=>some m180.p
 | 181=>some m181.p
 | 182=>some m182.p
 | 183=>some m183.p
 | 184=>some m184.p
 | 185=>some m185.p
 | 186=>some m186.p
 | 187=>some m187.p
 | 188=>some m188.p
 | 189=>some m189.p
 | 190=>some m190.p
 | 191=>some m191.p
 | 192=>some m192.p
 | 193=>some m193.p
 | 194=>some m194.p
 | 195=>some m195.p
 | 196=>some m196.p
 | 197=>some m197.p
 | 198=>some m198.p
 | 199=>some m199.p
 | 200=>some m200.p
 | 201=>some m201.p
 | 202=>some m202.p
 | 203=>some m203.p
 | 204=>some m204.p
 | 205=>some m205.p
 | 206=>some m206.p
 | 207=>some m207.p
 | 208=>some m208
 | 209=>some m209
 | 210=>some m210.p
 | 211=>some m211
 | 212=>some m212
 | 213=>some m213.p
 | 215=>some bsF
 | 216=>some insF
 | 217=>some delF
 | _=>none

def tab (f:FuncId):Option MFunc:=bif Nat.blt f 120 then tabA f else tabB f

set_option maxRecDepth 100000 in
set_option maxHeartbeats 0 in
theorem tab_faithful:Faithful prog tab:=by
 refine⟨by kernel_rfl,fun f F h=>?_⟩
 unfold tab at h
 cases hb:Nat.blt f 120<;>rw[hb] at h<;>simp only[cond_true,cond_false] at h
 ·unfold tabB at h
  split at h
  ·cases h;exact .inl ⟨f120,[],func120,c120⟩
  ·cases h;exact .inl ⟨f121,[],func121,c121⟩
  ·cases h;exact .inl ⟨f122,[2],func122,c122⟩
  ·cases h;exact .inl ⟨f123,[7],func123,c123⟩
  ·cases h;exact .inl ⟨f124,[1,2],func124,c124⟩
  ·cases h;exact .inl ⟨f125,[7],func125,c125⟩
  ·cases h;exact .inl ⟨f126,[1,2],func126,c126⟩
  ·cases h;exact .inl ⟨f127,[7],func127,c127⟩
  ·cases h;exact .inl ⟨f128,[1,2],func128,c128⟩
  ·cases h;exact .inl ⟨f129,[],func129,c129⟩
  ·cases h;exact .inl ⟨f130,[],func130,c130⟩
  ·cases h;exact .inl ⟨f131,[],func131,c131⟩
  ·cases h;exact .inl ⟨f132,[2,4,6],func132,c132⟩
  ·cases h;exact .inl ⟨f133,[],func133,c133⟩
  ·cases h;exact .inl ⟨f134,[],func134,c134⟩
  ·cases h;exact .inl ⟨f135,[8,10],func135,c135⟩
  ·cases h;exact .inl ⟨f136,[2,4,8],func136,c136⟩
  ·cases h;exact .inl ⟨f137,[6,8,10],func137,c137⟩
  ·cases h;exact .inl ⟨f138,[],func138,c138⟩
  ·cases h;exact .inl ⟨f139,[],func139,c139⟩
  ·cases h;exact .inl ⟨f140,[10],func140,c140⟩
  ·cases h;exact .inl ⟨f141,[],func141,c141⟩
  ·cases h;exact .inl ⟨f142,[1],func142,c142⟩
  ·cases h;exact .inl ⟨f143,[],func143,c143⟩
  ·cases h;exact .inl ⟨f144,[3],func144,c144⟩
  ·cases h;exact .inl ⟨f145,[3],func145,c145⟩
  ·cases h;exact .inl ⟨f146,[4],func146,c146⟩
  ·cases h;exact .inl ⟨f147,[],func147,c147⟩
  ·cases h;exact .inl ⟨f148,[],func148,c148⟩
  ·cases h;exact .inl ⟨f149,[2,3],func149,c149⟩
  ·cases h;exact .inl ⟨f150,[],func150,c150⟩
  ·cases h;exact .inl ⟨f151,[2,3],func151,c151⟩
  ·cases h;exact .inl ⟨f152,[],func152,c152⟩
  ·cases h;exact .inl ⟨f153,[],func153,c153⟩
  ·cases h;exact .inl ⟨f154,[],func154,c154⟩
  ·cases h;exact .inl ⟨f155,[1,2],func155,c155⟩
  ·cases h;exact .inl ⟨f156,[],func156,c156⟩
  ·cases h;exact .inl ⟨f157,[],func157,c157⟩
  ·cases h;exact .inl ⟨f158,[],func158,c158⟩
  ·cases h;exact .inl ⟨f159,[1],func159,c159⟩
  ·cases h;exact .inl ⟨f160,[4,6],func160,c160⟩
  ·cases h;exact .inl ⟨f161,[4,5,6,9,10],func161,c161⟩
  ·cases h;exact .inl ⟨f162,[],func162,c162⟩
  ·cases h;exact .inl ⟨f163,[],func163,c163⟩
  ·cases h;exact .inl ⟨f164,[],func164,c164⟩
  ·cases h;exact .inl ⟨f165,[],func165,c165⟩
  ·cases h;exact .inl ⟨f166,[],func166,c166⟩
  ·cases h;exact .inl ⟨f167,[],func167,c167⟩
  ·cases h;exact .inl ⟨f168,[],func168,c168⟩
  ·cases h;exact .inl ⟨f169,[],func169,c169⟩
  ·cases h;exact .inl ⟨f170,[2],func170,c170⟩
  ·cases h;exact .inl ⟨f171,[2],func171,c171⟩
  ·cases h;exact .inl ⟨f172,[2],func172,c172⟩
  ·cases h;exact .inl ⟨f173,[],func173,c173⟩
  ·cases h;exact .inl ⟨f174,[],func174,c174⟩
  ·cases h;exact .inl ⟨f175,[3],func175,c175⟩
  ·cases h;exact .inl ⟨f176,[],func176,c176⟩
  ·cases h;exact .inl ⟨f177,[],func177,c177⟩
  ·cases h;exact .inl ⟨f178,[2],func178,c178⟩
  ·cases h;exact .inl ⟨f179,[],func179,c179⟩
  ·cases h;exact .inl ⟨f180,[2],func180,c180⟩
  ·cases h;exact .inl ⟨f181,[],func181,c181⟩
  ·cases h;exact .inl ⟨f182,[],func182,c182⟩
  ·cases h;exact .inl ⟨f183,[2],func183,c183⟩
  ·cases h;exact .inl ⟨f184,[],func184,c184⟩
  ·cases h;exact .inl ⟨f185,[1],func185,c185⟩
  ·cases h;exact .inl ⟨f186,[3],func186,c186⟩
  ·cases h;exact .inl ⟨f187,[1,2],func187,c187⟩
  ·cases h;exact .inl ⟨f188,[1,2],func188,c188⟩
  ·cases h;exact .inl ⟨f189,[1,2],func189,c189⟩
  ·cases h;exact .inl ⟨f190,[],func190,c190⟩
  ·cases h;exact .inl ⟨f191,[2],func191,c191⟩
  ·cases h;exact .inl ⟨f192,[1],func192,c192⟩
  ·cases h;exact .inl ⟨f193,[1],func193,c193⟩
  ·cases h;exact .inl ⟨f194,[1],func194,c194⟩
  ·cases h;exact .inl ⟨f195,[],func195,c195⟩
  ·cases h;exact .inl ⟨f196,[],func196,c196⟩
  ·cases h;exact .inl ⟨f197,[],func197,c197⟩
  ·cases h;exact .inl ⟨f198,[],func198,c198⟩
  ·cases h;exact .inl ⟨f199,[],func199,c199⟩
  ·cases h;exact .inl ⟨f200,[],func200,c200⟩
  ·cases h;exact .inl ⟨f201,[2,3,4],func201,c201⟩
  ·cases h;exact .inl ⟨f202,[2,3,4],func202,c202⟩
  ·cases h;exact .inl ⟨f203,[2,3,4],func203,c203⟩
  ·cases h;exact .inl ⟨f204,[],func204,c204⟩
  ·cases h;exact .inl ⟨f205,[],func205,c205⟩
  ·cases h;exact .inl ⟨f206,[],func206,c206⟩
  ·cases h;exact .inl ⟨f207,[],func207,c207⟩
  ·cases h;exact .inl ⟨f208,[],func208,c208⟩
  ·cases h;exact .inl ⟨f209,[],func209,c209⟩
  ·cases h;exact .inl ⟨f210,[],func210,c210⟩
  ·cases h;exact .inl ⟨f211,[],func211,c211⟩
  ·cases h;exact .inl ⟨f212,[],func212,c212⟩
  ·cases h;exact .inl ⟨f213,[],func213,c213⟩
  ·cases h;exact .inr (search_ok lays_n25)
  ·cases h;exact .inr (insert_ok lays_n21)
  ·cases h;exact .inr (delete_ok lays_n23)
  ·cases h
 ·unfold tabA at h
  split at h
  ·cases h;exact .inl ⟨f10,[2,5,6,8],func10,c10⟩
  ·cases h;exact .inl ⟨f16,[1,2,3,6,8],func16,c16⟩
  ·cases h;exact .inl ⟨f18,[2,4,6,7,9,10,13,15,17],func18,c18⟩
  ·cases h;exact .inl ⟨f19,[2,3,7,8],func19,c19⟩
  ·cases h;exact .inl ⟨f20,[],func20,c20⟩
  ·cases h;exact .inl ⟨f21,[1],func21,c21⟩
  ·cases h;exact .inl ⟨f24,[2,4,6],func24,c24⟩
  ·cases h;exact .inl ⟨f26,[1,3],func26,c26⟩
  ·cases h;exact .inl ⟨f27,[2,3],func27,c27⟩
  ·cases h;exact .inl ⟨f29,[],func29,c29⟩
  ·cases h;exact .inl ⟨f30,[1,2],func30,c30⟩
  ·cases h;exact .inl ⟨f31,[2,4,8],func31,c31⟩
  ·cases h;exact .inl ⟨f32,[2,4,6,9,11,14,16],func32,c32⟩
  ·cases h;exact .inl ⟨f33,[1,3,5],func33,c33⟩
  ·cases h;exact .inl ⟨f34,[1,2,4,6],func34,c34⟩
  ·cases h;exact .inl ⟨f35,[1],func35,c35⟩
  ·cases h;exact .inl ⟨f36,[3,5,6,10,11],func36,c36⟩
  ·cases h;exact .inl ⟨f37,[5,6,8,11],func37,c37⟩
  ·cases h;exact .inl ⟨f38,[2,3],func38,c38⟩
  ·cases h;exact .inl ⟨f39,[0,1],func39,c39⟩
  ·cases h;exact .inl ⟨f40,[0,1],func40,c40⟩
  ·cases h;exact .inl ⟨f41,[1,2,3],func41,c41⟩
  ·cases h;exact .inl ⟨f42,[],func42,c42⟩
  ·cases h;exact .inl ⟨f43,[3],func43,c43⟩
  ·cases h;exact .inl ⟨f44,[4],func44,c44⟩
  ·cases h;exact .inl ⟨f45,[3,6,7],func45,c45⟩
  ·cases h;exact .inl ⟨f46,[3,6,7],func46,c46⟩
  ·cases h;exact .inl ⟨f47,[2,4,9,10],func47,c47⟩
  ·cases h;exact .inl ⟨f48,[2,4,7],func48,c48⟩
  ·cases h;exact .inl ⟨f49,[4,6,8,10],func49,c49⟩
  ·cases h;exact .inl ⟨f50,[1,2,3,6,8],func50,c50⟩
  ·cases h;exact .inl ⟨f51,[],func51,c51⟩
  ·cases h;exact .inl ⟨f52,[2,3],func52,c52⟩
  ·cases h;exact .inl ⟨f53,[],func53,c53⟩
  ·cases h;exact .inl ⟨f54,[1],func54,c54⟩
  ·cases h;exact .inl ⟨f55,[1],func55,c55⟩
  ·cases h;exact .inl ⟨f56,[],func56,c56⟩
  ·cases h;exact .inl ⟨f58,[1,5],func58,c58⟩
  ·cases h;exact .inl ⟨f59,[3],func59,c59⟩
  ·cases h;exact .inl ⟨f62,[1],func62,c62⟩
  ·cases h;exact .inl ⟨f63,[2,3],func63,c63⟩
  ·cases h;exact .inl ⟨f64,[2,3],func64,c64⟩
  ·cases h;exact .inl ⟨f65,[2,3],func65,c65⟩
  ·cases h;exact .inl ⟨f66,[],func66,c66⟩
  ·cases h;exact .inl ⟨f67,[1],func67,c67⟩
  ·cases h;exact .inl ⟨f68,[],func68,c68⟩
  ·cases h;exact .inl ⟨f70,[1],func70,c70⟩
  ·cases h;exact .inl ⟨f71,[],func71,c71⟩
  ·cases h;exact .inl ⟨f72,[],func72,c72⟩
  ·cases h;exact .inl ⟨f73,[1],func73,c73⟩
  ·cases h;exact .inl ⟨f74,[1],func74,c74⟩
  ·cases h;exact .inl ⟨f75,[1],func75,c75⟩
  ·cases h;exact .inl ⟨f76,[1],func76,c76⟩
  ·cases h;exact .inl ⟨f77,[1],func77,c77⟩
  ·cases h;exact .inl ⟨f78,[1],func78,c78⟩
  ·cases h;exact .inl ⟨f79,[1],func79,c79⟩
  ·cases h;exact .inl ⟨f80,[2,4,6],func80,c80⟩
  ·cases h;exact .inl ⟨f81,[4,8,11],func81,c81⟩
  ·cases h;exact .inl ⟨f82,[2,4,6],func82,c82⟩
  ·cases h;exact .inl ⟨f83,[3,6,8],func83,c83⟩
  ·cases h;exact .inl ⟨f84,[3,6],func84,c84⟩
  ·cases h;exact .inl ⟨f85,[2],func85,c85⟩
  ·cases h;exact .inl ⟨f86,[3],func86,c86⟩
  ·cases h;exact .inl ⟨f87,[1,2,3],func87,c87⟩
  ·cases h;exact .inl ⟨f88,[],func88,c88⟩
  ·cases h;exact .inl ⟨f89,[3],func89,c89⟩
  ·cases h;exact .inl ⟨f90,[3],func90,c90⟩
  ·cases h;exact .inl ⟨f91,[3],func91,c91⟩
  ·cases h;exact .inl ⟨f92,[],func92,c92⟩
  ·cases h;exact .inl ⟨f93,[2],func93,c93⟩
  ·cases h;exact .inl ⟨f94,[1,2],func94,c94⟩
  ·cases h;exact .inl ⟨f95,[1],func95,c95⟩
  ·cases h;exact .inl ⟨f96,[1,6],func96,c96⟩
  ·cases h;exact .inl ⟨f97,[1,5],func97,c97⟩
  ·cases h;exact .inl ⟨f98,[1,6],func98,c98⟩
  ·cases h;exact .inl ⟨f99,[3,6,9,10,12],func99,c99⟩
  ·cases h;exact .inl ⟨f100,[2,4,6],func100,c100⟩
  ·cases h;exact .inl ⟨f101,[],func101,c101⟩
  ·cases h;exact .inl ⟨f102,[1,2],func102,c102⟩
  ·cases h;exact .inl ⟨f103,[],func103,c103⟩
  ·cases h;exact .inl ⟨f104,[],func104,c104⟩
  ·cases h;exact .inl ⟨f105,[],func105,c105⟩
  ·cases h;exact .inl ⟨f106,[],func106,c106⟩
  ·cases h;exact .inl ⟨f107,[],func107,c107⟩
  ·cases h;exact .inl ⟨f108,[1],func108,c108⟩
  ·cases h;exact .inl ⟨f109,[],func109,c109⟩
  ·cases h;exact .inl ⟨f110,[],func110,c110⟩
  ·cases h;exact .inl ⟨f111,[],func111,c111⟩
  ·cases h;exact .inl ⟨f112,[],func112,c112⟩
  ·cases h;exact .inl ⟨f113,[],func113,c113⟩
  ·cases h;exact .inl ⟨f114,[],func114,c114⟩
  ·cases h;exact .inl ⟨f115,[],func115,c115⟩
  ·cases h;exact .inl ⟨f116,[],func116,c116⟩
  ·cases h;exact .inl ⟨f117,[3,10],func117,c117⟩
  ·cases h;exact .inl ⟨f118,[2,4,5,6],func118,c118⟩
  ·cases h;exact .inl ⟨f119,[],func119,c119⟩
  ·cases h

end Go.Ab
