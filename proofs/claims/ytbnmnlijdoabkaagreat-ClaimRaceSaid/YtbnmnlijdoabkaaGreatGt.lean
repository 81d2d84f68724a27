/-
  The table of the functions that are used here, and that it is the program's.
  Conditions: none.
-/
import Derived.Test.YtbnmnlijdoabkaaGreatGk0
import Derived.Test.YtbnmnlijdoabkaaGreatGb
import Derived.Test.YtbnmnlijdoabkaaGreatGy
import Derived.Test.YtbnmnlijdoabkaaGreatGl
namespace Go.Ab
open Go.Proofs.Tryz

def tab:FuncId→Option MFunc
 | 5=>some m5
 | 12=>some m12.p
 | 14=>some m14.p
 | 17=>some m17.p
 | 18=>some m18.p
 | 19=>some m19.p
 | 20=>some m20.p
 | 21=>some m21.p
 | 22=>some m22.p
 | 23=>some m23.p
 | 27=>some m27.p
 | 28=>some m28.p
 | 29=>some m29.p
 | 31=>some m31.p
 | 35=>some m35
 | 36=>some m36
 | 37=>some m37
 | 41=>some m41.p
 | 42=>some m42.p
 | 43=>some m43.p
 | 44=>some m44.p
 | 54=>some m54.p
 | 55=>some m55
 | 56=>some m56.p
 | 57=>some m57.p
 | 58=>some m58.p
 | 59=>some m59.p
 | 60=>some m60.p
 | 61=>some m61.p
 | 62=>some m62.p
 | 63=>some m63.p
 | 64=>some m64.p
 | 65=>some m65.p
 | 66=>some m66.p
 | 68=>some m68.p
 | 69=>some m69.p
 | 77=>some m77.p
 | 78=>some m78.p
 | 79=>some m79.p
 | 80=>some m80
 | 81=>some m81
 | 82=>some m82
 | 83=>some m83.p
 | 84=>some m84.p
 | 85=>some m85.p
 | 86=>some m86
 | 88=>some m88
 | 90=>some m90
 | 91=>some m91
 | 94=>some m94.p
 | 95=>some m95.p
 | 96=>some m96.p
 | 99=>some m99
 | 100=>some m100
 | 101=>some m101
 | 102=>some m102
 | 103=>some m103.p
 | 104=>some m104.p
 | 105=>some m105.p
 | 106=>some m106.p
 | 107=>some m107.p
 | 108=>some m108.p
 | 109=>some m109.p
 | 110=>some m110.p
 | 111=>some m111.p
 | 112=>some m112.p
 | 113=>some m113.p
 | 114=>some m114.p
 | 119=>some m119.p
 | 120=>some m120.p
 | 121=>some m121.p
 | 122=>some m122.p
 | 123=>some m123.p
 | 124=>some m124.p
 | 125=>some m125.p
 | 126=>some m126.p
 | 127=>some m127.p
 | 128=>some m128.p
 | 129=>some m129.b
 | 130=>some m130
 | 131=>some m131.p
 | 132=>some m132.p
 | 133=>some m133.p
 | 134=>some m134.p
 | 135=>some m135.p
 | 136=>some m136.p
 | 137=>some m137.p
 | 138=>some m138.p
 | 139=>some m139.p
 | 140=>some m140.p
 | 141=>some m141.p
 | 145=>some m145.p
 | 146=>some m146.p
 | 147=>some m147.p
 | 148=>some m148.p
 | 149=>some m149.p
 | 150=>some m150.p
 | 151=>some m151.p
 | 152=>some m152.p
 | 153=>some m153.p
 | 154=>some m154.p
 | 155=>some m155
 | 156=>some m156.b
 | 157=>some m157
 | 158=>some m158.p
 | 159=>some m159.b
 | 160=>some m160
 | 161=>some m161.p
 | 162=>some m162.p
 | 163=>some m163.p
 | 164=>some m164.p
 | 165=>some m165.p
 | 166=>some m166.p
 | 167=>some m167.p
 | 168=>some m168.p
 | 169=>some m169.p
 | 170=>some m170.p
 | 171=>some m171.p
 | 173=>some m173.p
 | 174=>some m174.p
 | 175=>some m175.p
 | 176=>some m176.p
 | 177=>some m177.p
 | 178=>some m178.p
 | 179=>some m179.p
 | 180=>some m180.p
 | 181=>some m181.p
 | 182=>some m182.p
 | 183=>some m183.p
 | 184=>some m184.p
 | 185=>some m185.p
 | 186=>some m186.p
 | 187=>some m187.p
 | 188=>some m188.p
 | 189=>some m189.p
 | 190=>some m190.p
 | 191=>some m191.p
 | 192=>some m192.p
 | 193=>some m193.p
 | 194=>some m194.p
 | 195=>some m195.p
 | 196=>some m196.p
 | 197=>some m197.p
 | 198=>some m198.p
 | 199=>some m199.p
 | 200=>some m200.p
 | 201=>some m201.p
 | 202=>some m202.p
 | 203=>some m203.p
 | 204=>some m204.p
 | 205=>some m205.p
 | 206=>some m206.p
 | 207=>some m207.p
 | 208=>some m208
 | 209=>some m209
 | 210=>some m210.p
 | 211=>some m211
 | 212=>some m212
 | 213=>some m213.p
 | 214=>some m214.p
 | 215=>some m215.p
 | 216=>some growF
 | 217=>some bsF
 | 218=>some insF
 | 219=>some delF
 | 220=>some m220.p
 | _=>none

set_option maxRecDepth 100000 in
set_option maxHeartbeats 0 in
theorem tab_faithful:Faithful prog tab:=by
 refine⟨by kernel_rfl,fun f F h=>?_⟩
 unfold tab at h
 split at h
 ·cases h;exact .inl ⟨f5,[5,9,11,13,15],func5,c5⟩
 ·cases h;exact .inl ⟨f12,[2,4,6,9,11,90],func12,c12⟩
 ·cases h;exact .inl ⟨f14,[],func14,c14⟩
 ·cases h;exact .inl ⟨f17,[1,3,5,7],func17,c17⟩
 ·cases h;exact .inl ⟨f18,[2,3],func18,c18⟩
 ·cases h;exact .inl ⟨f19,[2,4],func19,c19⟩
 ·cases h;exact .inl ⟨f20,[2,4,6],func20,c20⟩
 ·cases h;exact .inl ⟨f21,[2,4,7],func21,c21⟩
 ·cases h;exact .inl ⟨f22,[0,1],func22,c22⟩
 ·cases h;exact .inl ⟨f23,[1,3],func23,c23⟩
 ·cases h;exact .inl ⟨f27,[1,2,4,6],func27,c27⟩
 ·cases h;exact .inl ⟨f28,[1],func28,c28⟩
 ·cases h;exact .inl ⟨f29,[3,5,6,10,11],func29,c29⟩
 ·cases h;exact .inl ⟨f31,[5,6,8,11],func31,c31⟩
 ·cases h;exact .inl ⟨f35,[],func35,c35⟩
 ·cases h;exact .inl ⟨f36,[],func36,c36⟩
 ·cases h;exact .inl ⟨f37,[],func37,c37⟩
 ·cases h;exact .inl ⟨f41,[4],func41,c41⟩
 ·cases h;exact .inl ⟨f42,[1,2,3,6,8],func42,c42⟩
 ·cases h;exact .inl ⟨f43,[3,6,7],func43,c43⟩
 ·cases h;exact .inl ⟨f44,[3,6],func44,c44⟩
 ·cases h;exact .inl ⟨f54,[0,1],func54,c54⟩
 ·cases h;exact .inl ⟨f55,[3],func55,c55⟩
 ·cases h;exact .inl ⟨f56,[1,5],func56,c56⟩
 ·cases h;exact .inl ⟨f57,[3],func57,c57⟩
 ·cases h;exact .inl ⟨f58,[2,4,6,10,11,14,16,17],func58,c58⟩
 ·cases h;exact .inl ⟨f59,[2,4,6,9,11,14,16],func59,c59⟩
 ·cases h;exact .inl ⟨f60,[0,1],func60,c60⟩
 ·cases h;exact .inl ⟨f61,[1],func61,c61⟩
 ·cases h;exact .inl ⟨f62,[2,3],func62,c62⟩
 ·cases h;exact .inl ⟨f63,[2,3],func63,c63⟩
 ·cases h;exact .inl ⟨f64,[2,3],func64,c64⟩
 ·cases h;exact .inl ⟨f65,[],func65,c65⟩
 ·cases h;exact .inl ⟨f66,[1],func66,c66⟩
 ·cases h;exact .inl ⟨f68,[2],func68,c68⟩
 ·cases h;exact .inl ⟨f69,[1],func69,c69⟩
 ·cases h;exact .inl ⟨f77,[3],func77,c77⟩
 ·cases h;exact .inl ⟨f78,[1,2,3],func78,c78⟩
 ·cases h;exact .inl ⟨f79,[],func79,c79⟩
 ·cases h;exact .inl ⟨f80,[3],func80,c80⟩
 ·cases h;exact .inl ⟨f81,[3],func81,c81⟩
 ·cases h;exact .inl ⟨f82,[3],func82,c82⟩
 ·cases h;exact .inl ⟨f83,[],func83,c83⟩
 ·cases h;exact .inl ⟨f84,[2],func84,c84⟩
 ·cases h;exact .inl ⟨f85,[1,2],func85,c85⟩
 ·cases h;exact .inl ⟨f86,[],func86,c86⟩
 ·cases h;exact .inl ⟨f88,[],func88,c88⟩
 ·cases h;exact .inl ⟨f90,[],func90,c90⟩
 ·cases h;exact .inl ⟨f91,[],func91,c91⟩
 ·cases h;exact .inl ⟨f94,[1,2],func94,c94⟩
 ·cases h;exact .inl ⟨f95,[3,6,9,10,12],func95,c95⟩
 ·cases h;exact .inl ⟨f96,[2,4,5,6],func96,c96⟩
 ·cases h;exact .inl ⟨f99,[1],func99,c99⟩
 ·cases h;exact .inl ⟨f100,[1,6],func100,c100⟩
 ·cases h;exact .inl ⟨f101,[1,5],func101,c101⟩
 ·cases h;exact .inl ⟨f102,[1,6],func102,c102⟩
 ·cases h;exact .inl ⟨f103,[],func103,c103⟩
 ·cases h;exact .inl ⟨f104,[],func104,c104⟩
 ·cases h;exact .inl ⟨f105,[],func105,c105⟩
 ·cases h;exact .inl ⟨f106,[],func106,c106⟩
 ·cases h;exact .inl ⟨f107,[],func107,c107⟩
 ·cases h;exact .inl ⟨f108,[3,6,7],func108,c108⟩
 ·cases h;exact .inl ⟨f109,[4,8,11],func109,c109⟩
 ·cases h;exact .inl ⟨f110,[3,6,8],func110,c110⟩
 ·cases h;exact .inl ⟨f111,[2,4,6],func111,c111⟩
 ·cases h;exact .inl ⟨f112,[2,4,6],func112,c112⟩
 ·cases h;exact .inl ⟨f113,[2,4,6,7,9,10,13,15,17],func113,c113⟩
 ·cases h;exact .inl ⟨f114,[1],func114,c114⟩
 ·cases h;exact .inl ⟨f119,[],func119,c119⟩
 ·cases h;exact .inl ⟨f120,[],func120,c120⟩
 ·cases h;exact .inl ⟨f121,[],func121,c121⟩
 ·cases h;exact .inl ⟨f122,[2],func122,c122⟩
 ·cases h;exact .inl ⟨f123,[7],func123,c123⟩
 ·cases h;exact .inl ⟨f124,[1,2],func124,c124⟩
 ·cases h;exact .inl ⟨f125,[7],func125,c125⟩
 ·cases h;exact .inl ⟨f126,[1,2],func126,c126⟩
 ·cases h;exact .inl ⟨f127,[7],func127,c127⟩
 ·cases h;exact .inl ⟨f128,[1,2],func128,c128⟩
 ·cases h;exact .inl ⟨f129,[],func129,c129⟩
 ·cases h;exact .inl ⟨f130,[8,10],func130,c130⟩
 ·cases h;exact .inl ⟨f131,[4,5,6,9,10],func131,c131⟩
 ·cases h;exact .inl ⟨f132,[],func132,c132⟩
 ·cases h;exact .inl ⟨f133,[2,4,6],func133,c133⟩
 ·cases h;exact .inl ⟨f134,[],func134,c134⟩
 ·cases h;exact .inl ⟨f135,[2,4,8],func135,c135⟩
 ·cases h;exact .inl ⟨f136,[6,8,10],func136,c136⟩
 ·cases h;exact .inl ⟨f137,[3,10],func137,c137⟩
 ·cases h;exact .inl ⟨f138,[2,4,9,10],func138,c138⟩
 ·cases h;exact .inl ⟨f139,[2,4,7],func139,c139⟩
 ·cases h;exact .inl ⟨f140,[4,6,8,10],func140,c140⟩
 ·cases h;exact .inl ⟨f141,[],func141,c141⟩
 ·cases h;exact .inl ⟨f145,[1],func145,c145⟩
 ·cases h;exact .inl ⟨f146,[],func146,c146⟩
 ·cases h;exact .inl ⟨f147,[3],func147,c147⟩
 ·cases h;exact .inl ⟨f148,[3],func148,c148⟩
 ·cases h;exact .inl ⟨f149,[4],func149,c149⟩
 ·cases h;exact .inl ⟨f150,[],func150,c150⟩
 ·cases h;exact .inl ⟨f151,[],func151,c151⟩
 ·cases h;exact .inl ⟨f152,[2,3],func152,c152⟩
 ·cases h;exact .inl ⟨f153,[],func153,c153⟩
 ·cases h;exact .inl ⟨f154,[2,3],func154,c154⟩
 ·cases h;exact .inl ⟨f155,[],func155,c155⟩
 ·cases h;exact .inl ⟨f156,[],func156,c156⟩
 ·cases h;exact .inl ⟨f157,[],func157,c157⟩
 ·cases h;exact .inl ⟨f158,[1,2],func158,c158⟩
 ·cases h;exact .inl ⟨f159,[],func159,c159⟩
 ·cases h;exact .inl ⟨f160,[],func160,c160⟩
 ·cases h;exact .inl ⟨f161,[4,6],func161,c161⟩
 ·cases h;exact .inl ⟨f162,[],func162,c162⟩
 ·cases h;exact .inl ⟨f163,[1,2],func163,c163⟩
 ·cases h;exact .inl ⟨f164,[1,2],func164,c164⟩
 ·cases h;exact .inl ⟨f165,[1,2],func165,c165⟩
 ·cases h;exact .inl ⟨f166,[],func166,c166⟩
 ·cases h;exact .inl ⟨f167,[1],func167,c167⟩
 ·cases h;exact .inl ⟨f168,[],func168,c168⟩
 ·cases h;exact .inl ⟨f169,[],func169,c169⟩
 ·cases h;exact .inl ⟨f170,[],func170,c170⟩
 ·cases h;exact .inl ⟨f171,[2,4,6],func171,c171⟩
 ·cases h;exact .inl ⟨f173,[],func173,c173⟩
 ·cases h;exact .inl ⟨f174,[],func174,c174⟩
 ·cases h;exact .inl ⟨f175,[],func175,c175⟩
 ·cases h;exact .inl ⟨f176,[2],func176,c176⟩
 ·cases h;exact .inl ⟨f177,[2],func177,c177⟩
 ·cases h;exact .inl ⟨f178,[2],func178,c178⟩
 ·cases h;exact .inl ⟨f179,[],func179,c179⟩
 ·cases h;exact .inl ⟨f180,[],func180,c180⟩
 ·cases h;exact .inl ⟨f181,[3],func181,c181⟩
 ·cases h;exact .inl ⟨f182,[],func182,c182⟩
 ·cases h;exact .inl ⟨f183,[],func183,c183⟩
 ·cases h;exact .inl ⟨f184,[2],func184,c184⟩
 ·cases h;exact .inl ⟨f185,[],func185,c185⟩
 ·cases h;exact .inl ⟨f186,[2],func186,c186⟩
 ·cases h;exact .inl ⟨f187,[],func187,c187⟩
 ·cases h;exact .inl ⟨f188,[],func188,c188⟩
 ·cases h;exact .inl ⟨f189,[2],func189,c189⟩
 ·cases h;exact .inl ⟨f190,[3],func190,c190⟩
 ·cases h;exact .inl ⟨f191,[2,3,4],func191,c191⟩
 ·cases h;exact .inl ⟨f192,[2,3,4],func192,c192⟩
 ·cases h;exact .inl ⟨f193,[2,3,4],func193,c193⟩
 ·cases h;exact .inl ⟨f194,[],func194,c194⟩
 ·cases h;exact .inl ⟨f195,[1],func195,c195⟩
 ·cases h;exact .inl ⟨f196,[],func196,c196⟩
 ·cases h;exact .inl ⟨f197,[2],func197,c197⟩
 ·cases h;exact .inl ⟨f198,[1],func198,c198⟩
 ·cases h;exact .inl ⟨f199,[1],func199,c199⟩
 ·cases h;exact .inl ⟨f200,[1],func200,c200⟩
 ·cases h;exact .inl ⟨f201,[],func201,c201⟩
 ·cases h;exact .inl ⟨f202,[],func202,c202⟩
 ·cases h;exact .inl ⟨f203,[],func203,c203⟩
 ·cases h;exact .inl ⟨f204,[],func204,c204⟩
 ·cases h;exact .inl ⟨f205,[],func205,c205⟩
 ·cases h;exact .inl ⟨f206,[],func206,c206⟩
 ·cases h;exact .inl ⟨f207,[],func207,c207⟩
 ·cases h;exact .inl ⟨f208,[],func208,c208⟩
 ·cases h;exact .inl ⟨f209,[],func209,c209⟩
 ·cases h;exact .inl ⟨f210,[],func210,c210⟩
 ·cases h;exact .inl ⟨f211,[],func211,c211⟩
 ·cases h;exact .inl ⟨f212,[],func212,c212⟩
 ·cases h;exact .inl ⟨f213,[],func213,c213⟩
 ·cases h;exact .inl ⟨f214,[],func214,c214⟩
 ·cases h;exact .inl ⟨f215,[],func215,c215⟩
 ·cases h;exact .inr (grow_lay)
 ·cases h;exact .inr (search_ok lays_n25)
 ·cases h;exact .inr (insert_ok lays_n21)
 ·cases h;exact .inr (delete_ok lays_n23)
 ·cases h;exact .inl ⟨f220,[],func220,c220⟩
 ·cases h

end Go.Ab
