import PyProof.Rows.All
import Wide.All
import OpenK.AllK
import Wide.FinOn
import PyProof.Rows.Many
import PyProof.Rows.Tup
import PyProof.DictList
import PyProof.DictKinds
import PyProof.RangeIter
import PyProof.Ns1
import PyProof.TupleOps
import OpenK.KLine
import PyProof.TupleKey
import PyProof.DictRoadsH
import PyProof.P3Eq
import PyProof.Rows.StrRules
import PyProof.Rows.RuleB_mul
import PyProof.Rows.RuleB_mod
import PyProof.Rows.RuleB_floordiv
import PyProof.Rows.RuleB_sub
import PyProof.Rows.RuleC_int
import PyProof.Rows.IntRules
import PyProof.EqKinds
import PyProof.EqAt
import PyProof.StrBlock2
import PyProof.P3In
import PyProof.NeData
import PyProof.IsRules
import PyProof.NeKinds
import PyProof.DictRoads
import PyProof.ListTruth
import OpenK.KOwn
import PyProof.Rows.TupSub
import PyProof.Rows.StrTemp
import PyProof.Rules2
import PyProof.Rules3
import PyProof.Truth
import PyProof.Rows.TupMore
import PyProof.RulesDelMore
import PyProof.RulesAssignMore
import PyProof.IsiPairs
import PyProof.IsiHeapPairs
import PyProof.CallFns
import PyProof.ListIndexNeg
import PyProof.DictTruth
import PyProof.Methods
import PyProof.RaisesMany
import PyProof.Cells
import PyProof.WalksPairs
import PyProof.StrLoop
import PyProof.TupleIter
import PyProof.StrWalks
import PyProof.RangeFor
import PyProof.Rows.TupIter
import PyProof.Rows.MatchSeqLen
import KE.KRevIter
import PyProof.CallRoads
import PyProof.PureCalls
import PyProof.FactsAll.list
import PyProof.FactsAll.dict
import PyProof.FactsAll.str
import PyProof.Rows.AttrNodeAny
import PyProof.AssignAttr
import PyProof.CompFree
import PyProof.WalksMore
import PyProof.ListOps
import PyProof.CompMap
import PyProof.IsiNone
import PyProof.ListCopy
import PyProof.WalkInts
import PyProof.ConsumeWalk
import PyProof.Rows.SortStr
import PyProof.StrCalls2
import PyProof.MeetsSeq
import PyProof.AutoSeq1
import PyProof.Rows.SortWalk
import PyProof.Rows.StrWeight2
import PyProof.SliceStr2
import PyProof.StrBlockI
import PyProof.Rows.TupAssign
import PyProof.StrCalls
import PyProof.ExcClass2
import PyProof.ExcBaseAll.ValueError
import KE.KIsAll
import PyProof.ExcArgsOwn
import PyProof.ExcAttrAll.ValueError
import PyProof.NsDelKeeps
import PyProof.Rows.CatchOwn
import PyProof.SliceMore
import PySem.Challenge.RW_uf010010_12
name_quick tw16552371740841163896 for PySem.W.S.modZ by PySem.W.S.modZ_eq
name_quick tw9738689963614402583 for PySem.W.S.modZ by PySem.W.S.modZ_eq
name_quick tw11385860002913627020 for PySem.W.S.modZ by PySem.W.S.modZ_eq
name_quick tw12248902589138874401 for PySem.W.S.modZ by PySem.W.S.modZ_eq
name_quick tw2858026815164379310 for PySem.W.S.modZ by PySem.W.S.modZ_eq
name_quick tw14339332353250930685 for PySem.W.S.modZ by PySem.W.S.modZ_eq
name_quick tw1147744346025955218 for PySem.W.S.modZ by PySem.W.S.modZ_eq
name_quick tw2971243116546758889 for PySem.W.S.modZ by PySem.W.S.modZ_eq
name_quick tw139834810065880226 for PySem.W.S.modZ by PySem.W.S.modZ_eq
name_quick tw13773874488989974885 for PySem.W.S.modZ by PySem.W.S.modZ_eq
name_quick tw13359465925925577742 for PySem.W.S.modZ by PySem.W.S.modZ_eq
name_quick tw4686942398796783221 for PySem.W.S.modZ by PySem.W.S.modZ_eq
name_quick tw6690367982851130505 for PySem.W.S.modZ by PySem.W.S.modZ_eq
name_quick tw15673430617007702656 for PySem.W.S.modZ by PySem.W.S.modZ_eq
name_quick tw311757580850990720 for PySem.W.S.modZ by PySem.W.S.modZ_eq
name_quick tw2444126684271451928 for PySem.W.S.modZ by PySem.W.S.modZ_eq
name_quick tw8639942004573123215 for PySem.W.S.modZ by PySem.W.S.modZ_eq
name_quick tw18382063356462069413 for PySem.W.S.modZ by PySem.W.S.modZ_eq
name_quick tw6286821043928887484 for PySem.W.S.modZ by PySem.W.S.modZ_eq
name_quick tw11017327072978997913 for PySem.W.S.modZ by PySem.W.S.modZ_eq
name_quick tw15112996018455948115 for PySem.W.S.modZ by PySem.W.S.modZ_eq
name_quick tw6242089732330593800 for PySem.W.S.modZ by PySem.W.S.modZ_eq
name_quick tw2516959496205637442 for PySem.W.S.modZ by PySem.W.S.modZ_eq
name_quick tw5555711491321597773 for PySem.W.S.modZ by PySem.W.S.modZ_eq
name_quick tw3697708674073005314 for PySem.W.S.modZ by PySem.W.S.modZ_eq
name_quick tw4289492168585077861 for PySem.W.S.modZ by PySem.W.S.modZ_eq
name_quick tw17363315172789328519 for PySem.W.S.modZ by PySem.W.S.modZ_eq
name_quick tw13587661847883014461 for PySem.W.S.modZ by PySem.W.S.modZ_eq
name_quick tw10137103724191787670 for PySem.W.S.modZ by PySem.W.S.modZ_eq
name_quick tw8359396820021374683 for PySem.W.S.modZ by PySem.W.S.modZ_eq
name_quick tw1825158632964162846 for PySem.W.S.modZ by PySem.W.S.modZ_eq
name_quick tw16104438009461325519 for PySem.W.S.modZ by PySem.W.S.modZ_eq
name_quick tw6009393858940935393 for PySem.W.S.modZ by PySem.W.S.modZ_eq
name_quick tw9121400733331405293 for PySem.W.S.modZ by PySem.W.S.modZ_eq
name_quick tw10718067776196114847 for PySem.W.S.modZ by PySem.W.S.modZ_eq
name_quick tw10475594397376412347 for PySem.W.S.modZ by PySem.W.S.modZ_eq
name_quick tw4898290690042382604 for PySem.W.S.modZ by PySem.W.S.modZ_eq
name_quick tw578812420988462706 for PySem.W.S.modZ by PySem.W.S.modZ_eq
name_quick tw1437277215549393968 for PySem.W.S.modZ by PySem.W.S.modZ_eq
name_quick tw15710206963242987496 for PySem.W.S.modZ by PySem.W.S.modZ_eq
name_quick tw5474348739553275344 for PySem.W.S.modZ by PySem.W.S.modZ_eq
name_quick tw7819209376430594917 for PySem.W.S.modZ by PySem.W.S.modZ_eq
name_quick tw12354151482211417954 for PySem.W.S.modZ by PySem.W.S.modZ_eq
name_quick tw575876855800817238 for PySem.W.S.modZ by PySem.W.S.modZ_eq
name_quick tw2462169579055190468 for PySem.W.S.modZ by PySem.W.S.modZ_eq
name_quick tw4474885355786545824 for PySem.W.S.modZ by PySem.W.S.modZ_eq
name_quick tw12428816136542176906 for PySem.W.S.modZ by PySem.W.S.modZ_eq
name_quick tw10819969360332343389 for PySem.W.S.modZ by PySem.W.S.modZ_eq
name_quick tw3011355326241260073 for PySem.W.S.modZ by PySem.W.S.modZ_eq
name_quick tw12586965802430001583 for PySem.W.S.modZ by PySem.W.S.modZ_eq
name_quick tw13612728042826518343 for PySem.W.S.modZ by PySem.W.S.modZ_eq
name_quick tw16302313657482423503 for PySem.W.S.modZ by PySem.W.S.modZ_eq
name_quick tw15178405923636148572 for PySem.W.S.modZ by PySem.W.S.modZ_eq
name_quick tw2678338221041955 for PySem.W.S.modZ by PySem.W.S.modZ_eq
name_quick tw13293385689212499428 for PySem.W.S.modZ by PySem.W.S.modZ_eq
name_quick tw10432877447976394823 for PySem.W.S.modZ by PySem.W.S.modZ_eq
name_quick tw335812489056154217 for PySem.W.S.modZ by PySem.W.S.modZ_eq
name_quick tw5526416763593966336 for PySem.W.S.modZ by PySem.W.S.modZ_eq
name_quick tw12827938302272258093 for PySem.W.S.modZ by PySem.W.S.modZ_eq
name_quick tw1879477166589832193 for PySem.W.S.modZ by PySem.W.S.modZ_eq
name_quick tw3960881315382035355 for PySem.W.S.modZ by PySem.W.S.modZ_eq
name_quick tw11345634166512069403 for PySem.W.S.modZ by PySem.W.S.modZ_eq
name_quick tw16310727294926944679 for PySem.W.S.modZ by PySem.W.S.modZ_eq
name_quick tw13636285640480781462 for PySem.W.S.modZ by PySem.W.S.modZ_eq
name_quick tw2331098442336831367 for PySem.W.S.modZ by PySem.W.S.modZ_eq
name_quick tw8688309468522248792 for PySem.W.S.modZ by PySem.W.S.modZ_eq
name_quick tw5298781291149062096 for PySem.W.S.modZ by PySem.W.S.modZ_eq
name_quick tw4008495522618377347 for PySem.W.S.modZ by PySem.W.S.modZ_eq
name_quick tw7774692445928621744 for PySem.W.S.modZ by PySem.W.S.modZ_eq
name_quick tw2314061253163191970 for PySem.W.S.modZ by PySem.W.S.modZ_eq
name_quick tw7135531912384964608 for PySem.W.S.modZ by PySem.W.S.modZ_eq
name_quick tw15578490788549915571 for PySem.W.S.modZ by PySem.W.S.modZ_eq
name_quick tw5541574118851378787 for PySem.W.S.modZ by PySem.W.S.modZ_eq
name_quick tw16239625835049684709 for PySem.W.S.modZ by PySem.W.S.modZ_eq
name_quick tw13939536587859713492 for PySem.W.S.modZ by PySem.W.S.modZ_eq
name_quick tw17505735434167774354 for PySem.W.S.modZ by PySem.W.S.modZ_eq
name_quick tw2248026073972965209 for PySem.W.S.modZ by PySem.W.S.modZ_eq
name_quick tw9655176581180797124 for PySem.W.S.modZ by PySem.W.S.modZ_eq
name_quick tw5791682562251214214 for PySem.W.S.modZ by PySem.W.S.modZ_eq
name_quick tw14478942451785696374 for PySem.W.S.modZ by PySem.W.S.modZ_eq
name_quick tw5001770058139454102 for PySem.W.S.modZ by PySem.W.S.modZ_eq
name_quick tw3007068615404048180 for PySem.W.S.modZ by PySem.W.S.modZ_eq
name_quick tw2834549586509890901 for PySem.W.S.modZ by PySem.W.S.modZ_eq
name_quick tw8512060093551716683 for PySem.W.S.modZ by PySem.W.S.modZ_eq
name_quick tw11388073614977588608 for PySem.W.S.modZ by PySem.W.S.modZ_eq
name_quick tw15071986413877998181 for PySem.W.S.modZ by PySem.W.S.modZ_eq
name_quick tw12184882572590766251 for PySem.W.S.modZ by PySem.W.S.modZ_eq
name_quick tw8710723153378768142 for PySem.W.S.modZ by PySem.W.S.modZ_eq
name_quick tw5465628152422337976 for PySem.W.S.modZ by PySem.W.S.modZ_eq
name_quick tw16919135932723750274 for PySem.W.S.modZ by PySem.W.S.modZ_eq
name_quick tw3969764664116941565 for PySem.W.S.modZ by PySem.W.S.modZ_eq
name_quick tw10860524578732880696 for PySem.W.S.modZ by PySem.W.S.modZ_eq
name_quick tw234930898270785151 for PySem.W.S.modZ by PySem.W.S.modZ_eq
name_quick tw11503799058341559385 for PySem.W.S.modZ by PySem.W.S.modZ_eq
name_quick tw145883261883195848 for PySem.W.S.modZ by PySem.W.S.modZ_eq
name_quick tw6151530098729182364 for PySem.W.S.modZ by PySem.W.S.modZ_eq
name_quick tw14332961096982136777 for PySem.W.S.modZ by PySem.W.S.modZ_eq
name_quick tw16190169978576800595 for PySem.W.S.modZ by PySem.W.S.modZ_eq
name_quick tw15462330429514375579 for PySem.W.S.modZ by PySem.W.S.modZ_eq
name_quick tw5411598592661351293 for PySem.W.S.modZ by PySem.W.S.modZ_eq
name_quick tw5196402800664805842 for PySem.W.S.modZ by PySem.W.S.modZ_eq
name_quick tw11169863471372275073 for PySem.W.S.modZ by PySem.W.S.modZ_eq
name_quick tw11560509494638457160 for PySem.W.S.modZ by PySem.W.S.modZ_eq
name_quick tw1329509384383116004 for PySem.W.S.modZ by PySem.W.S.modZ_eq
name_quick tw5401142258452017482 for PySem.W.S.modZ by PySem.W.S.modZ_eq
name_quick tw8809691598626290379 for PySem.W.S.modZ by PySem.W.S.modZ_eq
name_quick tw7927298690225200003 for PySem.W.S.modZ by PySem.W.S.modZ_eq
name_quick tw5946755696846082377 for PySem.W.S.modZ by PySem.W.S.modZ_eq
name_quick tw15935837400395133238 for PySem.W.S.modZ by PySem.W.S.modZ_eq
name_quick tw15689951849195946990 for PySem.W.S.modZ by PySem.W.S.modZ_eq
name_quick tw4279487034945605065 for PySem.W.S.modZ by PySem.W.S.modZ_eq
name_quick tw11871994560180845758 for PySem.W.S.modZ by PySem.W.S.modZ_eq
name_quick tw10788544079311068973 for PySem.W.S.modZ by PySem.W.S.modZ_eq
name_quick tw5587104362120353303 for PySem.W.S.modZ by PySem.W.S.modZ_eq
name_quick tw17243518802359250507 for PySem.W.S.modZ by PySem.W.S.modZ_eq
name_quick tw595255414483999339 for PySem.W.S.modZ by PySem.W.S.modZ_eq
name_quick tw12986353424854227351 for PySem.W.S.modZ by PySem.W.S.modZ_eq
name_quick tw9713246034529869209 for PySem.W.S.modZ by PySem.W.S.modZ_eq
name_quick tw2518331329379100508 for PySem.W.S.modZ by PySem.W.S.modZ_eq
name_quick tw14505262064704085843 for PySem.W.S.modZ by PySem.W.S.modZ_eq
name_quick tw13536990464117635318 for PySem.W.S.modZ by PySem.W.S.modZ_eq
name_quick tw6574368537758785457 for PySem.W.S.modZ by PySem.W.S.modZ_eq
name_quick tw14439496277282744118 for PySem.W.S.modZ by PySem.W.S.modZ_eq
name_quick tw6485681546931664090 for PySem.W.S.modZ by PySem.W.S.modZ_eq
name_quick tw4592564146462630474 for PySem.W.S.modZ by PySem.W.S.modZ_eq
name_quick tw11245272926376036769 for PySem.W.S.modZ by PySem.W.S.modZ_eq
name_quick tw8908452369543883217 for PySem.W.S.modZ by PySem.W.S.modZ_eq
name_quick tw13288317583150405370 for PySem.W.S.modZ by PySem.W.S.modZ_eq
name_quick tw2013075655349495664 for PySem.W.S.modZ by PySem.W.S.modZ_eq
name_quick tw3486497823042481939 for PySem.W.S.modZ by PySem.W.S.modZ_eq
name_quick tw2609791499287796747 for PySem.W.S.modZ by PySem.W.S.modZ_eq
name_quick tw17425708499121433755 for PySem.W.S.modZ by PySem.W.S.modZ_eq
name_quick tw7853587836687243451 for PySem.W.S.modZ by PySem.W.S.modZ_eq
name_quick tw14400906145534740256 for PySem.W.S.modZ by PySem.W.S.modZ_eq
name_quick tw662995533751614971 for PySem.W.S.modZ by PySem.W.S.modZ_eq
name_quick tw15652255632657685548 for PySem.W.S.modZ by PySem.W.S.modZ_eq
name_quick tw7154205405980564495 for PySem.W.S.modZ by PySem.W.S.modZ_eq
name_quick tw12708505222752009212 for PySem.W.S.modZ by PySem.W.S.modZ_eq
name_quick tw3479092954185050922 for PySem.W.S.modZ by PySem.W.S.modZ_eq
name_quick tw554324230703872450 for PySem.W.S.modZ by PySem.W.S.modZ_eq
name_quick tw1965207102497147200 for PySem.W.S.modZ by PySem.W.S.modZ_eq
name_quick tw8698851210891393313 for PySem.W.S.modZ by PySem.W.S.modZ_eq
name_quick tw14051947987168692279 for PySem.W.S.modZ by PySem.W.S.modZ_eq
name_quick tw4223117664739954208 for PySem.W.S.modZ by PySem.W.S.modZ_eq
name_quick tw10564172974683705474 for PySem.W.S.modZ by PySem.W.S.modZ_eq
name_quick tw8565919226513618267 for PySem.W.S.modZ by PySem.W.S.modZ_eq
name_quick tw14976611462101414870 for PySem.W.S.modZ by PySem.W.S.modZ_eq
name_quick tw16906811823525741874 for PySem.W.S.modZ by PySem.W.S.modZ_eq
name_quick tw11419544925291669868 for PySem.W.S.modZ by PySem.W.S.modZ_eq
name_quick tw9470827009416032738 for PySem.W.S.modZ by PySem.W.S.modZ_eq
name_quick tw8513383821014874246 for PySem.W.S.modZ by PySem.W.S.modZ_eq
name_quick tw9578307156705507989 for PySem.W.S.modZ by PySem.W.S.modZ_eq
name_quick tw6146622044457054114 for PySem.W.S.modZ by PySem.W.S.modZ_eq
name_quick tw9897392048377400135 for PySem.W.S.modZ by PySem.W.S.modZ_eq
name_quick tw17597843812189085699 for PySem.W.S.modZ by PySem.W.S.modZ_eq
name_quick tw8069649831002588540 for PySem.W.S.modZ by PySem.W.S.modZ_eq
name_quick tw9614080564767142802 for PySem.W.S.modZ by PySem.W.S.modZ_eq
name_quick tw1527431582151239173 for PySem.W.S.modZ by PySem.W.S.modZ_eq
name_quick tw15315241610646892148 for PySem.W.S.modZ by PySem.W.S.modZ_eq
name_quick tw2319750001345521196 for PySem.W.S.modZ by PySem.W.S.modZ_eq
name_quick tw9068590817191021466 for PySem.W.S.modZ by PySem.W.S.modZ_eq
name_quick tw638602738822514700 for PySem.W.S.modZ by PySem.W.S.modZ_eq
name_quick tw5573859356195171908 for PySem.W.S.modZ by PySem.W.S.modZ_eq
name_quick tw4323654199583304815 for PySem.W.S.modZ by PySem.W.S.modZ_eq
name_quick tw14748655461843274058 for PySem.W.S.modZ by PySem.W.S.modZ_eq
name_quick tw7903341913806146350 for PySem.W.S.modZ by PySem.W.S.modZ_eq
name_quick tw1848362671229450143 for PySem.W.S.modZ by PySem.W.S.modZ_eq
name_quick tw14178987804876222067 for PySem.W.S.modZ by PySem.W.S.modZ_eq
name_quick tw4606979962468508569 for PySem.W.S.modZ by PySem.W.S.modZ_eq
name_quick tw8948151675749807919 for PySem.W.S.modZ by PySem.W.S.modZ_eq
name_quick tw11096810955333296564 for PySem.W.S.modZ by PySem.W.S.modZ_eq
name_quick tw2186127640391776101 for PySem.W.S.modZ by PySem.W.S.modZ_eq
name_quick tw13801855417684195906 for PySem.W.S.modZ by PySem.W.S.modZ_eq
name_quick tw18146148910121657861 for PySem.W.S.modZ by PySem.W.S.modZ_eq
name_quick tw15160906479736572011 for PySem.W.S.modZ by PySem.W.S.modZ_eq
name_quick tw18107992653735698577 for PySem.W.S.modZ by PySem.W.S.modZ_eq
name_quick tw3713462333710051589 for PySem.W.S.modZ by PySem.W.S.modZ_eq
name_quick tw6048929593741219595 for PySem.W.S.modZ by PySem.W.S.modZ_eq
name_quick tw2317146869881470869 for PySem.W.S.modZ by PySem.W.S.modZ_eq
name_quick tw5275866047898878859 for PySem.W.S.modZ by PySem.W.S.modZ_eq
name_quick tw8337533700284639345 for PySem.W.S.modZ by PySem.W.S.modZ_eq
name_quick tw10854022757539301288 for PySem.W.S.modZ by PySem.W.S.modZ_eq
name_quick tw3094983461277106861 for PySem.W.S.modZ by PySem.W.S.modZ_eq
name_quick tw10348232986213076098 for PySem.W.S.modZ by PySem.W.S.modZ_eq
name_quick tw12847909162105843914 for PySem.W.S.modZ by PySem.W.S.modZ_eq
name_quick tw13190763333304141397 for PySem.W.S.modZ by PySem.W.S.modZ_eq
name_quick tw13877464712680166492 for PySem.W.S.modZ by PySem.W.S.modZ_eq
name_quick tw11364662887035841883 for PySem.W.S.modZ by PySem.W.S.modZ_eq
name_quick tw2729827189701794221 for PySem.W.S.modZ by PySem.W.S.modZ_eq
name_quick tw8435289116442285614 for PySem.W.S.modZ by PySem.W.S.modZ_eq
name_quick tw13777952869459940864 for PySem.W.S.modZ by PySem.W.S.modZ_eq
name_quick tw1064916845240443727 for PySem.W.S.modZ by PySem.W.S.modZ_eq
name_quick tw8119247660586966071 for PySem.W.S.modZ by PySem.W.S.modZ_eq
name_quick tw3229395022328107410 for PySem.W.S.modZ by PySem.W.S.modZ_eq
name_quick tw15626872585582890167 for PySem.W.S.modZ by PySem.W.S.modZ_eq
name_quick tw15234836773136601659 for PySem.W.S.modZ by PySem.W.S.modZ_eq
name_quick tw9996320806037170836 for PySem.W.S.modZ by PySem.W.S.modZ_eq
name_quick tw2835752972846637100 for PySem.W.S.modZ by PySem.W.S.modZ_eq
name_quick tw17559625982366295819 for PySem.W.S.modZ by PySem.W.S.modZ_eq
name_quick tw16882099834436731732 for PySem.W.S.modZ by PySem.W.S.modZ_eq
name_quick tw5091939441991996627 for PySem.W.S.modZ by PySem.W.S.modZ_eq
name_quick tw2084156676831067252 for PySem.W.S.modZ by PySem.W.S.modZ_eq
name_quick tw15116826474823431058 for PySem.W.S.modZ by PySem.W.S.modZ_eq
name_quick tw2420715623536416049 for PySem.W.S.modZ by PySem.W.S.modZ_eq
name_quick tw5139025259072996100 for PySem.W.S.modZ by PySem.W.S.modZ_eq
name_quick tw2946996327104201173 for PySem.W.S.modZ by PySem.W.S.modZ_eq
name_quick tw16312331294697538954 for PySem.W.S.modZ by PySem.W.S.modZ_eq
name_quick tw14429677841724674562 for PySem.W.S.modZ by PySem.W.S.modZ_eq
name_quick tw4418592390220709641 for PySem.W.S.modZ by PySem.W.S.modZ_eq
name_quick tw16652293919611879158 for PySem.W.S.modZ by PySem.W.S.modZ_eq
name_quick tw9102480966823572357 for PySem.W.S.modZ by PySem.W.S.modZ_eq
name_quick tw15251426937476601879 for PySem.W.S.modZ by PySem.W.S.modZ_eq
name_quick tw1636855779858493810 for PySem.W.S.modZ by PySem.W.S.modZ_eq
name_quick tw2349577078930258973 for PySem.W.S.modZ by PySem.W.S.modZ_eq
name_quick tw3750071729828939778 for PySem.W.S.modZ by PySem.W.S.modZ_eq
name_quick tw6226007213486049279 for PySem.W.S.modZ by PySem.W.S.modZ_eq
name_quick tw5489362641827098502 for PySem.W.S.modZ by PySem.W.S.modZ_eq
name_quick tw14415541902916672022 for PySem.W.S.modZ by PySem.W.S.modZ_eq
name_quick tw1100529517021164152 for PySem.W.S.modZ by PySem.W.S.modZ_eq
name_quick tw6599846585284778338 for PySem.W.S.modZ by PySem.W.S.modZ_eq
name_quick tw11851027888558440033 for PySem.W.S.modZ by PySem.W.S.modZ_eq
name_quick tw14688297840782317341 for PySem.W.S.modZ by PySem.W.S.modZ_eq
name_quick tw2690126607132752022 for PySem.W.S.modZ by PySem.W.S.modZ_eq
name_quick tw16471172793005334798 for PySem.W.S.modZ by PySem.W.S.modZ_eq
name_quick tw4678170616049986258 for PySem.W.S.modZ by PySem.W.S.modZ_eq
name_quick tw17692711085558906185 for PySem.W.S.modZ by PySem.W.S.modZ_eq
name_quick tw12860901850062539827 for PySem.W.S.modZ by PySem.W.S.modZ_eq
name_quick tw9899886610191756919 for PySem.W.S.modZ by PySem.W.S.modZ_eq
name_quick tw8051302077389081507 for PySem.W.S.modZ by PySem.W.S.modZ_eq
name_quick tw17679018583506425493 for PySem.W.S.modZ by PySem.W.S.modZ_eq
name_quick tw9287498706994918777 for PySem.W.S.modZ by PySem.W.S.modZ_eq
name_quick tw5313041249771125459 for PySem.W.S.modZ by PySem.W.S.modZ_eq
name_quick tw13916722156967234227 for PySem.W.S.modZ by PySem.W.S.modZ_eq
name_quick tw12329919559265843608 for PySem.W.S.modZ by PySem.W.S.modZ_eq
name_quick tw16695558500018230646 for PySem.W.S.modZ by PySem.W.S.modZ_eq
name_quick tw5208723704176136116 for PySem.W.S.modZ by PySem.W.S.modZ_eq
name_quick tw8137185470442414967 for PySem.W.S.modZ by PySem.W.S.modZ_eq
name_quick tw6603777858547899394 for PySem.W.S.modZ by PySem.W.S.modZ_eq
name_quick tw14064540975997897708 for PySem.W.S.modZ by PySem.W.S.modZ_eq
name_quick tw3457802614860072108 for PySem.W.S.modZ by PySem.W.S.modZ_eq
name_quick tw2861526023333615680 for PySem.W.S.modZ by PySem.W.S.modZ_eq
name_quick tw2710844714079975419 for PySem.W.S.modZ by PySem.W.S.modZ_eq
name_quick tw13490552255869480939 for PySem.W.S.modZ by PySem.W.S.modZ_eq
name_quick tw5814932905467080157 for PySem.W.S.modZ by PySem.W.S.modZ_eq
name_quick tw14530039867212446478 for PySem.W.S.modZ by PySem.W.S.modZ_eq
name_quick tw9913869086297623946 for PySem.W.S.modZ by PySem.W.S.modZ_eq
name_quick tw9424298468260700255 for PySem.W.S.modZ by PySem.W.S.modZ_eq
name_quick tw7759937146391424064 for PySem.W.S.modZ by PySem.W.S.modZ_eq
name_quick tw4577825752382903553 for PySem.W.S.modZ by PySem.W.S.modZ_eq
name_quick tw14607006357665727738 for PySem.W.S.modZ by PySem.W.S.modZ_eq
name_quick tw9544208230723960933 for PySem.W.S.modZ by PySem.W.S.modZ_eq
name_quick tw9152918502684178647 for PySem.W.S.modZ by PySem.W.S.modZ_eq
name_quick tw2808433954194737664 for PySem.W.S.modZ by PySem.W.S.modZ_eq
name_quick tw15906861288800166172 for PySem.W.S.modZ by PySem.W.S.modZ_eq
name_quick tw10169056292766343776 for PySem.W.S.modZ by PySem.W.S.modZ_eq
name_quick tw17467662853016873575 for PySem.W.S.modZ by PySem.W.S.modZ_eq
name_quick tw15024031647615242245 for PySem.W.S.modZ by PySem.W.S.modZ_eq
name_quick tw16436845700423136858 for PySem.W.S.modZ by PySem.W.S.modZ_eq
name_quick tw1627913763537591070 for PySem.W.S.modZ by PySem.W.S.modZ_eq
name_quick tw6655069838183935165 for PySem.W.S.modZ by PySem.W.S.modZ_eq
name_quick tw15211040820632395258 for PySem.W.S.modZ by PySem.W.S.modZ_eq
name_quick tw977458393928948738 for PySem.W.S.modZ by PySem.W.S.modZ_eq
name_quick tw1690040174741482008 for PySem.W.S.modZ by PySem.W.S.modZ_eq
name_quick tw5341175049276949639 for PySem.W.S.modZ by PySem.W.S.modZ_eq
name_quick tw14759938591949148758 for PySem.W.S.modZ by PySem.W.S.modZ_eq
name_quick tw11932347614458706813 for PySem.W.S.modZ by PySem.W.S.modZ_eq
name_quick tw1069622634312122996 for PySem.W.S.modZ by PySem.W.S.modZ_eq
name_quick tw8392000072246979462 for PySem.W.S.modZ by PySem.W.S.modZ_eq
name_quick tw3001472313329002739 for PySem.W.S.modZ by PySem.W.S.modZ_eq
name_quick tw6815626849126711835 for PySem.W.S.modZ by PySem.W.S.modZ_eq
name_quick tw2873624606939264317 for PySem.W.S.modZ by PySem.W.S.modZ_eq
name_quick tw5086057929099054814 for PySem.W.S.modZ by PySem.W.S.modZ_eq
name_quick tw7325756647574249640 for PySem.W.S.modZ by PySem.W.S.modZ_eq
name_quick tw10012524505316396554 for PySem.W.S.modZ by PySem.W.S.modZ_eq
name_quick tw3829002268211059660 for PySem.W.S.modZ by PySem.W.S.modZ_eq
name_quick tw14576729094268073153 for PySem.W.S.modZ by PySem.W.S.modZ_eq
name_quick tw10426049676012861743 for PySem.W.S.modZ by PySem.W.S.modZ_eq
name_quick tw12324385673493350378 for PySem.W.S.modZ by PySem.W.S.modZ_eq
name_quick tw5176215046414625650 for PySem.W.S.modZ by PySem.W.S.modZ_eq
name_quick tw3187205065290300290 for PySem.W.S.modZ by PySem.W.S.modZ_eq
name_quick tw2741556188088874784 for PySem.W.S.modZ by PySem.W.S.modZ_eq
name_quick tw12381387517116029988 for PySem.W.S.modZ by PySem.W.S.modZ_eq
name_quick tw12709270170288660602 for PySem.W.S.modZ by PySem.W.S.modZ_eq
name_quick tw17037215309760950501 for PySem.W.S.modZ by PySem.W.S.modZ_eq
name_quick tw3023645387877291743 for PySem.W.S.modZ by PySem.W.S.modZ_eq
name_quick tw2840425448061013142 for PySem.W.S.modZ by PySem.W.S.modZ_eq
name_quick tw16871992840918625614 for PySem.W.S.modZ by PySem.W.S.modZ_eq
name_quick tw12640441709321924595 for PySem.W.S.modZ by PySem.W.S.modZ_eq
name_quick tw13439920055300918570 for PySem.W.S.modZ by PySem.W.S.modZ_eq
name_quick tw3148075991281921952 for PySem.W.S.modZ by PySem.W.S.modZ_eq
name_quick tw6611032149442869001 for PySem.W.S.modZ by PySem.W.S.modZ_eq
name_quick tw3727903881433112205 for PySem.W.S.modZ by PySem.W.S.modZ_eq
name_quick tw9142378387187497046 for PySem.W.S.modZ by PySem.W.S.modZ_eq
name_quick tw3122712715399804235 for PySem.W.S.modZ by PySem.W.S.modZ_eq
name_quick tw17501702479242663355 for PySem.W.S.modZ by PySem.W.S.modZ_eq
name_quick tw7679596898342726614 for PySem.W.S.modZ by PySem.W.S.modZ_eq
name_quick tw11043598333273127229 for PySem.W.S.modZ by PySem.W.S.modZ_eq
name_quick tw10227922002364077019 for PySem.W.S.modZ by PySem.W.S.modZ_eq
name_quick tw13781753333038714082 for PySem.W.S.modZ by PySem.W.S.modZ_eq
name_quick tw13298252776757663317 for PySem.W.S.modZ by PySem.W.S.modZ_eq
name_quick tw17716237198885016810 for PySem.W.S.modZ by PySem.W.S.modZ_eq
name_quick tw1184524263560182804 for PySem.W.S.modZ by PySem.W.S.modZ_eq
name_quick tw11224824500842709959 for PySem.W.S.modZ by PySem.W.S.modZ_eq
name_quick tw16174913585309790895 for PySem.W.S.modZ by PySem.W.S.modZ_eq
name_quick tw7176698336215257611 for PySem.W.S.modZ by PySem.W.S.modZ_eq
name_quick tw15040278782250523189 for PySem.W.S.modZ by PySem.W.S.modZ_eq
name_quick tw8469397100279603616 for PySem.W.S.modZ by PySem.W.S.modZ_eq
name_quick tw8304305311248173283 for PySem.W.S.modZ by PySem.W.S.modZ_eq
name_quick tw18060118980996700804 for PySem.W.S.modZ by PySem.W.S.modZ_eq
name_quick tw8924365339680321472 for PySem.W.S.modZ by PySem.W.S.modZ_eq
name_quick tw2632029310072870937 for PySem.W.S.modZ by PySem.W.S.modZ_eq
name_quick tw12549341069734182301 for PySem.W.S.modZ by PySem.W.S.modZ_eq
name_quick tw11544093271154154874 for PySem.W.S.modZ by PySem.W.S.modZ_eq
name_quick tw5244692420630823344 for PySem.W.S.modZ by PySem.W.S.modZ_eq
name_quick tw6170768675140840697 for PySem.W.S.modZ by PySem.W.S.modZ_eq
name_quick tw15049589676784976247 for PySem.W.S.modZ by PySem.W.S.modZ_eq
name_quick tw1474846853448073751 for PySem.W.S.modZ by PySem.W.S.modZ_eq
name_quick tw3788727190181735217 for PySem.W.S.modZ by PySem.W.S.modZ_eq
name_quick tw17285836990226689256 for PySem.W.S.modZ by PySem.W.S.modZ_eq
name_quick tw48828378952070104 for PySem.W.S.modZ by PySem.W.S.modZ_eq
name_quick tw14614527472722523969 for PySem.W.S.modZ by PySem.W.S.modZ_eq
name_quick tw8375868523653585131 for PySem.W.S.modZ by PySem.W.S.modZ_eq
name_quick tw6286836688958735793 for PySem.W.S.modZ by PySem.W.S.modZ_eq
name_quick tw17483095140902764543 for PySem.W.S.modZ by PySem.W.S.modZ_eq
name_quick tw16542551691869303959 for PySem.W.S.modZ by PySem.W.S.modZ_eq
name_quick tw16293490967301006183 for PySem.W.S.modZ by PySem.W.S.modZ_eq
name_quick tw1442710608564969780 for PySem.W.S.modZ by PySem.W.S.modZ_eq
name_quick tw12335013968921059239 for PySem.W.S.modZ by PySem.W.S.modZ_eq
name_quick tw10061484185710870741 for PySem.W.S.modZ by PySem.W.S.modZ_eq
name_quick tw864216047752739059 for PySem.W.S.modZ by PySem.W.S.modZ_eq
name_quick tw5561041088958536850 for PySem.W.S.modZ by PySem.W.S.modZ_eq
name_quick tw17226943302893321385 for PySem.W.S.modZ by PySem.W.S.modZ_eq
name_quick tw9447225226458344871 for PySem.W.S.modZ by PySem.W.S.modZ_eq
name_quick tw7190221805484920694 for PySem.W.S.modZ by PySem.W.S.modZ_eq
name_quick tw5915808259131752527 for PySem.W.S.modZ by PySem.W.S.modZ_eq
name_quick tw146520848539089869 for PySem.W.S.modZ by PySem.W.S.modZ_eq
name_quick tw13583910404837277095 for PySem.W.S.modZ by PySem.W.S.modZ_eq
name_quick tw12341628018049500550 for PySem.W.S.modZ by PySem.W.S.modZ_eq
name_quick tw11270209948382270796 for PySem.W.S.modZ by PySem.W.S.modZ_eq
name_quick tw10183094455348731938 for PySem.W.S.modZ by PySem.W.S.modZ_eq
name_quick tw3192797966284080065 for PySem.W.S.modZ by PySem.W.S.modZ_eq
name_quick tw18041303595606385411 for PySem.W.S.modZ by PySem.W.S.modZ_eq
name_quick tw16331792032754514844 for PySem.W.S.modZ by PySem.W.S.modZ_eq
name_quick tw15139844656269996083 for PySem.W.S.modZ by PySem.W.S.modZ_eq
name_quick tw14013697358264219057 for PySem.W.S.modZ by PySem.W.S.modZ_eq
name_quick tw10256879121734785116 for PySem.W.S.modZ by PySem.W.S.modZ_eq
set_option Elab.async false

namespace Mine
open PySem PySem.W PyProof.Rows
set_option maxRecDepth 100000
set_option maxHeartbeats 8000000
open_top hd12 for PySem.Challenge.rw_uf010010_12
end Mine


set_option genSizeOf false
namespace Mine
open PySem PySem.Calls PyProof.Rows

/-- a value as the mini level sees it: immutable data are trees; what may change is a place in the mini heap -/
inductive V where
  | none
  | bool (b : Bool)
  | int (i : Int)
  | str (s : Str)
  | tup (vs : List V)
  | ref (l : Nat)
  | glob (x : Str)
  | mth (c x : Str)
  | type (n : String)
  | bi (id : String)
  | rng (n : Int)
  | exc (c : Str)
  | scr (xs : List Int)
  | rev (l n : Nat)

inductive MObj where
  | list (vs : List V)
  | sdict (kvs : List (Str × V))
  | tdict (kvs : List ((Str × Int) × V))
  | inst (c : Str) (fs : List (Str × V))

theorem no_some {α : Type} {a : α} (h : (none : Option α) = some a) : False := nomatch h
/-- what is read of a list's place -/
noncomputable def atL {α : Type} (f : List V → Option α) : Option MObj → Option α
  | some (.list vs) => f vs
  | _ => none
theorem atL_out {α : Type} {f : List V → Option α} {o : Option MObj} {x : α} (h : atL f o = some x) : ∃ vs, o = some (.list vs) ∧ f vs = some x := by
  rcases o with _ | o
  · exact (no_some h).elim
  · cases o <;> first | exact ⟨_, rfl, h⟩ | exact (no_some h).elim
theorem atL_of {α : Type} {f : List V → Option α} {o : Option MObj} {vs : List V} (h : o = some (.list vs)) : atL f o = f vs := h ▸ rfl
theorem ite_some {α : Type} {c : Prop} [Decidable c] {a x : α} (h : (if c then some a else none) = some x) : c ∧ a = x := by
  by_cases q : c
  · rw [if_pos q] at h; exact ⟨q, Option.some.inj h⟩
  · rw [if_neg q] at h; exact (no_some h).elim
theorem sm_inj {α : Type} {a b : α} (h : some a = some b) : a = b := Option.some.inj h

noncomputable abbrev Hp := List MObj
noncomputable abbrev Inj := List (Addr × Addr)
noncomputable def own (ι : Inj) : List Addr := ι.flatMap fun p => [p.1, p.2]

theorem mem_own {ι : Inj} {a : Addr} : a ∈ own ι ↔ ∃ p ∈ ι, a = p.1 ∨ a = p.2 := by
  simp [own]

theorem own_append (ι κ : Inj) : own (ι ++ κ) = own ι ++ own κ := by simp [own]

/-- what is said once of the law: its world, the heap ahead of the call, where a global name, a method and a class stand -/
structure Tp where
  prog : Program
  w : World
  b0 : Heap
  os : OsState
  K : PySem.W.Frag
  gv : Str → Option V
  hd : Bool
noncomputable def Tp.g (T : Tp) (x : Str) : Option Value := (PySem.W.nsIn T.K mainGlobals x).join
noncomputable def refO : Option Value → Option Addr
  | some (.ref a) => some a
  | _ => none
theorem refO_out {o : Option Value} {a : Addr} (h : refO o = some a) : o = some (.ref a) := by
  rcases o with _ | o
  · exact (no_some h).elim
  · cases o <;> first | exact (no_some h).elim | exact congrArg (some <| Value.ref ·) (sm_inj h)
noncomputable def Tp.c (T : Tp) (x : Str) : Option Addr := refO (T.g x)
noncomputable def Tp.m (T : Tp) (c x : Str) : Option Value := (T.c c).bind fun C => (PySem.W.findIn T.K (.ref C) x).join

noncomputable def frozen (o : Obj) : Bool := o.cls == .type "tuple" || o.cls == .type "range"
/-- an iterator that a loop walks -/
noncomputable def iterish (o : Obj) : Bool := match o.cls with
  | .type n => ["list_iterator", "tuple_iterator", "range_iterator", "longrange_iterator", "str_iterator", "str_ascii_iterator", "dict_keyiterator", "list_reverseiterator"].contains n
  | _ => false
/-- an object whose class nobody asks again -/
noncomputable def loose (o : Obj) : Bool := match o.cls with
  | .type n => n != "frame"
  | _ => false
theorem loose_ref {o : Obj} {C : Addr} (h : o.cls = .ref C) : loose o = false := by simp [loose, h]
theorem loose_eq {o o' : Obj} (h : o'.cls = o.cls) : loose o' = loose o := by simp [loose, h]
theorem iterish_loose {o : Obj} (h : iterish o = true) : loose o = true := by
  unfold iterish at h; unfold loose
  split at h
  · rename_i n hn
    simp only [List.contains_iff_mem, List.mem_cons, List.not_mem_nil, or_false] at h
    rcases h with rfl | rfl | rfl | rfl | rfl | rfl | rfl | rfl <;> decide
  · cases h
/-- the same, or an object of an own class -/
noncomputable def itr (o : Obj) : Bool := match o.cls with
  | .type _ => iterish o
  | _ => true
theorem itr_eq {o o' : Obj} (h : o'.cls = o.cls) : itr o' = itr o := by simp [itr, iterish, h]
theorem itr_iterish {o : Obj} (h : itr o = false) : iterish o = false := by
  unfold itr at h; split at h
  · exact h
  · cases h
theorem itr_ref {o : Obj} {C : Addr} (h : itr o = false) (c : o.cls = .ref C) : False := by
  unfold itr at h; rw [c] at h; cases h

mutual
noncomputable def VRel (T : Tp) (ι : Inj) (h : Heap) : V → Value → Prop
  | .none, v => v = .none
  | .bool b, v => v = .bool b
  | .int i, v => ∃ t, v = .int i t
  | .str s, v => ∃ t, v = .str s t
  | .tup vs, v => ∃ a items n, v = .ref a ∧ IsT h a items n ∧ VRels T ι h vs items.toList
  | .ref l, v => ∃ a d, v = .ref a ∧ ι[l]? = some (a, d)
  | .glob x, v => T.g x = some v
  | .mth c x, v => T.m c x = some v
  | .type n, v => v = .type n
  | .bi id, v => v = .builtin id
  | .rng n, v => ∃ a t1 t2 t3, v = .ref a ∧ IsRange h a 0 n 1 t1 t2 t3
  | .exc c, v => ∃ a o C, v = .ref a ∧ h.get? a = some o ∧ T.c c = some C ∧ o.cls = .ref C
  | .scr xs, v => ∃ a o items n, v = .ref a ∧ T.b0.get? a = some o ∧ o.cls = .type "list" ∧ o.data = .seq items n ∧ ∃ l : List (Int × Tok), items.toList = l.map (fun p => Value.int p.1 p.2) ∧ l.map (·.1) = xs
  | .rev _ _, _ => False
noncomputable def VRels (T : Tp) (ι : Inj) (h : Heap) : List V → List Value → Prop
  | [], [] => True
  | v :: vs, x :: xs => VRel T ι h v x ∧ VRels T ι h vs xs
  | [], _ :: _ => False
  | _ :: _, [] => False
end

/-- two options that are alike by R -/
inductive OptR {α β : Type} (R : α → β → Prop) : Option α → Option β → Prop where
  | none : OptR R none none
  | some {a : α} {b : β} (h : R a b) : OptR R (some a) (some b)
theorem OptR.imp {α β : Type} {R R' : α → β → Prop} (k : ∀ a b, R a b → R' a b) {x : Option α} {y : Option β} (h : OptR R x y) : OptR R' x y := h.rec .none fun h => .some (k _ _ h)
theorem OptR.isSome {α β : Type} {R : α → β → Prop} {x : Option α} {y : Option β} (h : OptR R x y) : y.isSome = x.isSome := h.rec rfl fun _ => rfl
noncomputable abbrev ORelV (T : Tp) (ι : Inj) (h : Heap) : Option V → Option Value → Prop := OptR (VRel T ι h)
/-- two lists of the same keys, with values alike by R -/
inductive KRel {α β γ : Type} (R : β → γ → Prop) : List (α × β) → List (α × γ) → Prop where
  | nil : KRel R [] []
  | cons {k : α} {v : β} {x : γ} {r : List (α × β)} {q : List (α × γ)} (h : R v x) (t : KRel R r q) : KRel R ((k, v) :: r) ((k, x) :: q)
section
variable {α β γ : Type} {R R' : β → γ → Prop} {a : List (α × β)} {b : List (α × γ)}
theorem KRel.imp (k : ∀ a b, R a b → R' a b) (h : KRel R a b) : KRel R' a b := h.rec .nil fun h _ ih => .cons (k _ _ h) ih
theorem KRel.length (h : KRel R a b) : b.length = a.length := h.rec rfl fun _ _ ih => congrArg Nat.succ ih
theorem KRel.push {k : α} {v : β} {x : γ} (h : KRel R a b) (r : R v x) : KRel R (a ++ [(k, v)]) (b ++ [(k, x)]) := h.rec (.cons r .nil) fun h _ ih => .cons h ih
variable [DecidableEq α] {k : α}
theorem KRel.find (h : KRel R a b) : OptR R ((a.find? fun kv => decide (kv.1 = k)).map (·.2)) ((b.find? fun kv => decide (kv.1 = k)).map (·.2)) := by
  induction h with
  | nil => exact .none
  | @cons k' _ _ _ _ h _ ih =>
    by_cases e : k' = k
    · rw [List.find?_cons, List.find?_cons, decide_eq_true e]; exact .some h
    · rw [List.find?_cons, List.find?_cons, decide_eq_false e]; exact ih
theorem KRel.any (h : KRel R a b) : (b.any fun kv => decide (kv.1 = k)) = a.any fun kv => decide (kv.1 = k) := h.rec rfl fun _ _ ih => congrArg (_ || ·) ih
theorem KRel.put {v : β} {x : γ} {f : α × γ → α × γ} (hf : ∀ p, f p = if p.1 = k then (p.1, x) else p) (h : KRel R a b) (r : R v x) : KRel R (a.map fun kv => if kv.1 = k then (kv.1, v) else kv) (b.map f) := by
  induction h with
  | nil => exact .nil
  | @cons k' _ _ _ _ h _ ih =>
    rw [List.map_cons, List.map_cons, hf]
    by_cases e : k' = k
    · rw [if_pos e, if_pos e]; exact .cons r ih
    · rw [if_neg e, if_neg e]; exact .cons h ih
end
theorem find_some {α β : Type} [DecidableEq α] {a : List (α × β)} {k : α} : ((a.find? fun kv => decide (kv.1 = k)).map (·.2)).isSome = a.any fun kv => decide (kv.1 = k) := by
  rw [Option.isSome_map, Bool.eq_iff_iff, List.find?_isSome, List.any_eq_true]

structure Mono (ι : Inj) (h : Heap) (ι' : Inj) (h' : Heap) : Prop where
  pre : ∃ κ, ι' = ι ++ κ
  cls : ∀ a o, h.get? a = some o → loose o = false → ∃ o', h'.get? a = some o' ∧ o'.cls = o.cls
  frz : ∀ a o, h.get? a = some o → frozen o = true → h'.get? a = some o

theorem Mono.get {ι ι' : Inj} {h h' : Heap} (x : Mono ι h ι' h') {l : Nat} {p : Addr × Addr} (e : ι[l]? = some p) : ι'[l]? = some p := by
  obtain ⟨κ, rfl⟩ := x.pre
  rw [List.getElem?_append_left]
  · exact e
  · exact (List.getElem?_eq_some_iff.mp e).1

mutual
theorem VRel.mono {T : Tp} {ι ι' : Inj} {h h' : Heap} (m : Mono ι h ι' h') : ∀ {v : V} {x : Value}, VRel T ι h v x → VRel T ι' h' v x
  | .none, _, e => e
  | .bool _, _, e => e
  | .int _, _, e => e
  | .str _, _, e => e
  | .tup _, _, e => by
    obtain ⟨a, items, n, e1, e2, e3⟩ := e
    exact ⟨a, items, n, e1, m.frz a _ e2 (by simp [frozen]), VRels.mono m e3⟩
  | .ref _, _, e => by
    obtain ⟨a, d, e1, e2⟩ := e
    exact ⟨a, d, e1, m.get e2⟩
  | .glob _, _, e => e
  | .mth _ _, _, e => e
  | .type _, _, e => e
  | .bi _, _, e => e
  | .rng _, _, e => by
    obtain ⟨a, t1, t2, t3, e1, e2⟩ := e
    exact ⟨a, t1, t2, t3, e1, m.frz a _ e2 (by simp [frozen])⟩
  | .exc _, _, e => by
    obtain ⟨a, o, C, e1, e2, e3, e4⟩ := e
    obtain ⟨o', e5, e6⟩ := m.cls a o e2 (loose_ref e4)
    exact ⟨a, o', C, e1, e5, e3, e6.trans e4⟩
  | .scr _, _, e => e
theorem VRels.mono {T : Tp} {ι ι' : Inj} {h h' : Heap} (m : Mono ι h ι' h') : ∀ {vs : List V} {xs : List Value}, VRels T ι h vs xs → VRels T ι' h' vs xs
  | [], [], _ => trivial
  | _ :: _, _ :: _, e => by
    exact ⟨VRel.mono m e.1, VRels.mono m e.2⟩
end

theorem ORelV.mono {T : Tp} {ι ι' : Inj} {h h' : Heap} (m : Mono ι h ι' h') {v : Option V} {x : Option Value} (r : ORelV T ι h v x) : ORelV T ι' h' v x := r.imp fun _ _ r => r.mono m

theorem VRels.length {T : Tp} {ι : Inj} {h : Heap} : ∀ {vs : List V} {xs : List Value}, VRels T ι h vs xs → xs.length = vs.length
  | [], [], _ => rfl
  | _ :: _, _ :: _, e => congrArg Nat.succ (VRels.length e.2)
theorem VRels.nil_iff {T : Tp} {ι : Inj} {h : Heap} {xs : List Value} : VRels T ι h [] xs ↔ xs = [] := by
  cases xs
  · exact ⟨fun _ => rfl, fun _ => trivial⟩
  · exact ⟨fun h => (show False from h).elim, fun h => nomatch h⟩
theorem VRels.cons_iff {T : Tp} {ι : Inj} {h : Heap} {v : V} {vs : List V} {xs : List Value} : VRels T ι h (v :: vs) xs ↔ ∃ x r, xs = x :: r ∧ VRel T ι h v x ∧ VRels T ι h vs r := by
  cases xs with
  | nil => exact ⟨fun h => (show False from h).elim, fun ⟨_, _, h, _⟩ => nomatch h⟩
  | cons x r =>
    exact ⟨fun h => ⟨x, r, rfl, h.1, h.2⟩, fun ⟨_, _, e, a, b⟩ => by cases e; exact ⟨a, b⟩⟩
theorem VRels.append {T : Tp} {ι : Inj} {h : Heap} : ∀ {vs us : List V} {xs ys : List Value}, VRels T ι h vs xs → VRels T ι h us ys → VRels T ι h (vs ++ us) (xs ++ ys)
  | [], _, [], _, _, e => e
  | _ :: _, _, _ :: _, _, d, e => by
    show VRels T ι h (_ :: (_ ++ _)) (_ :: (_ ++ _))
    exact ⟨d.1, VRels.append d.2 e⟩
theorem VRels.get {T : Tp} {ι : Inj} {h : Heap} : ∀ {vs : List V} {xs : List Value} {i : Nat} {v : V}, VRels T ι h vs xs → vs[i]? = some v → ∃ x, xs[i]? = some x ∧ VRel T ι h v x
  | _ :: _, _ :: _, 0, _, d, e => by
    simp only [List.getElem?_cons_zero, Option.some.injEq] at e ⊢
    exact ⟨_, rfl, e ▸ d.1⟩
  | _ :: _, _ :: _, i + 1, _, d, e => by
    simp only [List.getElem?_cons_succ] at e ⊢
    exact VRels.get d.2 e

/-- from (ι, h) on to (ι', h'): nothing that stood has turned but what is in the mini heap and in F -/
structure Ext (T : Tp) (F : List Addr) (ι : Inj) (h : Heap) (ι' : Inj) (h' : Heap) : Prop where
  pre : ∃ κ, ι' = ι ++ κ ∧ ∀ p ∈ κ, h.objs.size ≤ p.1 ∧ h.objs.size ≤ p.2
  size : h.objs.size ≤ h'.objs.size
  cls : ∀ a o, h.get? a = some o → loose o = false → ∃ o', h'.get? a = some o' ∧ o'.cls = o.cls
  frz : ∀ a o, h.get? a = some o → frozen o = true → h'.get? a = some o
  keep : ∀ a o, h.get? a = some o → a ∉ own ι → a ∉ F → o.cls ≠ .type "frame" → h'.get? a = some o
  frm : ∀ a o, h.get? a = some o → a ∉ own ι → a ∉ F → ∃ sl, h'.get? a = some { o with slots := sl }

theorem Ext.refl (T : Tp) (F : List Addr) (ι : Inj) (h : Heap) : Ext T F ι h ι h :=
  ⟨⟨[], by simp, by simp⟩, Nat.le_refl _, fun _ o e _ => ⟨o, e, rfl⟩, fun _ _ e _ => e, fun _ _ e _ _ _ => e, fun _ o e _ _ => ⟨o.slots, e⟩⟩

theorem Ext.mono {T : Tp} {F : List Addr} {ι ι' : Inj} {h h' : Heap} (x : Ext T F ι h ι' h') : Mono ι h ι' h' :=
  ⟨let ⟨κ, e, _⟩ := x.pre; ⟨κ, e⟩, x.cls, x.frz⟩

theorem Ext.not_own {T : Tp} {F : List Addr} {ι ι' : Inj} {h h' : Heap} (x : Ext T F ι h ι' h') {a : Addr} (hn : a ∉ own ι) (hl : a < h.objs.size) : a ∉ own ι' := by
  obtain ⟨κ, rfl, hk⟩ := x.pre
  rw [own_append, List.mem_append, not_or]
  refine ⟨hn, fun hm => ?_⟩
  obtain ⟨p, hp, e⟩ := mem_own.mp hm
  have := hk p hp
  rcases e with rfl | rfl
  · exact absurd this.1 (Nat.not_le.mpr hl)
  · exact absurd this.2 (Nat.not_le.mpr hl)

theorem Ext.trans {T : Tp} {F : List Addr} {ι ι₁ ι₂ : Inj} {h h₁ h₂ : Heap} (x : Ext T F ι h ι₁ h₁) (y : Ext T F ι₁ h₁ ι₂ h₂) : Ext T F ι h ι₂ h₂ := by
  refine ⟨?_, Nat.le_trans x.size y.size, fun a o e i => ?_, fun a o e f => y.frz a o (x.frz a o e f) f, fun a o e n f c => ?_, fun a o e n f => ?_⟩
  · obtain ⟨κ, rfl, hk⟩ := x.pre
    obtain ⟨κ', rfl, hk'⟩ := y.pre
    refine ⟨κ ++ κ', by simp, fun p hp => ?_⟩
    rcases List.mem_append.mp hp with hp | hp
    · exact hk p hp
    · exact ⟨Nat.le_trans x.size (hk' p hp).1, Nat.le_trans x.size (hk' p hp).2⟩
  · obtain ⟨o₁, e₁, c₁⟩ := x.cls a o e i
    obtain ⟨o₂, e₂, c₂⟩ := y.cls a o₁ e₁ ((loose_eq c₁).trans i)
    exact ⟨o₂, e₂, c₂.trans c₁⟩
  · exact y.keep a o (x.keep a o e n f c) (x.not_own n (Heap.lt_size e)) f c
  · obtain ⟨sl, e₁⟩ := x.frm a o e n f
    obtain ⟨sl', e₂⟩ := y.frm a _ e₁ (x.not_own n (Heap.lt_size e)) f
    exact ⟨sl', e₂⟩

theorem Ext.weaken {T : Tp} {F G : List Addr} {ι ι' : Inj} {h h' : Heap} (x : Ext T F ι h ι' h') (hFG : ∀ a ∈ F, a < h.objs.size → a ∈ G) : Ext T G ι h ι' h' :=
  ⟨x.pre, x.size, x.cls, x.frz, fun a o e n f c => x.keep a o e n (fun q => f (hFG a q (Heap.lt_size e))) c, fun a o e n f => x.frm a o e n (fun q => f (hFG a q (Heap.lt_size e)))⟩

/-- a new object at the heap's end -/
theorem Ext.push (T : Tp) (F : List Addr) (ι : Inj) (h : Heap) (o : Obj) : Ext T F ι h ι (h.push o) :=
  ⟨⟨[], by simp, by simp⟩, by rw [Heap.size_push]; exact Nat.le_of_lt (Nat.lt_succ_self h.objs.size), fun _ o e _ => ⟨o, Heap.get?_push_of_some _ e, rfl⟩, fun _ _ e _ => Heap.get?_push_of_some _ e, fun _ _ e _ _ _ => Heap.get?_push_of_some _ e,
    fun _ o e _ _ => ⟨o.slots, Heap.get?_push_of_some _ e⟩⟩

/-- all that stood stands -/
theorem Ext.of_keeps {T : Tp} {F : List Addr} {ι : Inj} {h h' : Heap} (hs : h.objs.size ≤ h'.objs.size) (k : ∀ b o, h.get? b = some o → h'.get? b = some o) : Ext T F ι h ι h' :=
  ⟨⟨[], by simp, by simp⟩, hs, fun _ o e _ => ⟨o, k _ _ e, rfl⟩, fun _ _ e _ => k _ _ e, fun _ _ e _ _ _ => k _ _ e, fun _ o e _ _ => ⟨o.slots, k _ _ e⟩⟩

/-- one object of the mini heap, or of F, has turned -/
theorem Ext.of_sameBut {T : Tp} {F : List Addr} {ι : Inj} {h h' : Heap} {a : Addr} {o o' : Obj} (hs : Heap.SameBut a h h') (ho : h.get? a = some o) (ho' : h'.get? a = some o') (hc : o'.cls = o.cls)
    (hf : frozen o = false) (hin : a ∈ own ι ∨ a ∈ F) : Ext T F ι h ι h' := by
  refine ⟨⟨[], by simp, by simp⟩, Nat.le_of_eq hs.1.symm, fun b x e _ => ?_, fun b x e f => ?_, fun b x e n f _ => ?_, fun b x e n f => ⟨x.slots, ?_⟩⟩
  · by_cases q : b = a
    · subst q; rw [ho] at e; cases e; exact ⟨o', ho', hc⟩
    · exact ⟨x, (hs.2 b q).trans e, rfl⟩
  · by_cases q : b = a
    · subst q; rw [ho] at e; cases e; rw [hf] at f; cases f
    · exact (hs.2 b q).trans e
  · by_cases q : b = a
    · subst q; rcases hin with q | q
      · exact absurd q n
      · exact absurd q f
    · exact (hs.2 b q).trans e
  · by_cases q : b = a
    · subst q; rcases hin with q | q
      · exact absurd q n
      · exact absurd q f
    · exact (hs.2 b q).trans e

theorem ex2 {α : Sort _} {β : Sort _} {p : α → β → Prop} {P : Prop} (h : ∃ a b, p a b) (k : ∀ a b, p a b → P) : P := by
  obtain ⟨a, b, h⟩ := h
  exact k _ _ h
theorem ex3 {α : Sort _} {β : Sort _} {γ : Sort _} {p : α → β → γ → Prop} {P : Prop} (h : ∃ a b c, p a b c) (k : ∀ a b c, p a b c → P) : P := by
  obtain ⟨a, b, c, h⟩ := h
  exact k _ _ _ h
theorem ex4 {α : Sort _} {β : Sort _} {γ : Sort _} {δ : Sort _} {p : α → β → γ → δ → Prop} {P : Prop} (h : ∃ a b c d, p a b c d) (k : ∀ a b c d, p a b c d → P) : P := by
  obtain ⟨a, b, c, d, h⟩ := h
  exact k _ _ _ _ h
theorem ex7 {α : Sort _} {β : Sort _} {γ : Sort _} {δ : Sort _} {ε : Sort _} {ζ : Sort _} {η : Sort _} {p : α → β → γ → δ → ε → ζ → η → Prop} {P : Prop} (h : ∃ a b c d e f g, p a b c d e f g) (k : ∀ a b c d e f g, p a b c d e f g → P) : P := by
  obtain ⟨a, b, c, d, e, f, g, h⟩ := h
  exact k _ _ _ _ _ _ _ h
theorem and3 {a1 a2 a3 P : Prop} (h : a1 ∧ a2 ∧ a3) (k : a1 → a2 → a3 → P) : P := by
  obtain ⟨h0, h1, h2⟩ := h
  exact k h0 h1 h2
theorem and4 {a1 a2 a3 a4 P : Prop} (h : a1 ∧ a2 ∧ a3 ∧ a4) (k : a1 → a2 → a3 → a4 → P) : P := by
  obtain ⟨h0, h1, h2, h3⟩ := h
  exact k h0 h1 h2 h3
theorem and5 {a1 a2 a3 a4 a5 P : Prop} (h : a1 ∧ a2 ∧ a3 ∧ a4 ∧ a5) (k : a1 → a2 → a3 → a4 → a5 → P) : P := by
  obtain ⟨h0, h1, h2, h3, h4⟩ := h
  exact k h0 h1 h2 h3 h4
theorem and7 {a1 a2 a3 a4 a5 a6 a7 P : Prop} (h : a1 ∧ a2 ∧ a3 ∧ a4 ∧ a5 ∧ a6 ∧ a7) (k : a1 → a2 → a3 → a4 → a5 → a6 → a7 → P) : P := by
  obtain ⟨h0, h1, h2, h3, h4, h5, h6⟩ := h
  exact k h0 h1 h2 h3 h4 h5 h6
theorem and12 {a1 a2 a3 a4 a5 a6 a7 a8 a9 a10 a11 a12 P : Prop} (h : a1 ∧ a2 ∧ a3 ∧ a4 ∧ a5 ∧ a6 ∧ a7 ∧ a8 ∧ a9 ∧ a10 ∧ a11 ∧ a12) (k : a1 → a2 → a3 → a4 → a5 → a6 → a7 → a8 → a9 → a10 → a11 → a12 → P) : P := by
  obtain ⟨h0, h1, h2, h3, h4, h5, h6, h7, h8, h9, h10, h11⟩ := h
  exact k h0 h1 h2 h3 h4 h5 h6 h7 h8 h9 h10 h11
end Mine

namespace Mine
open PySem PySem.Calls PyProof.Rows PySem.SeqAt

/-! keys (text, number) of a dict -/
section
variable {prog : Program} {w : World} {A : Around} {E : Value → Shared → Prop} {s : Shared}

noncomputable def IsPair (h : Heap) (k : Str × Int) (a : Addr) : Prop := ∃ o t u n, h.get? a = some o ∧ o.cls = .type "tuple" ∧ o.data = .seq #[.str k.1 t, .int k.2 u] n

theorem IsPair.typeIs {k : Str × Int} {a : Addr} (x : IsPair s.heap k a) : s.TypeIs (.ref a) "tuple" := let ⟨o, _, _, _, ho, hc, _⟩ := x; ⟨o, ho, hc⟩
theorem IsPair.inj {h : Heap} {a : Addr} {x y : Str × Int} (hx : IsPair h x a) (hy : IsPair h y a) : x = y := by
  obtain ⟨o, t, u, n, ho, _, hd⟩ := hx
  obtain ⟨o', t', u', n', ho', _, hd'⟩ := hy
  obtain rfl : o = o' := Option.some.inj (ho.symm.trans ho')
  rw [hd] at hd'
  injection hd' with h1 _
  simp only [Array.mk.injEq, List.cons.injEq, Value.str.injEq, Value.int.injEq] at h1
  exact Prod.ext h1.1.1 h1.2.1.1
theorem IsPair.keeps {h h' : Heap} {k : Str × Int} {a d : Addr} {o : Obj} {es ep} (x : IsPair h k a) (ho : h.get? d = some o) (hd : o.data = .dict es ep) (hs : Heap.SameBut d h h') : IsPair h' k a := by
  obtain ⟨o', t, u, n, ho', hc, hd'⟩ := x
  have hne : a ≠ d := by
    rintro rfl
    obtain rfl : o' = o := Option.some.inj (ho'.symm.trans ho)
    rw [hd] at hd'; exact nomatch hd'
  exact ⟨o', t, u, n, (hs.2 a hne).trans ho', hc, hd'⟩

/-- a loop over two -/
noncomputable def stepQ {β : Type} (Y D : β → Shared → Prop) (r : ForInStep β) (s : Shared) : Prop := match r with
  | .done b => D b s
  | .yield b => Y b s
theorem forIn_two {M : Model} {α β : Type} {x y : α} {b : β} {f : α → β → Sem (ForInStep β)} {Q : β → Shared → Prop} (h : wpAny M A (f x b) (stepQ (fun b s => wpAny M A (f y b) (stepQ Q Q) E s) Q) E s) : wpAny M A (forIn [x, y] b f) Q E s := by
  rw [List.forIn_cons]
  refine wpAny_bind (wpAny_mono h (fun r s₁ p => ?_) fun _ _ p => p)
  cases r
  · exact wpAny_pure p
  · show wpAny M A (forIn [y] _ f) Q E s₁
    rw [List.forIn_cons]
    refine wpAny_bind (wpAny_mono p (fun r s₂ p => ?_) fun _ _ p => p)
    cases r
    · exact wpAny_pure p
    · show wpAny M A (forIn [] _ f) Q E s₂
      rw [List.forIn_nil]; exact wpAny_pure p

noncomputable def pairHash (w : World) (k : Str × Int) : Int := reduceHash (Builtin.Tuple.tupleHashOf [hashStr w k.1, hashInt k.2])

theorem IsPair.pyHash {k : Str × Int} {a : Addr} {Q : Int → Shared → Prop} (hu : A.units < cLine) (hk : IsPair s.heap k a) (h : Q (pairHash w k) { s with toks := s.toks + 3 }) : wpAny (model prog w) A (PySem.pyHash (.ref a)) Q E s := by
  have hT := hk.typeIs
  obtain ⟨o, t, u, n, ho, _, hd⟩ := hk
  unfold PySem.pyHash
  first | unfold pyHashByItsType | skip
  first | refine wpAny_bind (wpAny_cRoomFor_or (.inr hu) ?_) | skip
  refine wpAny_bind (wpAny_specialOf hT F.slot_tuple_hash.lookup ?_)
  show wpAny _ _ (if (some (Value.builtin "tuple.__hash__") == some Value.none) = true then _ else _) Q E s
  rw [if_neg (by rw [beq_builtin_none]; exact Bool.false_ne_true)]
  refine wpAny_bind (wpAny_specialOf hT F.slot_tuple_hash.lookup ?_)
  show wpAny _ _ (callSpecialIfBoundUnlessNone? (.ref a) "__hash__" _ >>= _) Q E s
  refine wpAny_bind (wpAny_callSpecialIfBoundUnlessNone?_slot hT F.slot_tuple_hash (wpAny_call_entry F.slot_tuple_hash hT F.entry_tuple_hash ?_ (F.args_tuple_hash_1 _)))
  show wpAny _ _ (Builtin.Tuple.tupleItemsOf (.ref a) >>= _) _ _ s
  refine wpAny_bind (wpAny_tupleItemsOf ho hd ?_)
  refine wpAny_bind ?_
  rw [← Array.forIn_toList]
  refine forIn_two (wpAny_bind (wpAny_pyHash_str (wpAny_pure ?_)))
  refine wpAny_bind (wpAny_pyHash_int (wpAny_pure ?_))
  · show wpAny _ _ (retInt (Builtin.Tuple.tupleHashOf [hashStr w k.1, hashInt k.2])) _ _ _
    refine wpAny_ret_mkInt ?_
    show wpAny _ _ (if (decide (-(2 : Int) ^ 63 ≤ Builtin.Tuple.tupleHashOf [hashStr w k.1, hashInt k.2]) && decide (Builtin.Tuple.tupleHashOf [hashStr w k.1, hashInt k.2] < 2 ^ 63)) = true then _ else _) Q E _
    unfold pairHash reduceHash at h
    by_cases hr : (decide (-(2 : Int) ^ 63 ≤ Builtin.Tuple.tupleHashOf [hashStr w k.1, hashInt k.2]) && decide (Builtin.Tuple.tupleHashOf [hashStr w k.1, hashInt k.2] < 2 ^ 63)) = true
    · rw [if_pos hr]
      rw [if_pos hr] at h
      exact wpAny_pure h
    · rw [if_neg hr]
      rw [if_neg hr] at h
      exact wpAny_bind (wpAny_rule (wpAny_pure h))

theorem IsPair.quiet {k : Str × Int} {a : Addr} {Q : Bool → Shared → Prop} (hk : IsPair s.heap k a) (h : Q true s) : wpAny (model prog w) A (eqIsQuiet 8 (.ref a)) Q E s := by
  have hT := hk.typeIs
  obtain ⟨o, t, u, n, ho, _, hd⟩ := hk
  unfold eqIsQuiet
  refine wpAny_bind (wpAny_specialOf hT F.slot_tuple_eq.lookup ?_)
  show wpAny _ _ (isInstance (.ref a) (.type "tuple") >>= _) _ _ s
  refine wpAny_bind (wpAny_isInstance hT isSubtype_tuple_tuple ?_)
  simp only [Bool.not_true, Bool.false_eq_true, if_false]
  refine wpAny_bind (wpAny_seqItems ho hd ?_)
  refine wpAny_bind ?_
  show wpAny _ _ (forIn _ _ _) _ _ s
  rw [← Array.forIn_toList]
  refine wpAny_forIn_list _ (fun rest r s' => r.1 = none ∧ s' = s ∧ ∀ v ∈ rest, carriedByValue v = true) _ ?_ ?_ _ _ ⟨rfl, rfl, by simp [carriedByValue]⟩
  · rintro v rest r s' ⟨hr, rfl, hall⟩
    rw [eqIsQuiet_byValue _ (hall v List.mem_cons_self)]
    refine wpAny_bind (wpAny_pure ?_)
    simp only [Bool.not_true, Bool.false_eq_true, if_false]
    exact wpAny_pure ⟨rfl, rfl, fun u hu' => hall u (List.mem_cons_of_mem _ hu')⟩
  · rintro ⟨r1, r2⟩ s' ⟨hr, rfl, _⟩
    simp only at hr
    subst hr
    exact wpAny_pure h

theorem IsPair.eqTree {x y : Str × Int} {a b : Addr} {P : Fin → Shared → Prop} (hx : IsPair s.heap x a) (hy : IsPair s.heap y b) (h : P (.done (.ret (.bool (decide (x = y))))) s) :
    wpAny (model prog w) A (Builtin.«tuple.__eq__» ⟨[.ref a, .ref b], []⟩) P E s := by
  have hTb := hy.typeIs
  obtain ⟨oa, t, u, na, hoa, _, hda⟩ := hx
  obtain ⟨ob, t', u', nb, hob, _, hdb⟩ := hy
  show wpAny _ _ (isInstance (.ref b) (.type "tuple") >>= _) _ _ s
  refine wpAny_bind (wpAny_isInstance hTb isSubtype_tuple_tuple ?_)
  simp only [Bool.not_true, Bool.false_eq_true, if_false]
  refine wpAny_bind (wpAny_tupleItemsOf hoa hda ?_)
  refine wpAny_bind (wpAny_tupleItemsOf hob hdb ?_)
  refine wpAny_bind ?_
  refine forIn_two (wpAny_bind (wpAny_eqBool_str ?_))
  by_cases h1 : x.1 = y.1
  · rw [decide_eq_true h1]
    refine wpAny_pure (wpAny_bind (wpAny_eqBool_int ?_))
    by_cases h2 : x.2 = y.2
    · rw [beq_iff_eq.mpr h2]
      rw [decide_eq_true (Prod.ext h1 h2)] at h
      exact wpAny_pure (wpAny_pure h)
    · rw [beq_eq_false_iff_ne.mpr h2]
      rw [decide_eq_false fun e => h2 (congrArg (·.2) e)] at h
      exact wpAny_bind (wpAny_pure (wpAny_pure (wpAny_pure h)))
  · rw [decide_eq_false h1]
    rw [decide_eq_false fun e => h1 (congrArg (·.1) e)] at h
    exact wpAny_bind (wpAny_pure (wpAny_pure (wpAny_pure h)))

theorem IsPair.eqBool {x y : Str × Int} {a b : Addr} {Q : Bool → Shared → Prop} (hu : A.units < cLine) (hx : IsPair s.heap x a) (hy : IsPair s.heap y b) (h : Q (decide (x = y)) s) :
    wpAny (model prog w) A (PySem.eqBool (.ref a) (.ref b)) Q E s := by
  unfold PySem.eqBool
  try with_reducible refine wpAny_holding ?_
  show wpAny _ _ (if (Value.ref a == Value.ref b) = true then _ else _) Q E s
  by_cases hab : (Value.ref a == Value.ref b) = true
  · rw [if_pos hab]
    have e : a = b := by have := eq_of_beq hab; injection this
    subst e
    obtain rfl := hx.inj hy
    exact wpAny_bind (wpAny_rule (wpAny_pure (by simpa using h)))
  · rw [if_neg hab]
    exact wpAny_bind (wpAny_richCompare_same_room (op := .Eq) hx.typeIs hy.typeIs F.slot_tuple_eq
      (wpAny_call_entry F.slot_tuple_eq hx.typeIs F.entry_tuple_eq (hx.eqTree hy ⟨_, rfl, (fun e => nomatch e), wpAny_truthy_bool h⟩) (F.args_tuple_eq_2 _ _)) hu)
end

noncomputable def pairKind (prog : Program) (w : World) : HeapKind prog w (Str × Int) where
  is := IsPair
  hash := pairHash w
  draws := fun _ => 3
  room := fun A => A.units < cLine
  inj := fun hx hy => hx.inj hy
  keeps := fun x ho hd hs => x.keeps ho hd hs
  pyHash := fun hu hk h => hk.pyHash hu h
  eqBool := fun hu hx hy h => hx.eqBool hu hy h
  quiet := fun hk h => hk.quiet h
end Mine

namespace Mine
open PySem PySem.Calls PyProof.Rows

/-- a namespace with its class told -/
inductive NsC (h : Heap) (a : Addr) (c : String) (m : Str → Option Value) : Prop where
  | mk (o : Obj) (es : Array DictEntry) (ep : Nat) (h1 : h.get? a = some o) (h2 : o.cls = .type c) (h3 : o.dict = none) (h4 : o.data = .dict es ep) (h5 : StrKeys es) (h6 : UniqKeys es) (h7 : ∀ name, nsFind es name = m name) : NsC h a c m

theorem NsC.ns {h : Heap} {a : Addr} {c : String} {m} (x : NsC h a c m) : h.Ns a m := x.rec fun o es ep h1 _ _ h4 h5 _ h7 => ⟨o, es, ep, h1, h4, h5, h7⟩
theorem NsC.of_slots {h h' : Heap} {a : Addr} {c : String} {m} (x : NsC h a c m) (k : ∀ o, h.get? a = some o → ∃ sl, h'.get? a = some { o with slots := sl }) : NsC h' a c m :=
  x.rec fun o es ep h1 h2 h3 h4 h5 h6 h7 => Exists.elim (k o h1) fun _ e => ⟨_, es, ep, e, h2, h3, h4, h5, h6, h7⟩
theorem NsC.sameBut {h h' : Heap} {a b : Addr} {c : String} {m} (x : NsC h a c m) (hs : Heap.SameBut b h h') (hab : a ≠ b) : NsC h' a c m :=
  x.rec fun o es ep h1 h2 h3 h4 h5 h6 h7 => ⟨o, es, ep, (hs.2 a hab).trans h1, h2, h3, h4, h5, h6, h7⟩

/-- a dict of at most n entries -/
noncomputable def DSz (h : Heap) (a : Addr) (n : Nat) : Prop := ∀ o es ep, h.get? a = some o → o.data = .dict es ep → es.size ≤ n

section
variable {M : Model} {A : Around} {E : Value → Shared → Prop} {s : Shared}

theorem nsSetC {a : Addr} {c : String} {m} {name : Str} {v : Value} {Q : Unit → Shared → Prop} (hn : NsC s.heap a c m)
    (hQ : ∀ h', NsC h' a c (fun x => if x = name then some v else m x) → Heap.SameBut a s.heap h' → (∀ n, DSz s.heap a n → DSz h' a (if (m name).isSome then n else n + 1)) → Q () { s with heap := h', toks := s.toks + 1 }) :
    wpAny M A (nsSet a name v) Q E s := by
  intro Γ p _
  obtain ⟨o, es, ep, ho, hc, hdi, hd, hk, hu, hm⟩ := hn
  simp only [nsSet, strHash, Sem.wp_bind', Sem.wp_cmd_ask, Sem.wp_pure', Sem.wp_cmd_mkText]
  rw [Sem.wp_loadPart_of M Γ _ p { s with toks := s.toks + 1 } (o := o) _ ho]
  have hany : es.any (·.refKey) = false := by
    rw [Array.any_eq_false']; intro e he; obtain ⟨n, t, h⟩ := hk e he; simp [DictEntry.refKey, h]
  simp only [hd, aRefKeyMayBeTheName_eq, aRefKeyMayBeTheNameByArray, hany, Bool.and_false, Bool.false_eq_true, if_false, Sem.wp_cmd_updatePart]
  refine ⟨by rw [ho]; rfl, hQ _ ?_ (Heap.SameBut.update ..) fun n hz o' es' ep' ho' hd' => ?_⟩
  rotate_left
  · have h0 := hz _ _ _ ho hd
    have hf : nsFind es name = (es.find? (·.key.isStr name)).map (·.val) := rfl
    have hm' := hm name
    obtain ⟨c', d, dt, sl⟩ := o
    subst hd
    cases hi : es.findIdx? (·.key.isStr name) with
    | some i =>
      rw [Heap.get?_update_self _ ho (by simp only [Obj.putName_eq, Obj.putNameByArray, hi]; rfl)] at ho'
      cases ho'
      simp only [Obj.putName_eq, Obj.putNameByArray, hi, Data.dict.injEq] at hd'
      have : es'.size = es.size := by rw [← hd'.1]; simp
      have : n ≤ (if (m name).isSome then n else n + 1) := by split <;> (clear hQ hany h0 hi hd' this; lia)
      (clear hd' hi hany hQ; lia)
    | none =>
      rw [Heap.get?_update_self _ ho (by simp only [Obj.putName_eq, Obj.putNameByArray, hi]; rfl)] at ho'
      cases ho'
      simp only [Obj.putName_eq, Obj.putNameByArray, hi, Data.dict.injEq] at hd'
      have h1 : es'.size = es.size + 1 := by rw [← hd'.1]; simp
      have : m name = none := by
        rw [← hm', hf]
        rw [Array.findIdx?_eq_none_iff] at hi
        rw [Array.find?_eq_none.mpr (fun x hx => by simpa using hi x hx)]; rfl
      rw [this]; simp; (clear hd' hi hany hQ; lia)
  obtain ⟨c', d, dt, sl⟩ := o
  subst hd
  cases hi : es.findIdx? (·.key.isStr name) with
  | some i =>
    refine ⟨_, _, ep, Heap.get?_update_self _ ho (by simp only [Obj.putName_eq, Obj.putNameByArray, hi]; rfl), by simp only [Obj.putName_eq, Obj.putNameByArray, hi]; exact hc, by simp only [Obj.putName_eq, Obj.putNameByArray, hi]; exact hdi, by simp only [Obj.putName_eq, Obj.putNameByArray, hi]; rfl, hk.modify _ _, hu.modify _ _, fun x => ?_⟩
    show _ = if x = name then some v else m x
    rw [← hm]; exact findBy_modify (fun n v => v.isStr n) Value.isStr_inj es name x v i hi
  | none =>
    refine ⟨_, _, ep + 1, Heap.get?_update_self _ ho (by simp only [Obj.putName_eq, Obj.putNameByArray, hi]; rfl), by simp only [Obj.putName_eq, Obj.putNameByArray, hi]; exact hc, by simp only [Obj.putName_eq, Obj.putNameByArray, hi]; exact hdi, by simp only [Obj.putName_eq, Obj.putNameByArray, hi]; rfl, hk.push _ _ _ _, hu.push _ _ _ _ hi, fun x => ?_⟩
    show _ = if x = name then some v else m x
    rw [← hm]
    exact findBy_push (fun n v => v.isStr n) es name x _ _ v (fun y => by
      show (name == y) = decide (y = name)
      by_cases h : y = name
      · subst h; simp
      · have : ¬ name = y := fun e => h e.symm
        simp [h, this]) hi
end

/-- a list of the program's own -/
noncomputable def ListAt (h : Heap) (a : Addr) (items : List Value) : Prop := ∃ n, h.get? a = some ⟨.type "list", none, .seq items.toArray n, #[]⟩

noncomputable abbrev KVRel (T : Tp) (ι : Inj) (h : Heap) : List (Str × V) → List (Str × Value) → Prop := KRel (VRel T ι h)
noncomputable abbrev TKRel (T : Tp) (ι : Inj) (h : Heap) : List ((Str × Int) × V) → List ((Str × Int) × Addr × Value) → Prop := KRel fun v p => VRel T ι h v p.2

noncomputable def ORel (T : Tp) (ι : Inj) (h : Heap) : MObj → Addr × Addr → Prop
  | .list vs, p => p.1 = p.2 ∧ ∃ items, ListAt h p.1 items ∧ VRels T ι h vs items
  | .sdict kvs, p => p.1 = p.2 ∧ ∃ rvs, h.DictOf (strKind T.prog T.w) p.1 rvs ∧ KVRel T ι h kvs rvs
  | .tdict kvs, p => p.1 = p.2 ∧ ∃ xs, h.DictOfH (pairKind T.prog T.w) p.1 xs ∧ TKRel T ι h kvs xs
  | .inst c fs, p => ∃ C m sl, T.c c = some C ∧ h.get? p.1 = some ⟨.ref C, some p.2, .plain, sl⟩ ∧ NsC h p.2 "dict" m ∧ (∀ x, ORelV T ι h (fs.lookup x) (m x)) ∧ DSz h p.2 fs.length

structure Rep (T : Tp) (ι : Inj) (σ : Hp) (h : Heap) : Prop where
  len : ι.length = σ.length
  big : 10 ≤ T.b0.objs.size
  size : T.b0.objs.size ≤ h.objs.size
  base : ∀ a o, T.b0.get? a = some o → h.get? a = some o
  objs : ∀ (l : Nat) (o : MObj) (p : Addr × Addr), σ[l]? = some o → ι[l]? = some p → ORel T ι h o p
  fresh : ∀ p ∈ ι, T.b0.objs.size ≤ p.1 ∧ T.b0.objs.size ≤ p.2
  apart : ∀ (i j : Nat) (p q : Addr × Addr), ι[i]? = some p → ι[j]? = some q → i ≠ j → p.1 ≠ q.1 ∧ p.1 ≠ q.2 ∧ p.2 ≠ q.1 ∧ p.2 ≠ q.2

theorem IsPair.mono {ι ι' : Inj} {h h' : Heap} {k : Str × Int} {a : Addr} (m : Mono ι h ι' h') (x : IsPair h k a) : IsPair h' k a := by
  obtain ⟨o, t, u, n, ho, hc, hd⟩ := x
  exact ⟨o, t, u, n, m.frz _ _ ho (by simp [frozen, hc]), hc, hd⟩

/-- what an object of the mini heap is -/
theorem ORel.cls {T : Tp} {ι : Inj} {h : Heap} {o : MObj} {p : Addr × Addr} (e : ORel T ι h o p) {a : Addr} (ha : a = p.1 ∨ a = p.2) : ∃ x, h.get? a = some x ∧ ((∃ C, x.cls = .ref C) ∨ x.cls = .type "list" ∨ x.cls = .type "dict") := by
  have one : ∀ {x}, p.1 = p.2 → h.get? p.1 = some x → h.get? a = some x := fun e g => by rcases ha with q | q <;> rw [q] <;> first | exact g | exact e ▸ g
  cases o
  · obtain ⟨e, _, ⟨_, x⟩, _⟩ := e; exact ⟨_, one e x, .inr (.inl rfl)⟩
  · obtain ⟨e, _, ⟨_, _, _, x, ex, _⟩, _⟩ := e; exact ⟨_, one e x, .inr (.inr ex.1)⟩
  · obtain ⟨e, _, ⟨_, _, _, x, ex, _⟩, _⟩ := e; exact ⟨_, one e x, .inr (.inr ex.1)⟩
  · obtain ⟨C, _, _, _, x, y, _⟩ := e
    rcases ha with q | q <;> rw [q]
    · exact ⟨_, x, .inl ⟨C, rfl⟩⟩
    · obtain ⟨o, _, _, y, yc, _⟩ := y; exact ⟨o, y, .inr (.inr yc)⟩
theorem ORel.lt {T : Tp} {ι : Inj} {h : Heap} {o : MObj} {p : Addr × Addr} (e : ORel T ι h o p) : p.1 < h.objs.size ∧ p.2 < h.objs.size :=
  ⟨Exists.elim (e.cls (.inl rfl)) fun _ g => Heap.lt_size g.1, Exists.elim (e.cls (.inr rfl)) fun _ g => Heap.lt_size g.1⟩

theorem Rep.lt {T : Tp} {ι : Inj} {σ : Hp} {h : Heap} (r : Rep T ι σ h) {p : Addr × Addr} (hp : p ∈ ι) : p.1 < h.objs.size ∧ p.2 < h.objs.size := by
  obtain ⟨l, hl, rfl⟩ := List.getElem_of_mem hp
  have hl' : l < σ.length := by rw [← r.len]; exact hl
  exact (r.objs l σ[l] ι[l] (List.getElem?_eq_getElem hl') (List.getElem?_eq_getElem hl)).lt
theorem Rep.own_lt {T : Tp} {ι : Inj} {σ : Hp} {h : Heap} (r : Rep T ι σ h) {a : Addr} (ha : a ∈ own ι) : a < h.objs.size := by
  obtain ⟨p, hp, e⟩ := mem_own.mp ha
  rcases e with rfl | rfl
  · exact (r.lt hp).1
  · exact (r.lt hp).2

/-- an object of the mini heap stands in a later heap that keeps its own one or two objects -/
theorem ORel.keeps {T : Tp} {ι ι' : Inj} {h h' : Heap} (m : Mono ι h ι' h') {o : MObj} {p : Addr × Addr} (k : ∀ x, h.get? p.1 = some x → h'.get? p.1 = some x) (k' : ∀ x, h.get? p.2 = some x → h'.get? p.2 = some x) (e : ORel T ι h o p) : ORel T ι' h' o p := by
  cases o
  · obtain ⟨e, items, ⟨n, x⟩, r⟩ := e; exact ⟨e, items, ⟨n, k _ x⟩, r.mono m⟩
  · obtain ⟨e, rvs, ⟨o, es, ep, x, r⟩, q⟩ := e; exact ⟨e, rvs, ⟨o, es, ep, k _ x, r⟩, q.imp fun _ _ r => r.mono m⟩
  · obtain ⟨e, rvs, ⟨o, es, ep, x, c, dd, ee, y, r⟩, q⟩ := e; exact ⟨e, rvs, ⟨o, es, ep, k _ x, c, dd, ee, fun z hz => IsPair.mono m (y z hz), r⟩, q.imp fun _ _ r => r.mono m⟩
  · obtain ⟨C, mm, sl, c, x, y, r, dz⟩ := e
    obtain ⟨o', es', ep', e', z1, z2, z3, z4, z5, z6⟩ := y
    have e2 := k' _ e'
    refine ⟨C, mm, sl, c, k _ x, ⟨o', es', ep', e2, z1, z2, z3, z4, z5, z6⟩, fun z => ORelV.mono m (r z), fun o es ep e hd => ?_⟩
    rw [e2] at e; cases e
    exact dz _ _ _ e' hd

/-- the mini heap stands in a later heap that keeps all its objects -/
theorem Rep.keeps {T : Tp} {ι : Inj} {σ : Hp} {h h' : Heap} (r : Rep T ι σ h) (m : Mono ι h ι h') (hs : h.objs.size ≤ h'.objs.size) (hb : ∀ a o, T.b0.get? a = some o → h'.get? a = some o) (k : ∀ a ∈ own ι, ∀ o, h.get? a = some o → h'.get? a = some o) : Rep T ι σ h' where
  len := r.len
  big := r.big
  size := Nat.le_trans r.size hs
  base := hb
  objs := fun l o p e q => (r.objs l o p e q).keeps m (k _ (mem_own.mpr ⟨p, List.mem_of_getElem? q, .inl rfl⟩)) (k _ (mem_own.mpr ⟨p, List.mem_of_getElem? q, .inr rfl⟩))
  fresh := r.fresh
  apart := r.apart
theorem Rep.grow {T : Tp} {ι : Inj} {σ : Hp} {h h' : Heap} (r : Rep T ι σ h) (hs : h.objs.size ≤ h'.objs.size) (k : ∀ a o, h.get? a = some o → h'.get? a = some o) : Rep T ι σ h' :=
  r.keeps ⟨⟨[], by simp⟩, fun _ o e _ => ⟨o, k _ _ e, rfl⟩, fun _ _ e _ => k _ _ e⟩ hs (fun a o e => k _ _ (r.base a o e)) fun a _ o e => k a o e
theorem Rep.push {T : Tp} {ι : Inj} {σ : Hp} {h : Heap} (r : Rep T ι σ h) (o : Obj) : Rep T ι σ (h.push o) :=
  r.grow (by rw [Heap.size_push]; exact Nat.le_of_lt (Nat.lt_succ_self h.objs.size)) fun _ _ e => Heap.get?_push_of_some _ e

/-- one object more -/
theorem Rep.more {T : Tp} {ι : Inj} {σ : Hp} {h : Heap} (r : Rep T ι σ h) {o : MObj} {p : Addr × Addr} (ho : ORel T (ι ++ [p]) h o p) (h1 : T.b0.objs.size ≤ p.1) (h2 : T.b0.objs.size ≤ p.2) (n1 : p.1 ∉ own ι) (n2 : p.2 ∉ own ι) :
    Rep T (ι ++ [p]) (σ ++ [o]) h where
  len := by simp [r.len]
  big := r.big
  size := r.size
  base := r.base
  objs := fun l x q e e' => by
    have m : Mono ι h (ι ++ [p]) h := ⟨⟨[p], rfl⟩, fun _ o e _ => ⟨o, e, rfl⟩, fun _ _ e _ => e⟩
    rcases Nat.lt_or_ge l σ.length with hl | hl
    · rw [List.getElem?_append_left hl] at e
      rw [List.getElem?_append_left (by rw [r.len]; exact hl)] at e'
      exact (r.objs l x q e e').keeps m (fun _ z => z) fun _ z => z
    · rw [List.getElem?_append_right hl] at e
      rw [List.getElem?_append_right (by rw [r.len]; exact hl), r.len] at e'
      rcases Nat.eq_zero_or_pos (l - σ.length) with z | z
      · rw [z] at e e'
        simp only [List.getElem?_cons_zero, Option.some.injEq] at e e'
        subst e e'; exact ho
      · rw [List.getElem?_eq_none (by simp; (clear hl e' h1 h2 e; exact z))] at e; cases e
  fresh := fun q hq => by
    rcases List.mem_append.mp hq with hq | hq
    · exact r.fresh q hq
    · cases List.mem_singleton.mp hq; exact ⟨h1, h2⟩
  apart := fun i j q q' e e' hij => by
    have key : ∀ (k : Nat) (x : Addr × Addr), (ι ++ [p])[k]? = some x → (k < ι.length ∧ ι[k]? = some x) ∨ (k = ι.length ∧ x = p) := fun k x e => by
      rcases Nat.lt_or_ge k ι.length with hl | hl
      · rw [List.getElem?_append_left hl] at e; exact .inl ⟨hl, e⟩
      · rw [List.getElem?_append_right hl] at e
        rcases Nat.eq_zero_or_pos (k - ι.length) with z | z
        · rw [z] at e; simp only [List.getElem?_cons_zero, Option.some.injEq] at e; exact .inr ⟨by (clear hij h1 h2 e'; lia), e.symm⟩
        · rw [List.getElem?_eq_none (by simp; (clear hl hij e h1 h2 e'; exact z))] at e; cases e
    have no : ∀ x : Addr × Addr, x ∈ ι → p.1 ≠ x.1 ∧ p.1 ≠ x.2 ∧ p.2 ≠ x.1 ∧ p.2 ≠ x.2 := fun x hx =>
      ⟨fun z => n1 (mem_own.mpr ⟨x, hx, .inl z⟩), fun z => n1 (mem_own.mpr ⟨x, hx, .inr z⟩), fun z => n2 (mem_own.mpr ⟨x, hx, .inl z⟩), fun z => n2 (mem_own.mpr ⟨x, hx, .inr z⟩)⟩
    rcases key i q e with ⟨hi, ei⟩ | ⟨hi, rfl⟩ <;> rcases key j q' e' with ⟨hj, ej⟩ | ⟨hj, rfl⟩
    · exact r.apart i j q q' ei ej hij
    · obtain ⟨a, b, c, d⟩ := no q (List.mem_of_getElem? ei)
      exact ⟨a.symm, c.symm, b.symm, d.symm⟩
    · exact no q' (List.mem_of_getElem? ej)
    · (clear h2 e e' key h1; lia)

/-- one object turned -/
theorem Rep.turn {T : Tp} {ι : Inj} {σ : Hp} {h h' : Heap} (r : Rep T ι σ h) {l : Nat} {p : Addr × Addr} {o : MObj} {a : Addr} (hp : ι[l]? = some p) (m : Mono ι h ι h') (hs : Heap.SameBut a h h') (ha : a = p.1 ∨ a = p.2)
    (ho : ORel T ι h' o p) : Rep T ι (σ.set l o) h' where
  len := by simp [r.len]
  big := r.big
  size := Nat.le_trans r.size (Nat.le_of_eq hs.1.symm)
  base := fun b x e => by
    have hne : b ≠ a := fun q => by
      have h1 := Heap.lt_size e
      have h2 := r.fresh p (List.mem_of_getElem? hp)
      rw [q] at h1
      rcases ha with ha | ha <;> rw [ha] at h1
      · exact absurd h2.1 (Nat.not_le.mpr h1)
      · exact absurd h2.2 (Nat.not_le.mpr h1)
    exact (hs.2 b hne).trans (r.base b x e)
  objs := fun k x q e e' => by
    by_cases hk : k = l
    · subst hk
      rw [hp] at e'; cases e'
      rw [List.getElem?_set_self (by rw [← r.len]; exact (List.getElem?_eq_some_iff.mp hp).1)] at e
      cases e; exact ho
    · rw [List.getElem?_set_ne (fun z => hk z.symm)] at e
      have := r.apart k l q p e' hp hk
      have keep : ∀ b, b = q.1 ∨ b = q.2 → ∀ z, h.get? b = some z → h'.get? b = some z := fun b hb z hz => (hs.2 b (fun y => by
        rcases ha with rfl | rfl <;> rcases hb with rfl | rfl <;> simp_all)).trans hz
      exact (r.objs k x q e e').keeps m (keep _ (.inl rfl)) (keep _ (.inr rfl))
  fresh := r.fresh
  apart := r.apart

end Mine

namespace Mine
open PySem PySem.Calls PyProof.Rows

noncomputable abbrev Loc := Str → Option V
noncomputable def upd (ρ : Loc) (x : Str) (v : Option V) : Loc := fun y => if y = x then v else ρ y

/-- what is being handled: an own exception without a context -/
inductive HandV (ι : Inj) (h : Heap) (v : Value) : Prop where
  | mk (ea : Addr) (o : Obj) (C : Addr) (vs : Array Value) (e1 : v = .ref ea) (e2 : h.get? ea = some o) (e3 : o.cls = .ref C) (e4 : o.data = .fields vs) (e5 : vs[2]? = some .none) (e6 : ea ∉ own ι) : HandV ι h v
noncomputable def HandAt (A : Around) (ι : Inj) (h : Heap) : Prop := ∀ v, A.handled = some v → HandV ι h v
theorem HandAt.none {A : Around} {ι : Inj} {h : Heap} (e : A.handled = .none) : HandAt A ι h := fun v q => by rw [e] at q; cases q
theorem HandAt.keep {A : Around} {ι ι' : Inj} {h h' : Heap} (x : HandAt A ι h) (k : ∀ a o C, h.get? a = some o → o.cls = .ref C → a ∉ own ι → h'.get? a = some o ∧ a ∉ own ι') : HandAt A ι' h' := fun v q =>
  (x v q).rec fun ea o C vs e1 e2 e3 e4 e5 e6 => ⟨ea, o, C, vs, e1, (k ea o C e2 e3 e6).1, e3, e4, e5, (k ea o C e2 e3 e6).2⟩
theorem ne_type {c : Value} {C : Addr} {n : String} (e : c = .ref C) : c ≠ .type n := fun q => nomatch e.symm.trans q
theorem HandAt.ext {T : Tp} {F : List Addr} {A : Around} {ι ι' : Inj} {h h' : Heap} (x : HandAt A ι h) (e : Ext T F ι h ι' h') (hF : ∀ a ∈ F, ∃ o, h.get? a = some o ∧ itr o = false) : HandAt A ι' h' :=
  x.keep fun a o C e1 e2 e3 => ⟨e.keep a o e1 e3 (fun q => Exists.elim (hF a q) fun o' g => itr_ref g.2 ((sm_inj (g.1.symm.trans e1)).symm ▸ e2)) (ne_type e2), e.not_own e3 (Heap.lt_size e1)⟩
/-- a frame below -/
inductive FunAt (T : Tp) (ι : Inj) (h : Heap) (e : Env) : Prop where
  | mk (k : e.scope.kind = .function) (L : Addr) (o : Obj) (es : Array DictEntry) (ep : Nat) (f : e.frame = some L) (n : L ∉ own ι) (b : T.b0.objs.size ≤ L) (g : h.get? L = some o) (c : o.cls = .type "frame") (dd : o.data = .dict es ep) : FunAt T ι h e
/-- the frames below, the room, and what is being handled -/
structure AOk (T : Tp) (A : Around) (fs : List Env) (d : Nat) (ι : Inj) (h : Heap) : Prop where
  frames : A.frames = some fs
  funs : ∀ e ∈ fs, FunAt T ι h e
  depth : A.depth + d ≤ recursionLimit
  units : A.units + 10 * d + 50 ≤ cLine
  hd : T.hd = false → A.handled = none
  hx : HandAt A ι h

/-- the class of a frame's names: a comprehension's are a dict -/
noncomputable def nsCls (env : Env) (c : String) : Prop := (c = "frame" ∨ c = "dict") ∧ (env.frame ≠ some env.locals → c = "dict")
inductive NsAt (T : Tp) (env : Env) (ρ : Loc) (ι : Inj) (h : Heap) : Prop where
  | mk (c : String) (m : Str → Option Value) (hc : nsCls env c) (hn : NsC h env.locals c m) (r : ∀ x, env.kindOf x = some .local → ORelV T ι h (ρ x) (m x)) : NsAt T env ρ ι h
inductive CellAt (T : Tp) (env : Env) (ρ : Loc) (ι : Inj) (h : Heap) (x : Str) : Prop where
  | mk (c : Addr) (o : Obj) (v : Option Value) (e1 : env.cells.lookup x = some c) (e2 : h.get? c = some o) (e3 : o.cls = .type "cell") (e4 : o.data = .cell v) (e5 : ORelV T ι h (ρ x) v) (e6 : c ∉ own ι) : CellAt T env ρ ι h x
inductive There (h : Heap) (a : Addr) : Prop where
  | mk (o : Obj) (h1 : h.get? a = some o) (h2 : frozen o = false) (h3 : itr o = false) : There h a
theorem There.lt {h : Heap} {a : Addr} (x : There h a) : a < h.objs.size := x.rec fun _ h1 _ _ => Heap.lt_size h1
theorem There.at {h : Heap} {a : Addr} {o : Obj} (x : There h a) (ho : h.get? a = some o) : frozen o = false ∧ itr o = false := x.rec fun _ h1 h2 h3 => sm_inj (h1.symm.trans ho) ▸ ⟨h2, h3⟩
/-- the names of the frame at hand -/
structure Frm (T : Tp) (env : Env) (F : List Addr) (ρ : Loc) (ι : Inj) (h : Heap) : Prop where
  kind : env.scope.kind = .function
  glb : env.globals = mainGlobals
  blt : env.builtins = builtinsNs
  ns : NsAt T env ρ ι h
  cells : ∀ x, env.kindOf x = some .cell ∨ env.kindOf x = some .free → CellAt T env ρ ι h x
  inj : ∀ x y c, (env.kindOf x = some .cell ∨ env.kindOf x = some .free) → (env.kindOf y = some .cell ∨ env.kindOf y = some .free) → env.cells.lookup x = some c → env.cells.lookup y = some c → x = y
  loc : env.locals ∈ F
  cin : ∀ x c, env.kindOf x = some .cell → env.cells.lookup x = some c → c ∈ F
  apart : ∀ a ∈ F, a ∉ own ι ∧ T.b0.objs.size ≤ a
  there : ∀ a ∈ F, There h a
inductive TopAt (fs : List Env) (env : Env) : Prop where
  | mk (e : Env) (r : List Env) (L : Addr) (h1 : fs = e :: r) (h2 : e.frame = some L) (h3 : env.frame = some L) : TopAt fs env

structure Inv (T : Tp) (A : Around) (fs : List Env) (d : Nat) (env : Env) (F : List Addr) (ρ : Loc) (ι : Inj) (σ : Hp) (s : Shared) : Prop where
  rep : Rep T ι σ s.heap
  aok : AOk T A fs d ι s.heap
  frm : Frm T env F ρ ι s.heap
  top : TopAt fs env
  gens : s.gens = #[]
  os : s.os = T.os

/-- what a frame below needs of the next heap -/
theorem AOk.keeps {T : Tp} {A : Around} {fs : List Env} {d : Nat} {ι ι' : Inj} {h h' : Heap} (x : AOk T A fs d ι h) (no : ∀ a, a ∉ own ι → a < h.objs.size → a ∉ own ι') (k : ∀ a o, h.get? a = some o → a ∉ own ι → o.cls = .type "frame" → ∃ sl, h'.get? a = some { o with slots := sl }) (hx : HandAt A ι' h') : AOk T A fs d ι' h' :=
  ⟨x.frames, fun e he => (x.funs e he).rec fun k1 L o es ep f n b g c dd => Exists.elim (k L o g n c) fun _ g' => ⟨k1, L, _, es, ep, f, no L n (Heap.lt_size g), b, g', c, dd⟩, x.depth, x.units, x.hd, hx⟩
theorem frozen_eq {o o' : Obj} (h : o'.cls = o.cls) : frozen o' = frozen o := by unfold frozen; rw [h]
/-- what the names of a frame stand in -/
noncomputable def nsO (o : Obj) : Prop := ∃ n, o.cls = .type n ∧ (n = "frame" ∨ n = "dict" ∨ n = "cell")
theorem nsO.itr {o : Obj} (h : nsO o) : itr o = false := Exists.elim h fun n h => by
  unfold Mine.itr iterish; rw [h.1]
  rcases h.2 with e | e | e <;> rw [e] <;> decide
theorem nsO.tb {o : Obj} (h : nsO o) : o.cls ≠ .type "traceback" := Exists.elim h fun n h q => by
  have e := Value.type.inj (h.1.symm.trans q)
  rcases h.2 with e' | e' | e' <;> rw [e'] at e <;> exact absurd e (by decide)
/-- what the frame at hand needs of the next heap -/
theorem Frm.keeps {T : Tp} {env : Env} {F : List Addr} {ρ : Loc} {ι ι' : Inj} {h h' : Heap} (x : Frm T env F ρ ι h) (m : Mono ι h ι' h') (no : ∀ a, a ∉ own ι → a < h.objs.size → a ∉ own ι')
    (kf : ∀ a o, h.get? a = some o → a ∈ F → itr o = false → ∃ o', h'.get? a = some o' ∧ o'.cls = o.cls)
    (k : ∀ a o, h.get? a = some o → a ∉ own ι → nsO o → (a ∈ F ∨ o.cls = .type "cell") → ∃ sl, h'.get? a = some { o with slots := sl }) : Frm T env F ρ ι' h' where
  kind := x.kind
  glb := x.glb
  blt := x.blt
  ns := x.ns.rec fun c mm hc hn r => ⟨c, mm, hc, hn.of_slots fun o ho => k _ o ho (x.apart _ x.loc).1 ⟨c, hn.rec fun o' _ _ h1 h2 _ _ _ _ _ => sm_inj (h1.symm.trans ho) ▸ h2, hc.1.imp id .inl⟩ (.inl x.loc), fun y hy => (r y hy).mono m⟩
  cells := fun y hy => (x.cells y hy).rec fun c o v e1 e2 e3 e4 e5 e6 => Exists.elim (k c o e2 e6 ⟨_, e3, .inr (.inr rfl)⟩ (.inr e3)) fun _ g => ⟨c, _, v, e1, g, e3, e4, e5.mono m, no c e6 (Heap.lt_size e2)⟩
  inj := x.inj
  loc := x.loc
  cin := x.cin
  apart := fun a ha => ⟨no a (x.apart a ha).1 (x.there a ha).lt, (x.apart a ha).2⟩
  there := fun a ha => (x.there a ha).rec fun o h1 h2 h3 => Exists.elim (kf a o h1 ha h3) fun _ g => ⟨_, g.1, (frozen_eq g.2).trans h2, (itr_eq g.2).trans h3⟩

theorem AOk.ext {T : Tp} {A : Around} {fs : List Env} {d : Nat} {ι ι' : Inj} {h h' : Heap} {F : List Addr} (x : AOk T A fs d ι h) (e : Ext T F ι h ι' h')
    (hF : ∀ en ∈ fs, ∀ L, en.frame = some L → L ∈ F → ∃ o es ep, h'.get? L = some o ∧ o.data = .dict es ep) (hG : ∀ a ∈ F, ∃ o, h.get? a = some o ∧ itr o = false) : AOk T A fs d ι' h' where
  frames := x.frames
  funs := fun en hen => by
    obtain ⟨k, L, o, es, ep, f, n, b, g, c, dd⟩ := x.funs en hen
    have n' := e.not_own n (Heap.lt_size g)
    by_cases q : L ∈ F
    · obtain ⟨o', es', ep', g', d'⟩ := hF en hen L f q
      obtain ⟨o₂, g₂, c₂⟩ := e.cls L o g (by simp [loose, c])
      exact ⟨k, L, o', es', ep', f, n', b, g', sm_inj (g₂.symm.trans g') ▸ c₂.trans c, d'⟩
    · obtain ⟨sl, g'⟩ := e.frm L o g n q
      exact ⟨k, L, _, es, ep, f, n', b, g', c, dd⟩
  depth := x.depth
  units := x.units
  hd := x.hd
  hx := x.hx.ext e hG
theorem AOk.ext0 {T : Tp} {A : Around} {fs : List Env} {d : Nat} {ι ι' : Inj} {h h' : Heap} (x : AOk T A fs d ι h) (e : Ext T [] ι h ι' h') : AOk T A fs d ι' h' :=
  x.keeps (fun _ n l => e.not_own n l) (fun a o g n _ => e.frm a o g n List.not_mem_nil) (x.hx.ext e fun _ q => nomatch q)
theorem Frm.ext {T : Tp} {env : Env} {F : List Addr} {ρ : Loc} {ι ι' : Inj} {h h' : Heap} (x : Frm T env F ρ ι h) (e : Ext T [] ι h ι' h') : Frm T env F ρ ι' h' :=
  x.keeps e.mono (fun _ n l => e.not_own n l) (fun a o g ha _ => Exists.elim (e.frm a o g (x.apart a ha).1 List.not_mem_nil) fun _ g => ⟨_, g, rfl⟩) fun a o g n _ _ => e.frm a o g n List.not_mem_nil

theorem Inv.ext {T : Tp} {A : Around} {fs : List Env} {d : Nat} {env : Env} {F : List Addr} {ρ : Loc} {ι ι' : Inj} {σ σ' : Hp} {s s' : Shared} (x : Inv T A fs d env F ρ ι σ s) (e : Ext T [] ι s.heap ι' s'.heap) (r : Rep T ι' σ' s'.heap)
    (hg : s'.gens = #[]) (ho : s'.os = T.os) : Inv T A fs d env F ρ ι' σ' s' :=
  ⟨r, x.aok.ext0 e, x.frm.ext e, x.top, hg, ho⟩

noncomputable abbrev QE := V → Hp → Prop
noncomputable abbrev QX := Str → Hp → Prop

/-- a traceback that was made behind lo -/
inductive TbAt (lo : Nat) (ea : Addr) (h : Heap) (v : Value) : Prop where
  | mk (tb : Addr) (ot : Obj) (ts : Array Value) (h0 : v = .ref tb) (h1 : lo ≤ tb) (h2 : tb ≠ ea) (h3 : h.get? tb = some ot) (h4 : ot.cls = .type "traceback") (h5 : ot.data = .fields ts) (h6 : 3 < ts.size) : TbAt lo ea h v
/-- the exception e of the own class c is under way; it was made behind lo -/
inductive Fly (T : Tp) (lo : Nat) (ea : Addr) (c : Str) (h : Heap) : Prop where
  | mk (C : Addr) (oe : Obj) (vs : Array Value) (v : Value) (h0 : T.hd = false ∧ T.c c = some C) (h1 : lo ≤ ea) (h2 : h.get? ea = some oe) (h3 : oe.cls = .ref C) (h4 : oe.data = .fields vs) (h5 : 5 < vs.size) (h6 : vs[2]? = some .none) (h7 : vs[1]? = some v) (h8 : (v = .none ∨ TbAt lo ea h v)) : Fly T lo ea c h
/-- and it has its traceback -/
inductive FlyT (T : Tp) (lo : Nat) (ea : Addr) (c : Str) (h : Heap) : Prop where
  | mk (C : Addr) (oe : Obj) (vs : Array Value) (v : Value) (h0 : T.hd = false ∧ T.c c = some C) (h1 : lo ≤ ea) (h2 : h.get? ea = some oe) (h3 : oe.cls = .ref C) (h4 : oe.data = .fields vs) (h5 : 5 < vs.size) (h6 : vs[2]? = some .none) (h7 : vs[1]? = some v) (h8 : TbAt lo ea h v) : FlyT T lo ea c h
theorem FlyT.fly {T : Tp} {lo : Nat} {ea : Addr} {c : Str} {h : Heap} (x : FlyT T lo ea c h) : Fly T lo ea c h :=
  by obtain ⟨C, oe, vs, v, a, b, d, e, f, g, i, j, k⟩ := x; exact ⟨C, oe, vs, v, a, b, d, e, f, g, i, j, .inr k⟩

/-- behind a tree that hands on a value -/
inductive PostE (T : Tp) (F : List Addr) (Q : QE) (ι : Inj) (h : Heap) (x : Value) (s' : Shared) : Prop where
  | mk (v : V) (σ' : Hp) (ι' : Inj) (h0 : Q v σ') (h1 : VRel T ι' s'.heap v x) (h2 : Rep T ι' σ' s'.heap) (h3 : Ext T F ι h ι' s'.heap) (h4 : s'.gens = #[]) (h5 : s'.os = T.os) : PostE T F Q ι h x s'
inductive PostX (T : Tp) (F : List Addr) (X : QX) (ι : Inj) (h : Heap) (x : Value) (s' : Shared) : Prop where
  | mk (ea : Addr) (c : Str) (σ' : Hp) (ι' : Inj) (h0 : x = .ref ea) (h1 : X c σ') (h2 : Fly T h.objs.size ea c s'.heap) (h3 : ea ∉ own ι') (h4 : Rep T ι' σ' s'.heap) (h5 : Ext T F ι h ι' s'.heap) (h6 : s'.gens = #[]) (h7 : s'.os = T.os) : PostX T F X ι h x s'

theorem PostE.trans {T : Tp} {F : List Addr} {Q : QE} {ι ι₁ : Inj} {h h₁ : Heap} {x : Value} {s' : Shared} (e : Ext T F ι h ι₁ h₁) (p : PostE T F Q ι₁ h₁ x s') : PostE T F Q ι h x s' :=
  by obtain ⟨v, σ', ι', q, r, rp, e', g, o⟩ := p; exact ⟨v, σ', ι', q, r, rp, e.trans e', g, o⟩
theorem TbAt.lo {lo lo' : Nat} {ea : Addr} {h : Heap} {v : Value} (x : TbAt lo ea h v) (hl : lo' ≤ lo) : TbAt lo' ea h v :=
  by obtain ⟨tb, ot, ts, a, b, r1, r2, r3, r4, r5⟩ := x; exact ⟨tb, ot, ts, a, Nat.le_trans hl b, r1, r2, r3, r4, r5⟩
theorem Fly.lo {T : Tp} {lo lo' : Nat} {ea : Addr} {c : Str} {h : Heap} (x : Fly T lo ea c h) (hl : lo' ≤ lo) : Fly T lo' ea c h := by
  obtain ⟨C, oe, vs, v, a, b, d, e, f, g, i, j, k⟩ := x
  exact ⟨C, oe, vs, v, a, Nat.le_trans hl b, d, e, f, g, i, j, k.imp id (·.lo hl)⟩
theorem PostX.trans {T : Tp} {F : List Addr} {X : QX} {ι ι₁ : Inj} {h h₁ : Heap} {x : Value} {s' : Shared} (e : Ext T F ι h ι₁ h₁) (p : PostX T F X ι₁ h₁ x s') : PostX T F X ι h x s' :=
  by obtain ⟨ea, c, σ', ι', a, b, f, n, rp, e', g, o⟩ := p; exact ⟨ea, c, σ', ι', a, b, f.lo e.size, n, rp, e.trans e', g, o⟩
theorem PostE.mono {T : Tp} {F : List Addr} {Q Q' : QE} {ι : Inj} {h : Heap} {x : Value} {s' : Shared} (p : PostE T F Q ι h x s') (k : ∀ v σ, Q v σ → Q' v σ) : PostE T F Q' ι h x s' :=
  by obtain ⟨v, σ', ι', q, r, rp, e', g, o⟩ := p; exact ⟨v, σ', ι', k _ _ q, r, rp, e', g, o⟩
theorem PostX.mono {T : Tp} {F : List Addr} {X X' : QX} {ι : Inj} {h : Heap} {x : Value} {s' : Shared} (p : PostX T F X ι h x s') (k : ∀ c σ, X c σ → X' c σ) : PostX T F X' ι h x s' :=
  by obtain ⟨ea, c, σ', ι', a, b, f, n, rp, e', g, o⟩ := p; exact ⟨ea, c, σ', ι', a, k _ _ b, f, n, rp, e', g, o⟩

/-- the mini heap and the frames below, at a state -/
structure St (T : Tp) (A : Around) (fs : List Env) (d : Nat) (ι : Inj) (σ : Hp) (s : Shared) : Prop where
  rep : Rep T ι σ s.heap
  aok : AOk T A fs d ι s.heap
  gens : s.gens = #[]
  os : s.os = T.os
theorem Inv.st {T : Tp} {A : Around} {fs : List Env} {d : Nat} {env : Env} {F : List Addr} {ρ : Loc} {ι : Inj} {σ : Hp} {s : Shared} (x : Inv T A fs d env F ρ ι σ s) : St T A fs d ι σ s := ⟨x.rep, x.aok, x.gens, x.os⟩
theorem St.ext {T : Tp} {A : Around} {fs : List Env} {d : Nat} {ι ι' : Inj} {σ σ' : Hp} {s s' : Shared} (x : St T A fs d ι σ s) (e : Ext T [] ι s.heap ι' s'.heap) (r : Rep T ι' σ' s'.heap) (hg : s'.gens = #[]) (ho : s'.os = T.os) : St T A fs d ι' σ' s' :=
  ⟨r, x.aok.ext0 e, hg, ho⟩

section
variable {T : Tp} {A : Around} {fs : List Env} {d : Nat} {ι : Inj} {σ : Hp} {s : Shared} {F : List Addr}

/-- a value that needs no heap of its own, the heap as it was -/
theorem St.post {Q : QE} {v : V} {x : Value} (S : St T A fs d ι σ s) (q : Q v σ) (r : VRel T ι s.heap v x) (t : Nat) : PostE T F Q ι s.heap x { s with toks := t } :=
  ⟨v, σ, ι, q, r, S.rep, .refl .., S.gens, S.os⟩
theorem St.post0 {Q : QE} {v : V} {x : Value} (S : St T A fs d ι σ s) (q : Q v σ) (r : VRel T ι s.heap v x) : PostE T F Q ι s.heap x s :=
  ⟨v, σ, ι, q, r, S.rep, .refl .., S.gens, S.os⟩
/-- the heap has grown by things that the mini heap does not know -/
theorem St.grown {Q : QE} {v : V} {x : Value} {h' : Heap} {t : Nat} (S : St T A fs d ι σ s) (hs : s.heap.objs.size ≤ h'.objs.size) (k : ∀ b o, s.heap.get? b = some o → h'.get? b = some o) (q : Q v σ) (r : VRel T ι h' v x) :
    PostE T F Q ι s.heap x { s with heap := h', toks := t } :=
  ⟨v, σ, ι, q, r, S.rep.grow hs k, .of_keeps hs k, S.gens, S.os⟩
end

/-- an expression, at the mini level: from σ it comes to a value and a mini heap of Q, or raises by X -/
noncomputable def EvOk (T : Tp) (d : Nat) (sc : Scope) (ρ : Loc) (X : QX) (e : Expr) (Q : QE) (σ : Hp) : Prop :=
  ∀ env A fs F ι s, env.scope = sc → Inv T A fs d env F ρ ι σ s → wpAny (model T.prog T.w) A (eval e env) (PostE T [] Q ι s.heap) (PostX T [] X ι s.heap) s

/-- behind a tree that hands on a truth -/
inductive PostB (T : Tp) (Q : Bool → Hp → Prop) (ι : Inj) (h : Heap) (b : Bool) (s' : Shared) : Prop where
  | mk (σ' : Hp) (ι' : Inj) (h0 : Q b σ') (h1 : Rep T ι' σ' s'.heap) (h2 : Ext T [] ι h ι' s'.heap) (h3 : s'.gens = #[]) (h4 : s'.os = T.os) : PostB T Q ι h b s'
theorem PostB.trans {T : Tp} {Q : Bool → Hp → Prop} {ι ι₁ : Inj} {h h₁ : Heap} {b : Bool} {s' : Shared} (e : Ext T [] ι h ι₁ h₁) (p : PostB T Q ι₁ h₁ b s') : PostB T Q ι h b s' :=
  by obtain ⟨σ', ι', q, rp, e', g, o⟩ := p; exact ⟨σ', ι', q, rp, e.trans e', g, o⟩
/-- an expression as a test -/
noncomputable def TsOk (T : Tp) (d : Nat) (sc : Scope) (ρ : Loc) (X : QX) (e : Expr) (Q : Bool → Hp → Prop) (σ : Hp) : Prop :=
  ∀ env A fs F ι s, env.scope = sc → Inv T A fs d env F ρ ι σ s → wpAny (model T.prog T.w) A (isTrue e env (eval e env)) (PostB T Q ι s.heap) (PostX T [] X ι s.heap) s

/-- several expressions, in their order -/
inductive PostL (T : Tp) (Q : List V → Hp → Prop) (ι : Inj) (h : Heap) (xs : List Value) (s' : Shared) : Prop where
  | mk (vs : List V) (σ' : Hp) (ι' : Inj) (h0 : Q vs σ') (h1 : VRels T ι' s'.heap vs xs) (h2 : Rep T ι' σ' s'.heap) (h3 : Ext T [] ι h ι' s'.heap) (h4 : s'.gens = #[]) (h5 : s'.os = T.os) : PostL T Q ι h xs s'
noncomputable def EvsOk (T : Tp) (d : Nat) (sc : Scope) (ρ : Loc) (X : QX) (es : List Expr) (Q : List V → Hp → Prop) (σ : Hp) : Prop :=
  ∀ env A fs F ι s, env.scope = sc → Inv T A fs d env F ρ ι σ s → wpAny (model T.prog T.w) A (spliced (es.map fun e => (false, eval e env))) (PostL T Q ι s.heap) (PostX T [] X ι s.heap) s


/-- a call of a value -/
noncomputable def CallOk (T : Tp) (d : Nat) (X : QX) (f : V) (args : List V) (Q : QE) (σ : Hp) : Prop :=
  ∀ A fs ι s fv xs, St T A fs d ι σ s → VRel T ι s.heap f fv → VRels T ι s.heap args xs → wpAny (model T.prog T.w) A (call fv xs) (PostE T [] Q ι s.heap) (PostX T [] X ι s.heap) s

theorem CallOk.mono {T : Tp} {d : Nat} {X X' : QX} {f : V} {args : List V} {Q Q' : QE} {σ : Hp} (h : CallOk T d X f args Q σ) (k : ∀ v σ, Q v σ → Q' v σ) (kx : ∀ c σ, X c σ → X' c σ) : CallOk T d X' f args Q' σ :=
  fun A fs ι s fv xs S hf hx => wpAny_mono (h A fs ι s fv xs S hf hx) (fun _ _ p => p.mono k) fun _ _ p => p.mono kx

end Mine

namespace Mine
open PySem PySem.Calls PyProof.Rows

noncomputable def BinOk (T : Tp) (d : Nat) (X : QX) (t : Value → Value → Sem Value) (a b : V) (Q : QE) (σ : Hp) : Prop :=
  ∀ A fs ι s x y, St T A fs d ι σ s → VRel T ι s.heap a x → VRel T ι s.heap b y → wpAny (model T.prog T.w) A (t x y) (PostE T [] Q ι s.heap) (PostX T [] X ι s.heap) s

noncomputable def small64 (a : Int) : Prop := -(2 ^ 64) < a ∧ a < 2 ^ 64

section
variable {T : Tp} {A : Around} {fs : List Env} {d : Nat} {ι : Inj} {σ : Hp} {s : Shared} {F : List Addr}

theorem VRel.int_inv {i : Int} {x : Value} {h : Heap} (e : VRel T ι h (.int i) x) : ∃ t, x = .int i t := e
theorem VRel.str_inv {i : Str} {x : Value} {h : Heap} (e : VRel T ι h (.str i) x) : ∃ t, x = .str i t := e
theorem VRel.bool_inv {i : Bool} {x : Value} {h : Heap} (e : VRel T ι h (.bool i) x) : x = .bool i := e
theorem VRel.none_inv {x : Value} {h : Heap} (e : VRel T ι h .none x) : x = .none := e
theorem VRel.tup_inv {vs : List V} {x : Value} {h : Heap} (e : VRel T ι h (.tup vs) x) : ∃ a items n, x = .ref a ∧ IsT h a items n ∧ VRels T ι h vs items.toList := e
theorem VRel.ref_inv {l : Nat} {x : Value} {h : Heap} (e : VRel T ι h (.ref l) x) : ∃ a d, x = .ref a ∧ ι[l]? = some (a, d) := e
theorem VRel.int_mk {i : Int} {t : Tok} {h : Heap} : VRel T ι h (.int i) (.int i t) := by exact ⟨t, rfl⟩
theorem VRel.str_mk {i : Str} {t : Tok} {h : Heap} : VRel T ι h (.str i) (.str i t) := by exact ⟨t, rfl⟩
theorem VRel.bool_mk {i : Bool} {h : Heap} : VRel T ι h (.bool i) (.bool i) := rfl
theorem VRel.none_mk {h : Heap} : VRel T ι h .none .none := rfl

/-- a list of the mini heap, in the heap -/
theorem Rep.list_at {h : Heap} (r : Rep T ι σ h) {l : Nat} {vs : List V} {a : Addr} {d : Addr} (e : σ[l]? = some (.list vs)) (q : ι[l]? = some (a, d)) :
    ∃ items n, IsL h a items n ∧ VRels T ι h vs items.toList := by
  obtain ⟨_, items, ⟨n, hl⟩, hv⟩ := r.objs l _ _ e q
  exact ⟨items.toArray, n, hl, by simpa using hv⟩

/-- a new list onto the heap -/
theorem Rep.newList {h : Heap} (r : Rep T ι σ h) {vs : List V} {items : Array Value} (hv : VRels T ι h vs items.toList) :
    Rep T (ι ++ [(h.objs.size, h.objs.size)]) (σ ++ [.list vs]) (h.push { cls := .type "list", data := .seq items }) ∧ Ext T F ι h (ι ++ [(h.objs.size, h.objs.size)]) (h.push { cls := .type "list", data := .seq items }) ∧
      VRel T (ι ++ [(h.objs.size, h.objs.size)]) (h.push { cls := .type "list", data := .seq items }) (.ref σ.length) (.ref h.objs.size) := by
  have m : Mono ι h (ι ++ [(h.objs.size, h.objs.size)]) (h.push { cls := .type "list", data := .seq items }) := ⟨⟨_, rfl⟩, (Ext.push T F ι h _).cls, (Ext.push T F ι h _).frz⟩
  have no : h.objs.size ∉ own ι := fun q => absurd (r.own_lt q) (Nat.lt_irrefl _)
  refine ⟨(r.push _).more (p := (h.objs.size, h.objs.size)) ⟨rfl, items.toList, ⟨0, by simpa using IsL.new h items⟩, hv.mono m⟩ r.size r.size no no, ?_, ?_⟩
  · have e := Ext.push T F ι h { cls := .type "list", data := .seq items }
    exact ⟨⟨[(h.objs.size, h.objs.size)], rfl, by simp⟩, e.size, e.cls, e.frz, e.keep, e.frm⟩
  · exact ⟨h.objs.size, h.objs.size, rfl, by rw [← r.len]; simp⟩

theorem St.newList {Q : QE} {vs : List V} {items : Array Value} (S : St T A fs d ι σ s) (hv : VRels T ι s.heap vs items.toList) (q : Q (.ref σ.length) (σ ++ [.list vs])) {t : Nat} :
    PostE T F Q ι s.heap (.ref s.heap.objs.size) { s with heap := s.heap.push { cls := .type "list", data := .seq items }, toks := t } :=
  let ⟨a, b, c⟩ := S.rep.newList (F := F) hv
  ⟨_, _, _, q, c, a, b, S.gens, S.os⟩

/-- a new tuple onto the heap -/
theorem St.newTup {Q : QE} {vs : List V} {items : Array Value} (S : St T A fs d ι σ s) (hv : VRels T ι s.heap vs items.toList) (q : Q (.tup vs) σ) {t : Nat} :
    PostE T F Q ι s.heap (.ref s.heap.objs.size) { s with heap := s.heap.push { cls := .type "tuple", data := .seq items }, toks := t } := by
  refine ⟨_, _, _, q, ?_, S.rep.push _, .push .., S.gens, S.os⟩
  exact ⟨_, items, 0, rfl, IsT.new _ _, hv.mono (Ext.push T [] ι s.heap _).mono⟩
end

/-- a tree of two values, by what the values are -/
theorem BinOk.ints {T : Tp} {d : Nat} {X : QX} {t : Value → Value → Sem Value} {x y : Int} {Q : QE} {σ : Hp}
    (k : ∀ {A fs ι s u v}, St T A fs d ι σ s → wpAny (model T.prog T.w) A (t (.int x u) (.int y v)) (PostE T [] Q ι s.heap) (PostX T [] X ι s.heap) s) : BinOk T d X t (.int x) (.int y) Q σ :=
  fun _ _ _ _ _ _ S hx hy => Exists.elim hx fun _ e => Exists.elim hy fun _ e' => e ▸ e' ▸ k S
theorem BinOk.strs {T : Tp} {d : Nat} {X : QX} {t : Value → Value → Sem Value} {x y : Str} {Q : QE} {σ : Hp}
    (k : ∀ {A fs ι s u v}, St T A fs d ι σ s → wpAny (model T.prog T.w) A (t (.str x u) (.str y v)) (PostE T [] Q ι s.heap) (PostX T [] X ι s.heap) s) : BinOk T d X t (.str x) (.str y) Q σ :=
  fun _ _ _ _ _ _ S hx hy => Exists.elim hx fun _ e => Exists.elim hy fun _ e' => e ▸ e' ▸ k S
theorem BinOk.strInt {T : Tp} {d : Nat} {X : QX} {t : Value → Value → Sem Value} {x : Str} {y : Int} {Q : QE} {σ : Hp}
    (k : ∀ {A fs ι s u v}, St T A fs d ι σ s → wpAny (model T.prog T.w) A (t (.str x u) (.int y v)) (PostE T [] Q ι s.heap) (PostX T [] X ι s.heap) s) : BinOk T d X t (.str x) (.int y) Q σ :=
  fun _ _ _ _ _ _ S hx hy => Exists.elim hx fun _ e => Exists.elim hy fun _ e' => e ▸ e' ▸ k S
theorem BinOk.lists {T : Tp} {d : Nat} {X : QX} {t : Value → Value → Sem Value} {l m : Nat} {xs ys : List V} {Q : QE} {σ : Hp} (h1 : σ[l]? = some (.list xs)) (h2 : σ[m]? = some (.list ys))
    (k : ∀ {A fs ι s u v i1 i2 n1 n2}, St T A fs d ι σ s → IsL s.heap u i1 n1 → VRels T ι s.heap xs i1.toList → IsL s.heap v i2 n2 → VRels T ι s.heap ys i2.toList → wpAny (model T.prog T.w) A (t (.ref u) (.ref v)) (PostE T [] Q ι s.heap) (PostX T [] X ι s.heap) s) : BinOk T d X t (.ref l) (.ref m) Q σ :=
  fun _ _ _ _ _ _ S hx hy => Exists.elim hx fun _ hx => Exists.elim hx fun _ hx => Exists.elim hy fun _ hy => Exists.elim hy fun _ hy => Exists.elim (S.rep.list_at h1 hx.2) fun _ l1 => Exists.elim l1 fun _ l1 => Exists.elim (S.rep.list_at h2 hy.2) fun _ l2 => Exists.elim l2 fun _ l2 => hx.1 ▸ hy.1 ▸ k S l1.1 l1.2 l2.1 l2.2
/-- what an operator gives, and the heap behind it -/
inductive BinR (σ : Hp) : Operator → V → V → V → Hp → Prop where
  | add (x y : Int) : BinR σ .Add (.int x) (.int y) (.int (x + y)) σ
  | cat (x y : Str) (h : x.length + y.length ≤ sizeLine) : BinR σ .Add (.str x) (.str y) (.str (x ++ y)) σ
  | lists (l m : Nat) (xs ys : List V) (h1 : σ[l]? = some (.list xs)) (h2 : σ[m]? = some (.list ys)) (h3 : xs.length + ys.length ≤ sizeLine) : BinR σ .Add (.ref l) (.ref m) (.ref σ.length) (σ ++ [.list (xs ++ ys)])
  | mul (x y : Int) (h : small64 x ∨ small64 y) : BinR σ .Mult (.int x) (.int y) (.int (x * y)) σ
  | rep (x : Str) (n : Int) (h : MulOk x n) : BinR σ .Mult (.str x) (.int n) (.str (Txt.mul x n)) σ
  | sub (x y : Int) : BinR σ .Sub (.int x) (.int y) (.int (x - y)) σ
  | fdiv (x y : Int) (h : y ≠ 0) (h2 : y.natAbs < 1073741824) : BinR σ .FloorDiv (.int x) (.int y) (.int (x.fdiv y)) σ
  | mod (x y : Int) (h : y ≠ 0) : BinR σ .Mod (.int x) (.int y) (.int (x.fmod y)) σ
inductive binVC (op : Operator) (a b : V) (Q : QE) (σ : Hp) : Prop where
  | mk (v : V) (σ' : Hp) (r : BinR σ op a b v σ') (q : Q v σ') : binVC op a b Q σ

theorem bin_lists {T : Tp} {d : Nat} {X : QX} {l m : Nat} {xs ys : List V} {Q : QE} {σ : Hp} (h1 : σ[l]? = some (.list xs)) (h2 : σ[m]? = some (.list ys)) (h3 : xs.length + ys.length ≤ sizeLine) (q : Q (.ref σ.length) (σ ++ [.list (xs ++ ys)])) : BinOk T d X (binaryOp .Add) (.ref l) (.ref m) Q σ :=
  .lists h1 h2 fun {A fs ι s u v i1 i2 n1 n2} S l1 v1 l2 v2 => P.add_list l1 l2 (S.newList (items := i1 ++ i2) (Array.toList_append (xs := i1) (ys := i2) ▸ v1.append v2) q) (show i1.size + i2.size ≤ sizeLine by
    rw [← Array.length_toList, ← Array.length_toList, v1.length, v2.length]; exact h3)
theorem BinR.ok {T : Tp} {d : Nat} {X : QX} {Q : QE} {σ : Hp} {op : Operator} {a b v : V} {σ' : Hp} (r : BinR σ op a b v σ') : Q v σ' → BinOk T d X (binaryOp op) a b Q σ := by
  induction r with
  | add => exact fun q => .ints fun S => PyProof.Rows.add_int (S.post q .int_mk _)
  | cat _ _ h => exact fun q => .strs fun S => PyProof.Rows.add_str (fun t' tk => S.post q .str_mk _) h
  | lists _ _ _ _ h1 h2 h3 => exact fun q => bin_lists h1 h2 h3 q
  | mul _ _ h => exact fun q => .ints fun S => PyProof.Rows.mul_int (S.post q .int_mk _) (h.elim (fun q => .of_left (intBits_le_64 q.1 q.2)) fun q => .of_right (intBits_le_64 q.1 q.2))
  | rep _ _ h => exact fun q => .strInt fun S => SB.mul h fun t' k => S.post q .str_mk _
  | sub => exact fun q => .ints fun S => sub_int' (S.post q .int_mk _)
  | fdiv _ _ h h2 => exact fun q => .ints fun S => floordiv_int h (S.post q .int_mk _) (.inl (PyProof.noPylong_small h2))
  | mod _ _ h => exact fun q => .ints fun S => mod_int' h (S.post q .int_mk _)
theorem bin_ok {T : Tp} {d : Nat} {X : QX} {op : Operator} {a b : V} {Q : QE} {σ : Hp} (h : binVC op a b Q σ) : BinOk T d X (binaryOp op) a b Q σ := h.rec fun _ _ r q => r.ok q

end Mine

namespace Mine
open PySem PySem.Calls PyProof.Rows PySem.SeqAt

mutual
/-- what a value holds, through the lists of the mini heap -/
noncomputable def Deep (σ : Hp) : PyData → V → Prop
  | .none, v => v = .none
  | .bool b, v => v = .bool b
  | .int i, v => v = .int i
  | .str s, v => v = .str s ∧ PyData.strOk s = true
  | .tuple ds, v => ∃ vs, v = .tup vs ∧ Deeps σ ds vs
  | .list ds, v => ∃ l vs, v = .ref l ∧ σ[l]? = some (.list vs) ∧ Deeps σ ds vs
  | .dict _, _ => False
noncomputable def Deeps (σ : Hp) : List PyData → List V → Prop
  | [], vs => vs = []
  | d :: ds, vs => ∃ v r, vs = v :: r ∧ Deep σ d v ∧ Deeps σ ds r
end

mutual
theorem Deep.lay {σ : Hp} : ∀ {d : PyData} {v : V}, Deep σ d v → d.canLay0 = true
  | .none, _, _ => by unfold PyData.canLay0; rfl
  | .bool _, _, _ => by unfold PyData.canLay0; rfl
  | .int _, _, _ => by unfold PyData.canLay0; rfl
  | .str _, _, h => by unfold PyData.canLay0; exact h.2
  | .tuple _, _, h => by
    obtain ⟨vs, _, h⟩ := h
    unfold PyData.canLay0; exact Deeps.lay h
  | .list _, _, h => by
    obtain ⟨l, vs, _, _, h⟩ := h
    unfold PyData.canLay0; exact Deeps.lay h
  | .dict _, _, h => by exact h.elim
theorem Deeps.lay {σ : Hp} : ∀ {d : List PyData} {v : List V}, Deeps σ d v → PyData.canLayAll0 d = true
  | [], _, _ => by unfold PyData.canLayAll0; rfl
  | _ :: _, _, h => by
    obtain ⟨v, r, _, h1, h2⟩ := h
    unfold PyData.canLayAll0; rw [Deep.lay h1, Deeps.lay h2]; rfl
end

mutual
theorem Deep.reads {T : Tp} {ι : Inj} {σ : Hp} {h : Heap} (R : Rep T ι σ h) : ∀ {d : PyData} {v : V} {x : Value}, Deep σ d v → VRel T ι h v x → ∃ as, Reads h x d as
  | .none, _, _, e, r => by subst e; cases r.none_inv; exact ⟨_, .none⟩
  | .bool b, _, _, e, r => by subst e; cases r.bool_inv; exact ⟨_, .bool b⟩
  | .int i, _, _, e, r => by subst e; obtain ⟨t, rfl⟩ := r.int_inv; exact ⟨_, .int i t⟩
  | .str i, _, _, e, r => by obtain ⟨rfl, _⟩ := e; obtain ⟨t, rfl⟩ := r.str_inv; exact ⟨_, .str i t⟩
  | .tuple ds, _, _, e, r => by
    obtain ⟨vs, rfl, e⟩ := e
    obtain ⟨a, items, n, rfl, ht, hv⟩ := r.tup_inv
    obtain ⟨as, ra⟩ := Deeps.reads R e hv
    exact ⟨as, .tuple ht rfl rfl ra⟩
  | .list ds, _, _, e, r => by
    obtain ⟨l, vs, rfl, e1, e⟩ := e
    obtain ⟨a, d, rfl, hl⟩ := r.ref_inv
    obtain ⟨items, n, hL, hv⟩ := R.list_at e1 hl
    obtain ⟨as, ra⟩ := Deeps.reads R e hv
    exact ⟨a :: as, .list hL rfl rfl ra⟩
  | .dict _, _, _, e, _ => by exact e.elim
theorem Deeps.reads {T : Tp} {ι : Inj} {σ : Hp} {h : Heap} (R : Rep T ι σ h) : ∀ {ds : List PyData} {vs : List V} {xs : List Value}, Deeps σ ds vs → VRels T ι h vs xs → ∃ as, ReadsAll h xs ds as
  | [], _, xs, e, r => by subst e; cases VRels.nil_iff.mp r; exact ⟨[], .nil⟩
  | d :: ds, _, xs, e, r => by
    obtain ⟨v, rr, rfl, e1, e2⟩ := e
    obtain ⟨x, ys, rfl, r1, r2⟩ := VRels.cons_iff.mp r
    obtain ⟨as, h1⟩ := Deep.reads R e1 r1
    obtain ⟨bs, h2⟩ := Deeps.reads R e2 r2
    exact ⟨as ++ bs, .cons h1 h2⟩
end
end Mine

namespace Mine
open PySem PySem.Calls PyProof.Rows PySem.SeqAt

/-- «not in» by «in» -/
theorem notIn_of {M : Model} {A : Around} {E : Value → Shared → Prop} {s : Shared} {x y : Value} {Q : Value → Shared → Prop} (h : wpAny M A (compareOp .In x y) (fun v s' => ∀ b, v = .bool b → Q (.bool (!b)) s') E s) :
    wpAny M A (compareOp .NotIn x y) Q E s := fun Γ p hΓ => by
  have h' := h Γ p hΓ
  change Sem.wp M Γ (contains y x >>= fun r => pure (Value.bool r)) _ _ p s at h'
  show Sem.wp M Γ (contains y x >>= fun r => pure (Value.bool !r)) _ _ p s
  rw [Sem.wp_bind'] at h' ⊢
  exact Sem.wp_mono M Γ _ (fun r _ _ q => q r rfl) (fun _ _ _ q => q) _ _ h'

theorem room40 {u d x : Nat} (h : u + 10 * d + 50 ≤ cLine) (hx : x ≤ 40) : u + x < cLine := by lia
theorem room41 {u d x : Nat} (h : u + 10 * d + 50 ≤ cLine) (hx : x ≤ 40) : u + 1 + x < cLine := by lia
noncomputable def isNoneV : V → Option Bool
  | .none => some true
  | .bool _ | .int _ | .str _ | .tup _ | .ref _ | .exc _ => some false
  | _ => none
noncomputable def isBoolV (b : Bool) : V → Option Bool
  | .bool c => some (c == b)
  | .none | .int _ | .str _ | .tup _ | .ref _ | .exc _ => some false
  | _ => none

/-- x in y, two texts -/
noncomputable def strIn (x y : Str) : Bool := !(Builtin.Str.occurrences y x 0 y.length 1).isEmpty

/-- what a comparison answers -/
inductive InR (σ : Hp) : V → V → Bool → Prop where
  | str (x y : Str) : InR σ (.str x) (.str y) (strIn x y)
  | list (a : V) (l : Nat) (vs : List V) (ds : List PyData) (d : PyData) (h : σ[l]? = some (.list vs)) (h1 : Deeps σ ds vs) (h2 : Deep σ d a) (h3 : PyData.depthAll ds ≤ 40) : InR σ a (.ref l) (ds.any fun y => PyData.eqv y d)
  | dict (k : Str) (l : Nat) (kvs : List (Str × V)) (h : σ[l]? = some (.sdict kvs)) : InR σ (.str k) (.ref l) (kvs.any fun kv => kv.1 = k)
  | tdict (k : Str × Int) (l : Nat) (kvs : List ((Str × Int) × V)) (h : σ[l]? = some (.tdict kvs)) : InR σ (.tup [.str k.1, .int k.2]) (.ref l) (kvs.any fun kv => kv.1 = k)
inductive CmpR (σ : Hp) : CmpOp → V → V → Bool → Prop where
  | lt (x y : Int) : CmpR σ .Lt (.int x) (.int y) (decide (x < y))
  | le (x y : Int) : CmpR σ .LtE (.int x) (.int y) (decide (x ≤ y))
  | gt (x y : Int) : CmpR σ .Gt (.int x) (.int y) (decide (y < x))
  | ge (x y : Int) : CmpR σ .GtE (.int x) (.int y) (decide (y ≤ x))
  | eqi (x y : Int) : CmpR σ .Eq (.int x) (.int y) (x == y)
  | nei (x y : Int) : CmpR σ .NotEq (.int x) (.int y) (x != y)
  | eqs (x y : Str) : CmpR σ .Eq (.str x) (.str y) (x == y)
  | nes (x y : Str) : CmpR σ .NotEq (.str x) (.str y) (x != y)
  | eq (a b : V) (da db : PyData) (h1 : Deep σ da a) (h2 : Deep σ db b) (h3 : da.depth ≤ 40) : CmpR σ .Eq a b (PyData.eqv da db)
  | ne (a b : V) (da db : PyData) (h1 : Deep σ da a) (h2 : Deep σ db b) (h3 : da.depth ≤ 40) : CmpR σ .NotEq a b (!PyData.eqv da db)
  | isN (a : V) (r : Bool) (h : isNoneV a = some r) : CmpR σ .Is a .none r
  | notN (a : V) (r : Bool) (h : isNoneV a = some r) : CmpR σ .IsNot a .none (!r)
  | isB (a : V) (c r : Bool) (h : isBoolV c a = some r) : CmpR σ .Is a (.bool c) r
  | notB (a : V) (c r : Bool) (h : isBoolV c a = some r) : CmpR σ .IsNot a (.bool c) (!r)
  | isin (a b : V) (r : Bool) (h : InR σ a b r) : CmpR σ .In a b r
  | nin (a b : V) (r : Bool) (h : InR σ a b r) : CmpR σ .NotIn a b (!r)
inductive cmpVC (op : CmpOp) (a b : V) (Q : QE) (σ : Hp) : Prop where
  | mk (r : Bool) (c : CmpR σ op a b r) (q : Q (.bool r) σ) : cmpVC op a b Q σ

section
variable {T : Tp} {A : Around} {fs : List Env} {d : Nat} {ι : Inj} {σ : Hp} {s : Shared}

theorem is_none {a : V} {x : Value} {h : Heap} {r : Bool} (e : isNoneV a = some r) (v : VRel T ι h a x) : plainIs x .none = true ∧ (x == .none) = r := by
  cases a <;> first | (cases (show (Option.none : Option Bool) = some r from e); done) | (obtain rfl := Option.some.inj (show some _ = some r from e))
  · cases v.none_inv; exact ⟨rfl, rfl⟩
  · cases v.bool_inv; exact ⟨rfl, rfl⟩
  · obtain ⟨t, rfl⟩ := v.int_inv; exact ⟨rfl, rfl⟩
  · obtain ⟨t, rfl⟩ := v.str_inv; exact ⟨rfl, rfl⟩
  · obtain ⟨a, _, _, rfl, _⟩ := v.tup_inv; exact ⟨rfl, rfl⟩
  · obtain ⟨a, _, rfl, _⟩ := v.ref_inv; exact ⟨rfl, rfl⟩
  · obtain ⟨a, _, _, rfl, _⟩ := v; exact ⟨rfl, rfl⟩
theorem is_bool {a : V} {x : Value} {h : Heap} {b r : Bool} (e : isBoolV b a = some r) (v : VRel T ι h a x) : plainIs x (.bool b) = true ∧ (x == .bool b) = r := by
  cases a <;> first | (cases (show (Option.none : Option Bool) = some r from e); done) | (obtain rfl := Option.some.inj (show some _ = some r from e))
  · cases v.none_inv; exact ⟨rfl, rfl⟩
  · cases v.bool_inv; refine ⟨rfl, ?_⟩; rename_i c; cases b <;> cases c <;> rfl
  · obtain ⟨t, rfl⟩ := v.int_inv; exact ⟨rfl, rfl⟩
  · obtain ⟨t, rfl⟩ := v.str_inv; exact ⟨rfl, rfl⟩
  · obtain ⟨a, _, _, rfl, _⟩ := v.tup_inv; exact ⟨rfl, rfl⟩
  · obtain ⟨a, _, rfl, _⟩ := v.ref_inv; exact ⟨rfl, rfl⟩
  · obtain ⟨a, _, _, rfl, _⟩ := v; exact ⟨rfl, rfl⟩

theorem KVRel.isSome {h : Heap} {kvs : List (Str × V)} {rvs : List (Str × Value)} {k : Str} (e : KVRel T ι h kvs rvs) : (valueAt rvs k).isSome = kvs.any fun kv => kv.1 = k := e.find.isSome.trans find_some
theorem TKRel.isSome {h : Heap} {kvs : List ((Str × Int) × V)} {xs : List ((Str × Int) × Addr × Value)} {k : Str × Int} (e : TKRel T ι h kvs xs) : (atKey xs k).isSome = kvs.any fun kv => kv.1 = k := e.find.isSome.trans find_some
theorem VRels.two {h : Heap} {v w : V} {xs : List Value} (e : VRels T ι h [v, w] xs) : ∃ x y, xs = [x, y] ∧ VRel T ι h v x ∧ VRel T ι h w y := by
  obtain ⟨x, r, rfl, h1, h2⟩ := VRels.cons_iff.mp e
  obtain ⟨y, r, rfl, h3, h4⟩ := VRels.cons_iff.mp h2
  cases VRels.nil_iff.mp h4
  exact ⟨x, y, rfl, h1, h3⟩
theorem VRel.pair {h : Heap} {k : Str × Int} {v : Value} (e : VRel T ι h (.tup [.str k.1, .int k.2]) v) : ∃ a, v = .ref a ∧ IsPair h k a := by
  obtain ⟨a, ⟨xs⟩, n, e1, ht, hv⟩ := e.tup_inv
  obtain ⟨x, y, e2, ⟨t, e3⟩, ⟨u, e4⟩⟩ := hv.two
  cases e2; cases e3; cases e4
  exact ⟨a, e1, _, t, u, n, ht, rfl, rfl⟩
theorem Rep.tdict_at {h : Heap} (r : Rep T ι σ h) {l : Nat} {kvs : List ((Str × Int) × V)} {a d : Addr} (e : σ[l]? = some (.tdict kvs)) (q : ι[l]? = some (a, d)) :
    ∃ xs, h.DictOfH (pairKind T.prog T.w) a xs ∧ TKRel T ι h kvs xs ∧ (a == sysModules) = false := by
  obtain ⟨_, rvs, hd, hv⟩ := r.objs l _ _ e q
  refine ⟨rvs, hd, hv, ?_⟩
  have h1 := (r.fresh _ (List.mem_of_getElem? q)).1
  have h2 := r.big
  simp only [beq_eq_false_iff_ne, ne_eq]
  intro hq
  have : (sysModules : Nat) = 1 := rfl
  rw [hq] at h1
  have h3 : T.b0.objs.size ≤ 1 := h1
  (clear h1 e q; lia)

theorem Rep.sdict_at {h : Heap} (r : Rep T ι σ h) {l : Nat} {kvs : List (Str × V)} {a d : Addr} (e : σ[l]? = some (.sdict kvs)) (q : ι[l]? = some (a, d)) :
    ∃ rvs, h.DictOf (strKind T.prog T.w) a rvs ∧ KVRel T ι h kvs rvs ∧ (a == sysModules) = false := by
  obtain ⟨_, rvs, hd, hv⟩ := r.objs l _ _ e q
  refine ⟨rvs, hd, hv, ?_⟩
  have h1 := (r.fresh _ (List.mem_of_getElem? q)).1
  have h2 := r.big
  simp only [beq_eq_false_iff_ne, ne_eq]
  intro hq
  have : (sysModules : Nat) = 1 := rfl
  rw [hq] at h1
  have h3 : T.b0.objs.size ≤ 1 := h1
  (clear h1 e q; lia)
end

theorem BinOk.eqR {T : Tp} {d : Nat} {X : QX} {t : Value → Value → Sem Value} {a b : V} {da db : PyData} {Q : QE} {σ : Hp} (h1 : Deep σ da a) (h2 : Deep σ db b) (h3 : da.depth ≤ 40)
    (k : ∀ {A fs ι s x y as bs}, St T A fs d ι σ s → Reads s.heap x da as → Reads s.heap y db bs → A.units + min da.depth db.depth < cLine → wpAny (model T.prog T.w) A (t x y) (PostE T [] Q ι s.heap) (PostX T [] X ι s.heap) s) : BinOk T d X t a b Q σ :=
  fun A _ _ _ _ _ S hx hy => Exists.elim (h1.reads S.rep hx) fun _ ra => Exists.elim (h2.reads S.rep hy) fun _ rb => k S ra rb (room40 S.aok.units (Nat.le_trans (Nat.min_le_left ..) h3))
theorem in_list_ok {T : Tp} {d : Nat} {X : QX} {a : V} {l : Nat} {vs : List V} {ds : List PyData} {dd : PyData} {Q : QE} {σ : Hp} (h : σ[l]? = some (.list vs)) (h1 : Deeps σ ds vs) (h2 : Deep σ dd a) (h3 : PyData.depthAll ds ≤ 40) (q : Q (.bool (ds.any fun y => PyData.eqv y dd)) σ) :
    BinOk T d X (compareOp .In) a (.ref l) Q σ :=
  fun A _ _ _ _ _ S hx hy => Exists.elim hy fun _ hy => Exists.elim hy fun _ hy => hy.1 ▸ Exists.elim (S.rep.list_at h hy.2) fun _ l1 => Exists.elim l1 fun _ l1 => Exists.elim (h1.reads S.rep l1.2) fun _ ra => Exists.elim (h2.reads S.rep hx) fun _ rx =>
    in_list_reads (.list l1.1 rfl rfl ra) rx h1.lay h2.lay (room41 S.aok.units (Nat.le_trans (Nat.min_le_left ..) h3)) (S.post0 (v := .bool _) q .bool_mk)
theorem in_dict_ok {T : Tp} {d : Nat} {X : QX} {k : Str} {l : Nat} {kvs : List (Str × V)} {Q : QE} {σ : Hp} (h : σ[l]? = some (.sdict kvs)) (q : Q (.bool (kvs.any fun kv => kv.1 = k)) σ) : BinOk T d X (compareOp .In) (.str k) (.ref l) Q σ :=
  fun A _ _ _ _ _ S hx hy => Exists.elim hx fun _ hx => Exists.elim hy fun _ hy => Exists.elim hy fun _ hy => hx ▸ hy.1 ▸ Exists.elim (S.rep.sdict_at h hy.2) fun _ hd =>
    wpAny_in_of (knd := strKind T.prog T.w) (k := k) (by simp [PySem.strKind, Value.isStrOf]) hd.2.2 hd.1.mapOf (S.post (hd.2.1.isSome ▸ q) .bool_mk _)
theorem in_tdict_ok {T : Tp} {d : Nat} {X : QX} {k : Str × Int} {l : Nat} {kvs : List ((Str × Int) × V)} {Q : QE} {σ : Hp} (h : σ[l]? = some (.tdict kvs)) (q : Q (.bool (kvs.any fun kv => kv.1 = k)) σ) : BinOk T d X (compareOp .In) (.tup [.str k.1, .int k.2]) (.ref l) Q σ :=
  fun A _ _ _ _ _ S hx hy => Exists.elim hx.pair fun _ hx => Exists.elim hy fun _ hy => Exists.elim hy fun _ hy => hx.1 ▸ hy.1 ▸ Exists.elim (S.rep.tdict_at h hy.2) fun _ hd =>
    wpAny_in_heap (knd := pairKind T.prog T.w) (k := k) (show A.units + 1 < cLine from room41 (x := 0) S.aok.units (by decide)) hx.2 hd.2.2 hd.1 (S.post (hd.2.1.isSome ▸ q) .bool_mk _)
theorem BinOk.nin {T : Tp} {d : Nat} {X : QX} {a b : V} {r : Bool} {Q : QE} {σ : Hp} (q : Q (.bool (!r)) σ) (h : BinOk T d X (compareOp .In) a b (fun v σ' => v = .bool r ∧ σ' = σ) σ) : BinOk T d X (compareOp .NotIn) a b Q σ :=
  fun A fs ι s x y S hx hy => notIn_of (wpAny_mono (h A fs ι s x y S hx hy) (fun v s' p b e => by
    obtain ⟨v, σ', ι', h0, h1, h2, h3, h4, h5⟩ := p
    cases h0.1; cases h0.2; cases e
    cases VRel.bool_inv h1
    exact ⟨_, _, _, q, .bool_mk, h2, h3, h4, h5⟩) fun _ _ p => p)
theorem InR.ok {T : Tp} {d : Nat} {X : QX} {σ : Hp} {a b : V} {r : Bool} (c : InR σ a b r) : ∀ {Q : QE}, Q (.bool r) σ → BinOk T d X (compareOp .In) a b Q σ := by
  induction c with
  | str => exact fun q => .strs fun S => in_str (S.post0 q .bool_mk)
  | list _ _ _ _ _ h h1 h2 h3 => exact fun q => in_list_ok h h1 h2 h3 q
  | dict _ _ _ h => exact fun q => in_dict_ok h q
  | tdict _ _ _ h => exact fun q => in_tdict_ok h q
theorem CmpR.ok {T : Tp} {d : Nat} {X : QX} {σ : Hp} {op : CmpOp} {a b : V} {r : Bool} (c : CmpR σ op a b r) : ∀ {Q : QE}, Q (.bool r) σ → BinOk T d X (compareOp op) a b Q σ := by
  induction c with
  | lt => exact fun q => .ints fun S => lt_int (S.post0 q .bool_mk)
  | le => exact fun q => .ints fun S => le_int (S.post0 q .bool_mk)
  | gt => exact fun q => .ints fun S => gt_int (S.post0 q .bool_mk)
  | ge => exact fun q => .ints fun S => ge_int (S.post0 q .bool_mk)
  | eqi => exact fun q => .ints fun S => PyProof.Rows.eq_int (S.post0 q .bool_mk)
  | nei => exact fun q => .ints fun S => ne_int (S.post0 q .bool_mk)
  | eqs => exact fun q => .strs fun S => PyProof.Rows.eq_str (S.post0 q .bool_mk)
  | nes => exact fun q => .strs fun S => ne_str (S.post0 q .bool_mk)
  | eq _ _ _ _ h1 h2 h3 => exact fun q => .eqR h1 h2 h3 fun S ra rb hr => compareEq_reads ra rb h1.lay h2.lay hr (S.post0 q .bool_mk)
  | ne _ _ _ _ h1 h2 h3 => exact fun q => .eqR h1 h2 h3 fun S ra rb hr => compareNe_reads ra rb h1.lay h2.lay hr (S.post0 q .bool_mk)
  | isN _ _ e => exact fun q _ _ _ _ _ _ S hx hy => hy.none_inv ▸ wpAny_is_plain (is_none e hx).1 (S.post0 ((is_none e hx).2 ▸ q) .bool_mk)
  | notN _ _ e => exact fun q _ _ _ _ _ _ S hx hy => hy.none_inv ▸ wpAny_isNot_plain (is_none e hx).1 (S.post0 ((is_none e hx).2 ▸ q) .bool_mk)
  | isB _ _ _ e => exact fun q _ _ _ _ _ _ S hx hy => hy.bool_inv ▸ wpAny_is_plain (is_bool e hx).1 (S.post0 ((is_bool e hx).2 ▸ q) .bool_mk)
  | notB _ _ _ e => exact fun q _ _ _ _ _ _ S hx hy => hy.bool_inv ▸ wpAny_isNot_plain (is_bool e hx).1 (S.post0 ((is_bool e hx).2 ▸ q) .bool_mk)
  | isin _ _ _ h => exact fun q => h.ok q
  | nin _ _ _ h => exact fun q => .nin q (h.ok ⟨rfl, rfl⟩)
theorem cmp_ok {T : Tp} {d : Nat} {X : QX} {op : CmpOp} {a b : V} {Q : QE} {σ : Hp} (h : cmpVC op a b Q σ) : BinOk T d X (compareOp op) a b Q σ := h.rec fun _ c q => c.ok q

end Mine

namespace Mine
open PySem PySem.Calls PyProof.Rows PySem.SeqAt

/-- the static facts of the top -/
structure TopOk (T : Tp) : Prop where
  X0 : T.K.In T.b0
  lim : T.b0.NoLimit
  own : ∀ x C bmB newId, PySem.W.nsIn T.K mainGlobals x = some (some (.ref C)) → PySem.W.excIn T.K C bmB newId = true → ∃ mg, PyProof.Rows.OwnCls x C bmB newId mg T.b0
  gl : ∀ x v, T.gv x = some v → ∃ V mg mb, T.b0.Ns mainGlobals mg ∧ T.b0.Ns builtinsNs mb ∧ (mg x = some V ∨ (mg x = none ∧ mb x = some V)) ∧ VRel T [] T.b0 v V

noncomputable def isVar (sc : Scope) (x : Str) : Bool := match sc.names.lookup x with
  | some .local | some .cell | some .free => true
  | _ => false
theorem isVar_out {sc : Scope} {x : Str} (h : isVar sc x = true) : sc.names.lookup x = some .local ∨ sc.names.lookup x = some .cell ∨ sc.names.lookup x = some .free := by
  unfold isVar at h
  generalize sc.names.lookup x = o at h ⊢
  rcases o with _ | k
  · exact (Bool.false_ne_true h).elim
  · cases k <;> first | exact .inl rfl | exact .inr (.inl rfl) | exact .inr (.inr rfl) | exact (Bool.false_ne_true h).elim
noncomputable def scOk (sc : Scope) : Bool := sc.names.all fun p => !(p.1 == ("__debug__" : Str)) && !(p.1 == ("__classdict__" : Str))

theorem not_debug {sc : Scope} {x : Str} {k : NameKind} (h : scOk sc = true) (e : sc.names.lookup x = some k) : (x == ("__debug__" : Str)) = false ∧ (x == ("__classdict__" : Str)) = false := by
  unfold scOk at h
  have : ∀ l : List (Str × NameKind), (l.all fun p => !(p.1 == ("__debug__" : Str)) && !(p.1 == ("__classdict__" : Str))) = true → l.lookup x = some k → (x == ("__debug__" : Str)) = false ∧ (x == ("__classdict__" : Str)) = false := by
    intro l
    induction l with
    | nil => intro _ e; cases e
    | cons p r ih =>
      intro h e
      simp only [List.all_cons, Bool.and_eq_true, Bool.not_eq_true'] at h
      rw [List.lookup_cons] at e
      by_cases q : (x == p.1) = true
      · rw [beq_iff_eq.mp q]; exact h.1
      · rw [Bool.not_eq_true] at q; rw [q] at e
        exact ih (by simpa using h.2) e
  exact this _ h e

noncomputable def noStar (es : List Expr) : Bool := es.all fun e => e.ctorIdx != 22
theorem starEach_one {env : Env} {e : Expr} {r : List Expr} (h : (e.ctorIdx != 22) = true) : starEach (e :: r) env = (false, eval e env) :: starEach r env := by
  cases e <;> first | rfl | cases h
theorem starEach_eq {env : Env} {pos : Pos} {es : List Expr} (h : noStar es = true) : backTo pos (starEach es env) = es.map fun e => (false, eval e env) := by
  induction es with
  | nil => rfl
  | cons e r ih =>
    have h := Bool.and_eq_true_iff.mp h
    rw [starEach_one h.1]
    exact congrArg (_ :: ·) (ih h.2)

section
variable {T : Tp} {d : Nat} {sc : Scope} {ρ : Loc} {X : QX} {Q : QE} {σ : Hp}



theorem EvOk.mono {e : Expr} {Q' : QE} {X' : QX} (h : EvOk T d sc ρ X e Q σ) (k : ∀ v σ, Q v σ → Q' v σ) (kx : ∀ c σ, X c σ → X' c σ) : EvOk T d sc ρ X' e Q' σ :=
  fun env A fs F ι s hsc I => wpAny_mono (h env A fs F ι s hsc I) (fun _ _ p => p.mono k) fun _ _ p => p.mono kx

theorem EvOk.none {k pos} (h : Q .none σ) : EvOk T d sc ρ X (.Constant .none k pos) Q σ := fun _ _ _ _ _ _ _ I => wpAny_Constant_none (I.st.post0 h .none_mk)
theorem EvOk.bool {b k pos} (h : Q (.bool b) σ) : EvOk T d sc ρ X (.Constant (.bool b) k pos) Q σ := fun _ _ _ _ _ _ _ I => wpAny_Constant_bool (I.st.post0 h .bool_mk)
theorem EvOk.int {i k pos} (h : Q (.int i) σ) : EvOk T d sc ρ X (.Constant (.int i) k pos) Q σ := fun _ _ _ _ _ _ _ I => wpAny_Constant_int (I.st.post h .int_mk _)
theorem EvOk.str {i k pos} (h : Q (.str i) σ) : EvOk T d sc ρ X (.Constant (.str i) k pos) Q σ := fun _ _ _ _ _ _ _ I => wpAny_Constant_str (I.st.post h .str_mk _)

theorem OptR.at {α β : Type} {R : α → β → Prop} {x : Option α} {y : Option β} (h : OptR R x y) : ∀ {a : α}, x = Option.some a → ∃ b, y = Option.some b ∧ R a b := h.rec (fun e => nomatch e) fun h e => ⟨_, rfl, Option.some.inj e ▸ h⟩
theorem EvOk.local {x : Str} {pos : Pos} {v : V} (h : Q v σ) (hv : ρ x = some v) (hk : sc.names.lookup x = some .local) (ho : scOk sc = true) : EvOk T d sc ρ X (.Name x pos) Q σ := by
  intro env A fs F ι s hsc I
  obtain ⟨c, m, _, hn, hr⟩ := I.frm.ns
  have hk' : env.kindOf x = some .local := (congrArg (fun z => z.names.lookup x) hsc).trans hk
  obtain ⟨y, hm, r⟩ := (hr x hk').at hv
  exact wpAny_Name (wpAny_loadName_local I.frm.kind hk' hn.ns hm (I.st.post0 h r)) (not_debug ho hk).1
theorem EvOk.cell {x : Str} {pos : Pos} {v : V} {k : NameKind} (h : Q v σ) (hv : ρ x = some v) (hk : sc.names.lookup x = some k) (hk' : k = .cell ∨ k = .free) (ho : scOk sc = true) : EvOk T d sc ρ X (.Name x pos) Q σ := by
  intro env A fs F ι s hsc I
  have hkk : env.kindOf x = some k := (congrArg (fun z => z.names.lookup x) hsc).trans hk
  obtain ⟨c, o, y, e1, e2, _, e4, r, _⟩ := I.frm.cells x (hk'.imp (fun e => hkk.trans (congrArg some e)) fun e => hkk.trans (congrArg some e))
  obtain ⟨y, e, r⟩ := r.at hv
  have hc : s.heap.IsCell c (some y) := ⟨o, e2, e ▸ e4⟩
  refine wpAny_Name ?_ (not_debug ho hk).1
  rcases hk' with e | e
  · exact wpAny_loadName_cell I.frm.kind (e ▸ hkk) e1 hc (I.st.post0 h r)
  · exact wpAny_loadName_free I.frm.kind (e ▸ hkk) e1 hc (I.st.post0 h r) (not_debug ho hk).2
theorem EvOk.var {x : Str} {pos : Pos} {v : V} (h : Q v σ) (hv : ρ x = some v) (hk : isVar sc x = true) (ho : scOk sc = true) : EvOk T d sc ρ X (.Name x pos) Q σ :=
  (isVar_out hk).elim (fun e => .local h hv e ho) fun e => e.elim (fun e => .cell h hv e (.inl rfl) ho) fun e => .cell h hv e (.inr rfl) ho

theorem VRel.up {ι : Inj} {h : Heap} {v : V} {x : Value} (R : Rep T ι σ h) (r : VRel T [] T.b0 v x) : VRel T ι h v x :=
  r.mono ⟨⟨ι, rfl⟩, fun _ o e _ => ⟨o, R.base _ _ e, rfl⟩, fun _ _ e _ => R.base _ _ e⟩

theorem EvOk.glob {x : Str} {pos : Pos} {v : V} (TO : TopOk T) (h : Q v σ) (hv : T.gv x = some v) (hk : sc.names.lookup x = some .globalImplicit) (ho : scOk sc = true) : EvOk T d sc ρ X (.Name x pos) Q σ := by
  intro env A fs F ι s hsc I
  subst hsc
  obtain ⟨V, mg, mb, n1, n2, hm, r⟩ := TO.gl x v hv
  have N1 := n1.keeps I.rep.base
  have N2 := n2.keeps I.rep.base
  have p := I.st.post0 (F := []) h (r.up I.rep)
  refine Name_function_global I.frm.kind hk ?_ (not_debug ho hk).1
  rw [← I.frm.glb] at N1
  rw [← I.frm.blt] at N2
  rcases hm with hm | ⟨hm, hb⟩
  · exact loadGlobal_global N1 hm p
  · exact loadGlobal_builtin N1 hm N2 hb p

/-- two expressions, then a tree over their values -/
theorem EvOk.two {l r : Expr} {t : Value → Value → Sem Value} {P : V → V → Hp → Prop} {env : Env} {A : Around} {fs : List Env} {F : List Addr} {ι : Inj} {s : Shared} (hk : ∀ {a b σ}, P a b σ → BinOk T d X t a b Q σ)
    (h : EvOk T d sc ρ X l (fun a σ₁ => EvOk T d sc ρ X r (fun b σ₂ => P a b σ₂) σ₁) σ) (hsc : env.scope = sc) (I : Inv T A fs d env F ρ ι σ s) :
    wpAny (model T.prog T.w) A (eval l env) (fun x s₁ => wpAny (model T.prog T.w) A (eval r env) (fun y s₂ => wpAny (model T.prog T.w) A (t x y) (PostE T [] Q ι s.heap) (PostX T [] X ι s.heap) s₂) (PostX T [] X ι s.heap) s₁) (PostX T [] X ι s.heap) s := by
  refine wpAny_mono (h env A fs F ι s hsc I) (fun x s₁ p => ?_) fun _ _ p => p
  obtain ⟨v, σ₁, ι₁, q, rv, rp, ex, g, o⟩ := p
  have I₁ := I.ext ex rp g o
  refine wpAny_mono (q env A fs F ι₁ s₁ hsc I₁) (fun y s₂ p => ?_) fun _ _ p => p.trans ex
  obtain ⟨v₂, σ₂, ι₂, q₂, rv₂, rp₂, ex₂, g₂, o₂⟩ := p
  exact wpAny_mono (hk q₂ A fs ι₂ s₂ x y (I₁.ext ex₂ rp₂ g₂ o₂).st (rv.mono ex₂.mono) rv₂) (fun _ _ p => p.trans (ex.trans ex₂)) fun _ _ p => p.trans (ex.trans ex₂)
theorem EvOk.bin {l r : Expr} {op : Operator} {pos : Pos} (h : EvOk T d sc ρ X l (fun a σ₁ => EvOk T d sc ρ X r (fun b σ₂ => binVC op a b Q σ₂) σ₁) σ) : EvOk T d sc ρ X (.BinOp l op r pos) Q σ :=
  fun _ _ _ _ _ _ hsc I => wpAny_BinOp (EvOk.two bin_ok h hsc I)
theorem EvOk.cmp {l r : Expr} {op : CmpOp} {pos : Pos} (h : EvOk T d sc ρ X l (fun a σ₁ => EvOk T d sc ρ X r (fun b σ₂ => cmpVC op a b Q σ₂) σ₁) σ) (hm : behindInMarks op r = false) : EvOk T d sc ρ X (.Compare l [op] [r] pos) Q σ :=
  fun _ _ _ _ _ _ hsc I => wpAny_Compare1 (EvOk.two cmp_ok h hsc I) hm

/-- the truth of a value -/
noncomputable def truthV (v : V) (σ : Hp) : Option Bool := match v with
  | .bool b => some b
  | .none => some false
  | .int i => some (i != 0)
  | .ref l => atL (fun vs => if vs.length < 1000000000 then some (!vs.isEmpty) else none) σ[l]?
  | _ => none

theorem truth_ok {A : Around} {fs : List Env} {ι : Inj} {s : Shared} {v : V} {x : Value} {b : Bool} {Q : Bool → Hp → Prop} (S : St T A fs d ι σ s) (r : VRel T ι s.heap v x) (e : truthV v σ = some b) (q : Q b σ) :
    wpAny (model T.prog T.w) A (truthy x) (PostB T Q ι s.heap) (PostX T [] X ι s.heap) s := by
  have fin : ∀ t, PostB T Q ι s.heap b { s with toks := t } := fun t => ⟨σ, ι, q, S.rep, .refl .., S.gens, S.os⟩
  cases v <;> first | exact (no_some e).elim | skip
  · cases r.none_inv; cases sm_inj e; exact wpAny_pure (fin s.toks)
  · cases r.bool_inv; cases sm_inj e; exact wpAny_truthy_bool (fin s.toks)
  · obtain ⟨t, rfl⟩ := r.int_inv; cases sm_inj e; exact P.truthy_int (fin s.toks)
  · obtain ⟨a, d', rfl, hl⟩ := r.ref_inv
    obtain ⟨vs, hvs, e⟩ := atL_out e
    · split at e
      · rename_i hlt
        simp only [Option.some.injEq] at e
        obtain ⟨items, n, hL, hv⟩ := S.rep.list_at hvs hl
        have hlen := hv.length
        simp only [Array.length_toList] at hlen
        refine wpAny_truthy_list hL.isList (by (clear hvs fin hl; lia)) ?_
        have : (!items.isEmpty) = b := by
          rw [← e]; congr 1
          rw [Bool.eq_iff_iff, Array.isEmpty_iff_size_eq_zero, List.isEmpty_iff_length_eq_zero, hlen]
        rw [this]; exact fin _
      · cases e
end

end Mine

namespace Mine
open PySem PySem.Calls PyProof.Rows PySem.SeqAt

section
variable {T : Tp} {d : Nat} {sc : Scope} {ρ : Loc} {X : QX} {Q : QE} {B : Bool → Hp → Prop} {σ : Hp}

theorem TsOk.cmp {l r : Expr} {op : CmpOp} {pos : Pos} (h : EvOk T d sc ρ X l (fun a σ₁ => EvOk T d sc ρ X r (fun b σ₂ => cmpVC op a b (fun v σ₃ => ∃ c, v = .bool c ∧ B c σ₃) σ₂) σ₁) σ) (hm : behindInMarks op r = false) : TsOk T d sc ρ X (.Compare l [op] [r] pos) B σ := by
  intro env A fs F ι s hsc I
  refine wpAny_isTrue_Compare1 (wpAny_mono (h env A fs F ι s hsc I) (fun x s₁ p => ?_) fun _ _ p => p) hm
  obtain ⟨v, σ₁, ι₁, q, rv, rp, ex, g, o⟩ := p
  have I₁ := I.ext ex rp g o
  refine wpAny_mono (q env A fs F ι₁ s₁ hsc I₁) (fun y s₂ p => ?_) fun _ _ p => p.trans ex
  obtain ⟨v₂, σ₂, ι₂, q₂, rv₂, rp₂, ex₂, g₂, o₂⟩ := p
  have I₂ := I₁.ext ex₂ rp₂ g₂ o₂
  refine wpAny_mono (cmp_ok q₂ A fs ι₂ s₂ x y I₂.st (rv.mono ex₂.mono) rv₂) (fun z s₃ p => ?_) fun _ _ p => p.trans (ex.trans ex₂)
  obtain ⟨v₃, σ₃, ι₃, ⟨c, rfl, q₃⟩, rv₃, rp₃, ex₃, g₃, o₃⟩ := p
  cases rv₃.bool_inv
  exact wpAny_truthy_bool ⟨σ₃, ι₃, q₃, rp₃, (ex.trans ex₂).trans ex₃, g₃, o₃⟩

theorem TsOk.not {x : Expr} {pos : Pos} (h : TsOk T d sc ρ X x (fun b σ₁ => B (!b) σ₁) σ) : TsOk T d sc ρ X (.UnaryOp .Not x pos) B σ := by
  intro env A fs F ι s hsc I
  exact wpAny_isTrue_Not (wpAny_mono (h env A fs F ι s hsc I) (fun b s₁ p => by obtain ⟨σ₁, ι₁, q, rp, ex, g, o⟩ := p; exact ⟨σ₁, ι₁, q, rp, ex, g, o⟩) fun _ _ p => p)

/-- and, or of tests -/
noncomputable def AllOk (T : Tp) (d : Nat) (sc : Scope) (ρ : Loc) (X : QX) (op : BoolOp) (es : List Expr) (B : Bool → Hp → Prop) (σ : Hp) : Prop :=
  ∀ env A fs F ι s, env.scope = sc → Inv T A fs d env F ρ ι σ s → wpAny (model T.prog T.w) A (allTrue op es env) (PostB T B ι s.heap) (PostX T [] X ι s.heap) s
theorem TsOk.bool {op : BoolOp} {es : List Expr} {pos : Pos} (h : AllOk T d sc ρ X op es B σ) : TsOk T d sc ρ X (.BoolOp op es pos) B σ :=
  fun env A fs F ι s hsc I => wpAny_isTrue_BoolOp (h env A fs F ι s hsc I)
theorem PostB.here {A : Around} {fs : List Env} {ι : Inj} {s : Shared} {b : Bool} (S : St T A fs d ι σ s) (q : B b σ) : PostB T B ι s.heap b s := ⟨σ, ι, q, S.rep, .refl .., S.gens, S.os⟩
theorem AllOk.and_nil (q : B true σ) : AllOk T d sc ρ X .And [] B σ := fun _ _ _ _ _ _ _ I => wpAny_allTrue_And_nil (.here I.st q)
theorem AllOk.or_nil (q : B false σ) : AllOk T d sc ρ X .Or [] B σ := fun _ _ _ _ _ _ _ I => wpAny_allTrue_Or_nil (.here I.st q)
theorem AllOk.and_cons {x : Expr} {r : List Expr} (h : TsOk T d sc ρ X x (fun b σ₁ => if b then AllOk T d sc ρ X .And r B σ₁ else B false σ₁) σ) : AllOk T d sc ρ X .And (x :: r) B σ := by
  intro env A fs F ι s hsc I
  refine wpAny_allTrue_And_cons (wpAny_mono (h env A fs F ι s hsc I) (fun b s₁ p => ?_) fun _ _ p => p)
  obtain ⟨σ₁, ι₁, q, rp, ex, g, o⟩ := p
  cases b
  · exact ⟨σ₁, ι₁, q, rp, ex, g, o⟩
  · exact wpAny_mono (q env A fs F ι₁ s₁ hsc (I.ext ex rp g o)) (fun _ _ p => p.trans ex) fun _ _ p => p.trans ex
theorem AllOk.or_cons {x : Expr} {r : List Expr} (h : TsOk T d sc ρ X x (fun b σ₁ => if b then B true σ₁ else AllOk T d sc ρ X .Or r B σ₁) σ) : AllOk T d sc ρ X .Or (x :: r) B σ := by
  intro env A fs F ι s hsc I
  refine wpAny_allTrue_Or_cons (wpAny_mono (h env A fs F ι s hsc I) (fun b s₁ p => ?_) fun _ _ p => p)
  obtain ⟨σ₁, ι₁, q, rp, ex, g, o⟩ := p
  cases b
  · exact wpAny_mono (q env A fs F ι₁ s₁ hsc (I.ext ex rp g o)) (fun _ _ p => p.trans ex) fun _ _ p => p.trans ex
  · exact ⟨σ₁, ι₁, q, rp, ex, g, o⟩

/-- a test that is no comparison, not, and, or, if -/
noncomputable def plainTest : Expr → Bool
  | .UnaryOp .Not _ _ | .BoolOp .. | .IfExp .. | .Compare .. => false
  | _ => true
theorem TsOk.val {e : Expr} (h : EvOk T d sc ρ X e (fun v σ₁ => ∃ b, truthV v σ₁ = some b ∧ B b σ₁) σ) (hp : plainTest e = true) : TsOk T d sc ρ X e B σ := by
  intro env A fs F ι s hsc I
  refine wpAny_isTrue_value (wpAny_mono (h env A fs F ι s hsc I) (fun x s₁ p => ?_) fun _ _ p => p) ?_
  · obtain ⟨v, σ₁, ι₁, ⟨b, e1, q⟩, rv, rp, ex, g, o⟩ := p
    exact wpAny_mono (truth_ok (I.ext ex rp g o).st rv e1 q) (fun _ _ p => p.trans ex) fun _ _ p => p.trans ex
  · cases e <;> first | rfl | (cases hp; done) | skip
    rename_i op x pos
    cases op <;> first | rfl | cases hp

/-- l op1 m op2 r as a test -/
theorem TsOk.cmp2 {l m r : Expr} {op1 op2 : CmpOp} {pos : Pos} (h : EvOk T d sc ρ X l (fun a σ₁ => EvOk T d sc ρ X m (fun b σ₂ => cmpVC op1 a b (fun v σ₃ => ∃ c, v = .bool c ∧ (if c then EvOk T d sc ρ X r (fun w σ₄ => cmpVC op2 b w (fun v σ₅ => ∃ c, v = .bool c ∧ B c σ₅) σ₄) σ₃ else B false σ₃)) σ₂) σ₁) σ)
    (hm : behindInMarks op2 r = false) : TsOk T d sc ρ X (.Compare l [op1, op2] [m, r] pos) B σ := by
  intro env A fs F ι s hsc I
  show wpAny _ _ (eval l env >>= fun a => testChain pos a [op1, op2] [eval m env, markedBehindIn op2 r (eval r env)]) _ _ _
  rw [markedBehindIn_of_false hm]
  refine wpAny_bind (wpAny_mono (h env A fs F ι s hsc I) (fun x s₁ p => ?_) fun _ _ p => p)
  obtain ⟨v, σ₁, ι₁, q, rv, rp, ex, g, o⟩ := p
  have I₁ := I.ext ex rp g o
  refine wpAny_bind (wpAny_holding (wpAny_mono (q env A fs F ι₁ s₁ hsc I₁) (fun y s₂ p => ?_) fun _ _ p => p.trans ex))
  obtain ⟨v₂, σ₂, ι₂, q₂, rv₂, rp₂, ex₂, g₂, o₂⟩ := p
  have I₂ := I₁.ext ex₂ rp₂ g₂ o₂
  refine wpAny_bind (wpAny_standAt (wpAny_bind (wpAny_holding (wpAny_mono (cmp_ok q₂ A fs ι₂ s₂ x y I₂.st (rv.mono ex₂.mono) rv₂) (fun z s₃ p => ?_) fun _ _ p => p.trans (ex.trans ex₂)))))
  obtain ⟨v₃, σ₃, ι₃, ⟨c, rfl, q₃⟩, rv₃, rp₃, ex₃, g₃, o₃⟩ := p
  cases rv₃.bool_inv
  have I₃ := I₂.ext ex₃ rp₃ g₃ o₃
  have ex123 := (ex.trans ex₂).trans ex₃
  refine wpAny_bind (wpAny_release (wpAny_bind (wpAny_holding (wpAny_truthy_bool ?_))))
  cases c
  · exact wpAny_pure ⟨σ₃, ι₃, q₃, rp₃, ex123, g₃, o₃⟩
  · show wpAny _ _ (testChain pos y [op2] [eval r env]) _ _ _
    refine wpAny_bind (wpAny_holding (wpAny_mono (q₃ env A fs F ι₃ s₃ hsc I₃) (fun u s₄ p => ?_) fun _ _ p => p.trans ex123))
    obtain ⟨v₄, σ₄, ι₄, q₄, rv₄, rp₄, ex₄, g₄, o₄⟩ := p
    have I₄ := I₃.ext ex₄ rp₄ g₄ o₄
    have ex1234 := ex123.trans ex₄
    refine wpAny_bind (wpAny_standAt (wpAny_bind (wpAny_operateT (wpAny_mono (cmp_ok q₄ A fs ι₄ s₄ y u I₄.st (rv₂.mono (ex₃.trans ex₄).mono) rv₄) (fun z s₅ p => ?_) fun _ _ p => p.trans ex1234))))
    obtain ⟨v₅, σ₅, ι₅, ⟨c, rfl, q₅⟩, rv₅, rp₅, ex₅, g₅, o₅⟩ := p
    cases rv₅.bool_inv
    exact wpAny_holding (wpAny_truthy_bool ⟨σ₅, ι₅, q₅, rp₅, ex1234.trans ex₅, g₅, o₅⟩)

/-- the same as a value -/
theorem EvOk.cmp2 {l m r : Expr} {op1 op2 : CmpOp} {pos : Pos} (h : EvOk T d sc ρ X l (fun a σ₁ => EvOk T d sc ρ X m (fun b σ₂ => cmpVC op1 a b (fun v σ₃ => ∃ c, v = .bool c ∧ (if c then EvOk T d sc ρ X r (fun w σ₄ => cmpVC op2 b w Q σ₄) σ₃ else Q (.bool false) σ₃)) σ₂) σ₁) σ)
    (hm : behindInMarks op2 r = false) : EvOk T d sc ρ X (.Compare l [op1, op2] [m, r] pos) Q σ := by
  intro env A fs F ι s hsc I
  show wpAny _ _ (eval l env >>= fun a => compareChain pos a [op1, op2] [eval m env, markedBehindIn op2 r (eval r env)]) _ _ _
  rw [markedBehindIn_of_false hm]
  refine wpAny_bind (wpAny_mono (h env A fs F ι s hsc I) (fun x s₁ p => ?_) fun _ _ p => p)
  obtain ⟨v, σ₁, ι₁, q, rv, rp, ex, g, o⟩ := p
  have I₁ := I.ext ex rp g o
  refine wpAny_bind (wpAny_holding (wpAny_mono (q env A fs F ι₁ s₁ hsc I₁) (fun y s₂ p => ?_) fun _ _ p => p.trans ex))
  obtain ⟨v₂, σ₂, ι₂, q₂, rv₂, rp₂, ex₂, g₂, o₂⟩ := p
  have I₂ := I₁.ext ex₂ rp₂ g₂ o₂
  refine wpAny_bind (wpAny_standAt (wpAny_bind (wpAny_holding (wpAny_mono (cmp_ok q₂ A fs ι₂ s₂ x y I₂.st (rv.mono ex₂.mono) rv₂) (fun z s₃ p => ?_) fun _ _ p => p.trans (ex.trans ex₂)))))
  obtain ⟨v₃, σ₃, ι₃, ⟨c, rfl, q₃⟩, rv₃, rp₃, ex₃, g₃, o₃⟩ := p
  cases rv₃.bool_inv
  have I₃ := I₂.ext ex₃ rp₃ g₃ o₃
  have ex123 := (ex.trans ex₂).trans ex₃
  refine wpAny_bind (wpAny_release (wpAny_bind (wpAny_holding (wpAny_truthy_bool ?_))))
  cases c
  · exact wpAny_pure ⟨_, σ₃, ι₃, q₃, .bool_mk, rp₃, ex123, g₃, o₃⟩
  · show wpAny _ _ (compareChain pos y [op2] [eval r env]) _ _ _
    refine wpAny_bind (wpAny_holding (wpAny_mono (q₃ env A fs F ι₃ s₃ hsc I₃) (fun u s₄ p => ?_) fun _ _ p => p.trans ex123))
    obtain ⟨v₄, σ₄, ι₄, q₄, rv₄, rp₄, ex₄, g₄, o₄⟩ := p
    have I₄ := I₃.ext ex₄ rp₄ g₄ o₄
    have ex1234 := ex123.trans ex₄
    exact wpAny_bind (wpAny_standAt (wpAny_operateT (wpAny_mono (cmp_ok q₄ A fs ι₄ s₄ y u I₄.st (rv₂.mono (ex₃.trans ex₄).mono) rv₄) (fun z s₅ p => p.trans ex1234) fun _ _ p => p.trans ex1234)))

theorem EvOk.not {x : Expr} {pos : Pos} (h : EvOk T d sc ρ X x (fun v σ₁ => ∃ b, truthV v σ₁ = some b ∧ Q (.bool (!b)) σ₁) σ) : EvOk T d sc ρ X (.UnaryOp .Not x pos) Q σ := by
  intro env A fs F ι s hsc I
  refine wpAny_UnaryOp (wpAny_mono (h env A fs F ι s hsc I) (fun x s₁ p => ?_) fun _ _ p => p)
  obtain ⟨v, σ₁, ι₁, ⟨b, e1, q⟩, rv, rp, ex, g, o⟩ := p
  refine not_value (wpAny_mono (truth_ok (Q := fun c σ' => Q (.bool (!c)) σ') (I.ext ex rp g o).st rv e1 q) (fun c s₂ p => ?_) fun _ _ p => p.trans ex)
  obtain ⟨σ₂, ι₂, q₂, rp₂, ex₂, g₂, o₂⟩ := p
  exact ⟨_, σ₂, ι₂, q₂, .bool_mk, rp₂, ex.trans ex₂, g₂, o₂⟩
theorem EvOk.neg {x : Expr} {pos : Pos} (h : EvOk T d sc ρ X x (fun v σ₁ => ∃ i, v = .int i ∧ Q (.int (-i)) σ₁) σ) : EvOk T d sc ρ X (.UnaryOp .USub x pos) Q σ := by
  intro env A fs F ι s hsc I
  refine wpAny_UnaryOp (wpAny_mono (h env A fs F ι s hsc I) (fun x s₁ p => ?_) fun _ _ p => p)
  obtain ⟨v, σ₁, ι₁, ⟨i, rfl, q⟩, rv, rp, ex, g, o⟩ := p
  obtain ⟨t, rfl⟩ := rv.int_inv
  exact P.neg_int (((I.ext ex rp g o).st.post q .int_mk _).trans ex)

/-- and, or as values -/
noncomputable def BoolsOk (T : Tp) (d : Nat) (sc : Scope) (ρ : Loc) (X : QX) (op : BoolOp) (es : List Expr) (Q : QE) (σ : Hp) : Prop :=
  ∀ env A fs F ι s pos, env.scope = sc → Inv T A fs d env F ρ ι σ s → wpAny (model T.prog T.w) A (boolOp pos op (evalEach es env)) (PostE T [] Q ι s.heap) (PostX T [] X ι s.heap) s
theorem EvOk.bools {op : BoolOp} {es : List Expr} {pos : Pos} (h : BoolsOk T d sc ρ X op es Q σ) : EvOk T d sc ρ X (.BoolOp op es pos) Q σ :=
  fun env A fs F ι s hsc I => h env A fs F ι s pos hsc I
theorem BoolsOk.one {op : BoolOp} {x : Expr} (h : EvOk T d sc ρ X x Q σ) : BoolsOk T d sc ρ X op [x] Q σ :=
  fun env A fs F ι s _ hsc I => h env A fs F ι s hsc I
theorem BoolsOk.and {x y : Expr} {r : List Expr} (h : EvOk T d sc ρ X x (fun v σ₁ => ∃ b, truthV v σ₁ = some b ∧ (if b then BoolsOk T d sc ρ X .And (y :: r) Q σ₁ else Q v σ₁)) σ) : BoolsOk T d sc ρ X .And (x :: y :: r) Q σ := by
  intro env A fs F ι s pos hsc I
  show wpAny _ _ (eval x env >>= fun v => standAt pos >>= fun _ => holding [v] (truthy v) >>= fun t => match BoolOp.And, t with
    | .And, false | .Or, true => pure v
    | _, _ => boolOp pos .And (evalEach (y :: r) env)) _ _ _
  refine wpAny_bind (wpAny_mono (h env A fs F ι s hsc I) (fun x s₁ p => ?_) fun _ _ p => p)
  obtain ⟨v, σ₁, ι₁, ⟨b, e1, q⟩, rv, rp, ex, g, o⟩ := p
  have I₁ := I.ext ex rp g o
  refine wpAny_bind (wpAny_standAt (wpAny_bind (wpAny_holding (wpAny_mono (truth_ok (Q := fun c σ' => c = b ∧ σ' = σ₁) I₁.st rv e1 ⟨rfl, rfl⟩) (fun c s₂ p => ?_) fun _ _ p => p.trans ex))))
  obtain ⟨σ₂, ι₂, ⟨rfl, rfl⟩, rp₂, ex₂, g₂, o₂⟩ := p
  cases c
  · exact wpAny_pure ⟨v, σ₂, ι₂, q, rv.mono ex₂.mono, rp₂, ex.trans ex₂, g₂, o₂⟩
  · exact wpAny_mono (q env A fs F ι₂ s₂ pos hsc (I₁.ext ex₂ rp₂ g₂ o₂)) (fun _ _ p => p.trans (ex.trans ex₂)) fun _ _ p => p.trans (ex.trans ex₂)
theorem BoolsOk.or {x y : Expr} {r : List Expr} (h : EvOk T d sc ρ X x (fun v σ₁ => ∃ b, truthV v σ₁ = some b ∧ (if b then Q v σ₁ else BoolsOk T d sc ρ X .Or (y :: r) Q σ₁)) σ) : BoolsOk T d sc ρ X .Or (x :: y :: r) Q σ := by
  intro env A fs F ι s pos hsc I
  show wpAny _ _ (eval x env >>= fun v => standAt pos >>= fun _ => holding [v] (truthy v) >>= fun t => match BoolOp.Or, t with
    | .And, false | .Or, true => pure v
    | _, _ => boolOp pos .Or (evalEach (y :: r) env)) _ _ _
  refine wpAny_bind (wpAny_mono (h env A fs F ι s hsc I) (fun x s₁ p => ?_) fun _ _ p => p)
  obtain ⟨v, σ₁, ι₁, ⟨b, e1, q⟩, rv, rp, ex, g, o⟩ := p
  have I₁ := I.ext ex rp g o
  refine wpAny_bind (wpAny_standAt (wpAny_bind (wpAny_holding (wpAny_mono (truth_ok (Q := fun c σ' => c = b ∧ σ' = σ₁) I₁.st rv e1 ⟨rfl, rfl⟩) (fun c s₂ p => ?_) fun _ _ p => p.trans ex))))
  obtain ⟨σ₂, ι₂, ⟨rfl, rfl⟩, rp₂, ex₂, g₂, o₂⟩ := p
  cases c
  · exact wpAny_mono (q env A fs F ι₂ s₂ pos hsc (I₁.ext ex₂ rp₂ g₂ o₂)) (fun _ _ p => p.trans (ex.trans ex₂)) fun _ _ p => p.trans (ex.trans ex₂)
  · exact wpAny_pure ⟨v, σ₂, ι₂, q, rv.mono ex₂.mono, rp₂, ex.trans ex₂, g₂, o₂⟩

/-- displays -/
theorem EvsOk.nil {L : List V → Hp → Prop} (q : L [] σ) : EvsOk T d sc ρ X [] L σ := fun _ _ _ _ ι _ _ I => wpAny_pure ⟨[], σ, ι, q, VRels.nil_iff.mpr rfl, I.rep, .refl .., I.gens, I.os⟩
theorem EvsOk.cons {L : List V → Hp → Prop} {e : Expr} {r : List Expr} (h : EvOk T d sc ρ X e (fun v σ₁ => EvsOk T d sc ρ X r (fun vs σ₂ => L (v :: vs) σ₂) σ₁) σ) : EvsOk T d sc ρ X (e :: r) L σ := by
  intro env A fs F ι s hsc I
  refine spliced_cons (wpAny_mono (h env A fs F ι s hsc I) (fun x s₁ p => ?_) fun _ _ p => p)
  obtain ⟨v, σ₁, ι₁, q, rv, rp, ex, g, o⟩ := p
  refine wpAny_mono (q env A fs F ι₁ s₁ hsc (I.ext ex rp g o)) (fun xs s₂ p => ?_) fun _ _ p => p.trans ex
  obtain ⟨vs, σ₂, ι₂, q₂, rvs, rp₂, ex₂, g₂, o₂⟩ := p
  exact ⟨v :: vs, σ₂, ι₂, q₂, VRels.cons_iff.mpr ⟨_, _, rfl, rv.mono ex₂.mono, rvs⟩, rp₂, ex.trans ex₂, g₂, o₂⟩
theorem EvOk.tup {es : List Expr} {k : Nat} {pos : Pos} (h : EvsOk T d sc ρ X es (fun vs σ₁ => vs.length ≤ sizeLine ∧ Q (.tup vs) σ₁) σ) (ns : noStar es = true) : EvOk T d sc ρ X (.Tuple es k pos) Q σ := by
  intro env A fs F ι s hsc I
  refine wpAny_Tuple ?_
  rw [starEach_eq ns]
  refine wpAny_mono (h env A fs F ι s hsc I) (fun xs s₁ p => ?_) fun _ _ p => p
  obtain ⟨vs, σ₁, ι₁, ⟨hl, q⟩, rv, rp, ex, g, o⟩ := p
  exact ⟨by rw [rv.length]; exact hl, ((I.ext ex rp g o).st.newTup (items := xs.toArray) (by simpa using rv) q (t := s₁.toks)).trans ex⟩
theorem EvOk.list {es : List Expr} {pos : Pos} (h : EvsOk T d sc ρ X es (fun vs σ₁ => vs.length ≤ sizeLine ∧ Q (.ref σ₁.length) (σ₁ ++ [.list vs])) σ) (ns : noStar es = true) : EvOk T d sc ρ X (.List es pos) Q σ := by
  intro env A fs F ι s hsc I
  refine wpAny_List ?_
  rw [starEach_eq ns]
  refine wpAny_mono (h env A fs F ι s hsc I) (fun xs s₁ p => ?_) fun _ _ p => p
  obtain ⟨vs, σ₁, ι₁, ⟨hl, q⟩, rv, rp, ex, g, o⟩ := p
  exact ⟨by rw [rv.length]; exact hl, ((I.ext ex rp g o).st.newList (items := xs.toArray) (by simpa using rv) q (t := s₁.toks)).trans ex⟩
end

end Mine

namespace Mine
open PySem PySem.Calls PyProof.Rows PySem.SeqAt

noncomputable def sm63 (k : Int) : Prop := -(2 ^ 63) ≤ k ∧ k < 2 ^ 63

/-- o[i]: what it is -/
inductive ItemR (σ : Hp) : V → V → V → Prop where
  | tup (vs : List V) (k : Int) (j : Nat) (v : V) (e1 : seqIndex? k vs.length = some j) (e2 : vs[j]? = some v) (e3 : sm63 k) : ItemR σ (.tup vs) (.int k) v
  | list (l : Nat) (vs : List V) (k : Int) (j : Nat) (v : V) (e0 : σ[l]? = some (.list vs)) (e1 : seqIndex? k vs.length = some j) (e2 : vs[j]? = some v) (e3 : sm63 k) : ItemR σ (.ref l) (.int k) v
  | str (s : Str) (k : Int) (c : Nat) (e1 : (seqIndex? k s.length).bind (s.cps[·]?) = some c) (e3 : sm63 k) : ItemR σ (.str s) (.int k) (.str ⟨#[c]⟩)
  | scr (xs : List Int) (k i : Int) (h0 : 0 ≤ k) (h1 : k < 2 ^ 63) (h2 : xs[k.toNat]? = some i) : ItemR σ (.scr xs) (.int k) (.int i)
  | dict (l : Nat) (x : Str) (kvs : List (Str × V)) (v : V) (e0 : σ[l]? = some (.sdict kvs)) (e1 : (kvs.find? fun kv => kv.1 = x).map (·.2) = some v) : ItemR σ (.ref l) (.str x) v
  | tdict (l : Nat) (k : Str × Int) (kvs : List ((Str × Int) × V)) (v : V) (e0 : σ[l]? = some (.tdict kvs)) (e1 : (kvs.find? fun kv => kv.1 = k).map (·.2) = some v) : ItemR σ (.ref l) (.tup [.str k.1, .int k.2]) v
inductive itemVC (o i : V) (Q : QE) (σ : Hp) : Prop where
  | mk (v : V) (r : ItemR σ o i v) (q : Q v σ) : itemVC o i Q σ

noncomputable def notSlice (e : Expr) : Bool := e.ctorIdx != 26
theorem subscripted_eq {slice : Expr} {o i : Value} (h : notSlice slice = true) : subscripted slice false o i = operate [o, i] (getItem o i) := by
  cases slice <;> first | rfl | cases h

section
variable {T : Tp} {d : Nat} {sc : Scope} {ρ : Loc} {X : QX} {Q : QE} {σ : Hp}

theorem seqIndex_inv {k : Int} {n j : Nat} (h : seqIndex? k n = some j) : (0 ≤ k ∧ j = k.toNat) ∨ (k < 0 ∧ -(n : Int) ≤ k ∧ j = (k + n).toNat) := by
  unfold seqIndex? at h
  by_cases hk : k < 0
  · right
    simp only [hk, if_true] at h
    split at h
    · rename_i hb
      simp only [Bool.and_eq_true, decide_eq_true_eq] at hb
      simp only [Option.some.injEq] at h
      exact ⟨hk, by (clear h hk; lia), h.symm⟩
    · cases h
  · left
    simp only [hk, if_false] at h
    split at h
    · simp only [Option.some.injEq] at h; exact ⟨by (clear h; lia), h.symm⟩
    · cases h

/-- o[i], the tree -/
noncomputable def ItemOk (T : Tp) (d : Nat) (X : QX) (o i : V) (Q : QE) (σ : Hp) : Prop := ∀ A fs ι s x y, St T A fs d ι σ s → VRel T ι s.heap o x → VRel T ι s.heap i y → ∃ ty id, s.TypeIs x ty ∧ typeLookup (.type ty) "__getitem__" = pure (some (.builtin id)) ∧ wpAny (model T.prog T.w) A (getItem x y) (PostE T [] Q ι s.heap) (PostX T [] X ι s.heap) s
theorem size_eq {T : Tp} {ι : Inj} {h : Heap} {vs : List V} {items : Array Value} (hv : VRels T ι h vs items.toList) : items.size = vs.length := Array.length_toList.symm.trans hv.length
theorem sm_big {k : Int} (h : sm63 k) : (decide (k < -(2 ^ 63)) || decide (2 ^ 63 ≤ k)) = false := by
  rw [decide_eq_false (Int.not_lt.mpr h.1), decide_eq_false (Int.not_le.mpr h.2)]; rfl
theorem item_tup {vs : List V} {k : Int} {j : Nat} {v : V} (e1 : seqIndex? k vs.length = some j) (e2 : vs[j]? = some v) (e3 : sm63 k) (q : Q v σ) : ItemOk T d X (.tup vs) (.int k) Q σ := fun A fs ι s x y S rx ry => by
  obtain ⟨a, items, n, rfl, ht, hv⟩ := rx.tup_inv
  obtain ⟨t, rfl⟩ := ry.int_inv
  obtain ⟨z, hz, rz⟩ := hv.get e2
  exact ⟨_, _, ⟨_, ht, rfl⟩, PySem.F.slot_tuple_getitem.lookup, P.getItem_tuple ht e3.1 e3.2 ((size_eq hv).symm ▸ e1) (Array.getElem?_toList ▸ hz) (S.post0 q rz)⟩
theorem item_list {l : Nat} {vs : List V} {k : Int} {j : Nat} {v : V} (e0 : σ[l]? = some (.list vs)) (e1 : seqIndex? k vs.length = some j) (e2 : vs[j]? = some v) (e3 : sm63 k) (q : Q v σ) : ItemOk T d X (.ref l) (.int k) Q σ := fun A fs ι s x y S rx ry => by
  obtain ⟨a, d', rfl, hl⟩ := rx.ref_inv
  obtain ⟨t, rfl⟩ := ry.int_inv
  obtain ⟨items, n, hL, hv⟩ := S.rep.list_at e0 hl
  obtain ⟨z, hz, rz⟩ := hv.get e2
  refine ⟨_, _, ⟨_, hL, rfl⟩, PySem.F.slot_list_getitem.lookup, ?_⟩
  rcases seqIndex_inv e1 with ⟨k0, rfl⟩ | ⟨k0, k1, rfl⟩
  · exact wpAny_getItem_list hL.isList k0 e3.2 (Array.getElem?_toList ▸ hz) (S.post0 q rz)
  · rw [← size_eq hv] at k1 hz
    exact wpAny_getItem_list_neg hL.isList k0 k1 e3.1 (Array.getElem?_toList ▸ hz) (S.post0 q rz)
theorem item_dict {l : Nat} {k : Str} {kvs : List (Str × V)} {v : V} (e0 : σ[l]? = some (.sdict kvs)) (e1 : (kvs.find? fun kv => kv.1 = k).map (·.2) = some v) (q : Q v σ) : ItemOk T d X (.ref l) (.str k) Q σ := fun A fs ι s x y S rx ry => by
  obtain ⟨a, d', rfl, hl⟩ := rx.ref_inv
  obtain ⟨t, rfl⟩ := ry.str_inv
  obtain ⟨rvs, hd, hv, _⟩ := S.rep.sdict_at e0 hl
  obtain ⟨z, hm, r⟩ := hv.find.at e1
  exact ⟨_, _, hd.mapOf.typeIs, PySem.F.slot_dict_getitem.lookup, wpAny_getItem_of (knd := strKind T.prog T.w) (k := k) (by simp [PySem.strKind, Value.isStrOf]) hd.mapOf hm (S.post q r _)⟩
theorem item_tdict {l : Nat} {k : Str × Int} {kvs : List ((Str × Int) × V)} {v : V} (e0 : σ[l]? = some (.tdict kvs)) (e1 : (kvs.find? fun kv => kv.1 = k).map (·.2) = some v) (q : Q v σ) : ItemOk T d X (.ref l) (.tup [.str k.1, .int k.2]) Q σ := fun A fs ι s x y S rx ry => by
  obtain ⟨a, d', rfl, hl⟩ := rx.ref_inv
  obtain ⟨a', rfl, hk⟩ := ry.pair
  obtain ⟨xs, hd, hv, _⟩ := S.rep.tdict_at e0 hl
  obtain ⟨z, hm, r⟩ := hv.find.at e1
  exact ⟨_, _, hd.typeIs, PySem.F.slot_dict_getitem.lookup, wpAny_getItem_heap (knd := pairKind T.prog T.w) (k := k) (show A.units + 1 < cLine from room41 (x := 0) S.aok.units (by decide)) hk hd hm (S.post q r _)⟩
theorem item_scr {xs : List Int} {k i : Int} (k0 : 0 ≤ k) (k1 : k < 2 ^ 63) (e1 : xs[k.toNat]? = some i) (q : Q (.int i) σ) : ItemOk T d X (.scr xs) (.int k) Q σ := fun A fs ι s x y S rx ry => by
  obtain ⟨a, ob, items, n, rfl, ho, hc, hd, l, hl, rfl⟩ := rx
  obtain ⟨t, rfl⟩ := ry.int_inv
  have ho' := S.rep.base _ _ ho
  rw [List.getElem?_map] at e1
  obtain ⟨p, hp, rfl⟩ := Option.map_eq_some_iff.mp e1
  refine ⟨_, _, ⟨_, ho', hc⟩, PySem.F.slot_list_getitem.lookup, wpAny_getItem_list (x := .int p.1 p.2) ⟨_, ho', hc, n, hd⟩ k0 k1 ?_ (S.post0 q .int_mk)⟩
  rw [← Array.getElem?_toList, hl, List.getElem?_map, hp]; rfl
theorem ItemR.ok {o i v : V} (r : ItemR σ o i v) : ∀ {Q : QE}, Q v σ → ItemOk T d X o i Q σ := by
  induction r with
  | tup _ _ _ _ e1 e2 e3 => exact fun q => item_tup e1 e2 e3 q
  | list _ _ _ _ _ e0 e1 e2 e3 => exact fun q => item_list e0 e1 e2 e3 q
  | str _ _ _ e1 e3 => exact fun q A fs ι s x y S rx ry => Exists.elim rx fun _ h => Exists.elim ry fun _ h' => h ▸ h' ▸ ⟨"str", _, rfl, PySem.F.slot_str_getitem.lookup, PyProof.Rows.getItem_str (sm_big e3) e1 (S.post q .str_mk _)⟩
  | scr _ _ _ h0 h1 h2 => exact fun q => item_scr h0 h1 h2 q
  | dict _ _ _ _ e0 e1 => exact fun q => item_dict e0 e1 q
  | tdict _ _ _ _ e0 e1 => exact fun q => item_tdict e0 e1 q
theorem item_ok {o i : V} {value slice : Expr} (ns : notSlice slice = true) (h : itemVC o i Q σ) : BinOk T d X (subscriptTail value slice) o i Q σ := fun A fs ι s x y S rx ry =>
  h.rec fun _ r q => Exists.elim (r.ok q A fs ι s x y S rx ry) fun _ h => Exists.elim h fun _ h => tail_any h.1 h.2.1 h.2.2 (subscripted_eq ns)
theorem EvOk.item {value slice : Expr} {pos : Pos} (h : EvOk T d sc ρ X value (fun o σ₁ => EvOk T d sc ρ X slice (fun i σ₂ => itemVC o i Q σ₂) σ₁) σ) (ns : notSlice slice = true) : EvOk T d sc ρ X (.Subscript value slice pos) Q σ :=
  fun _ _ _ _ _ _ hsc I => Subscript_ (EvOk.two (item_ok ns) h hsc I)

/-- f(..), f by its name -/
noncomputable def callable : V → Bool
  | .bi _ | .type _ => true
  | _ => false
/-- what a value that is called is kept by -/
noncomputable def KeepsIn (T : Tp) (f : V) : Prop := callable f = true ∨ ∀ v, (∃ x, f = .glob x ∧ T.g x = some v) ∨ (∃ c x, f = .mth c x ∧ T.m c x = some v) → PySem.W.keepIn T.K v = true

theorem keeps_any {f : V} {fv : Value} {ι : Inj} {h : Heap} {M : Model} (hk : KeepsIn T f) (r : VRel T ι h f fv) (hc : callable f = true ∨ (∃ x, f = .glob x) ∨ (∃ c x, f = .mth c x)) :
    ∀ h', T.K.In h' → ∃ k, (k = Keeper.frame ∨ k = Keeper.machine ∨ k = Keeper.boundFrame) ∧ PySem.W.Looks M h' (keeperOf fv) k := by
  intro h' X'
  have triv : (∀ a, fv ≠ .ref a) → ∃ k, (k = Keeper.frame ∨ k = Keeper.machine ∨ k = Keeper.boundFrame) ∧ PySem.W.Looks M h' (keeperOf fv) k := fun ne =>
    ⟨.machine, .inr (.inl rfl), PySem.W.Looks.of_pure (by cases fv <;> first | rfl | exact absurd rfl (ne _))⟩
  have key : PySem.W.keepIn T.K fv = true → ∃ k, (k = Keeper.frame ∨ k = Keeper.machine ∨ k = Keeper.boundFrame) ∧ PySem.W.Looks M h' (keeperOf fv) k := fun e => PySem.W.keeps_K e h' X'
  rcases hc with hc | ⟨x, rfl⟩ | ⟨c, x, rfl⟩
  · cases f <;> first | (cases hc; done) | skip
    · subst r; exact triv fun a e => by cases e
    · subst r; exact triv fun a e => by cases e
  · rcases hk with hk | hk
    · cases hk
    · exact key (hk fv (.inl ⟨x, rfl, r⟩))
  · rcases hk with hk | hk
    · cases hk
    · exact key (hk fv (.inr ⟨c, x, rfl, r⟩))

theorem evalArgs_list {M : Model} {A : Around} {E : Value → Shared → Prop} {s : Shared} {f : Value} {env : Env} {es : List Expr} {Q : Args → Shared → Prop}
    (h : wpAny M A (spliced (es.map fun e => (false, eval e env))) (fun vs s' => Q ⟨vs, []⟩ s') E s) : wpAny M A (evalArgs f true (es.map fun e => (false, eval e env)) []) Q E s := by
  cases es with
  | nil =>
    unfold evalArgs
    show wpAny M A (spliced [] >>= _) Q E s
    refine wpAny_bind (wpAny_mono h (fun vs s' h' => ?_) fun _ _ x => x)
    refine wpAny_holding ?_
    exact wpAny_bind (wpAny_pure (wpAny_bind (wpAny_pure (wpAny_pure h'))))
  | cons e r => exact evalArgs_plain h

theorem EvOk.call {x : Str} {np pos : Pos} {args : List Expr} (TO : TopOk T) (ns : noStar args = true)
    (h : EvOk T d sc ρ X (.Name x np) (fun f σ₁ => (callable f = true ∨ (∃ x, f = .glob x) ∨ (∃ c x, f = .mth c x)) ∧ KeepsIn T f ∧ EvsOk T d sc ρ X args (fun vs σ₂ => CallOk T d X f vs Q σ₂) σ₁) σ) :
    EvOk T d sc ρ X (.Call (.Name x np) args [] pos) Q σ := by
  intro env A fs F ι s hsc I
  rw [arm_eval_Call_Name']
  refine wpAny_bind (wpAny_mono (h env A fs F ι s hsc I) (fun fv s₁ p => ?_) fun _ _ p => p)
  obtain ⟨f, σ₁, ι₁, ⟨hc, hk, q⟩, rv, rp, ex, g, o⟩ := p
  have I₁ := I.ext ex rp g o
  rw [starEach_eq ns]
  refine PySem.W.callWith_of (P := T.K.In) (by rw [show backToKw pos (keywordEach [] env) = [] from rfl]; simp) (keeps_any hk rv hc) (evalArgs_list (wpAny_mono (q env A fs F ι₁ s₁ hsc I₁) (fun xs s₂ p => ?_) fun _ _ p => p.trans ex))
  obtain ⟨vs, σ₂, ι₂, q₂, rvs, rp₂, ex₂, g₂, o₂⟩ := p
  have I₂ := I₁.ext ex₂ rp₂ g₂ o₂
  refine ⟨TO.X0.keeps I₂.rep.base, ?_⟩
  exact wpAny_mono (q₂ A fs ι₂ s₂ fv xs I₂.st (rv.mono ex₂.mono) rvs) (fun _ _ p => p.trans (ex.trans ex₂)) fun _ _ p => p.trans (ex.trans ex₂)
end

end Mine

namespace Mine
open PySem PySem.Calls PyProof.Rows PySem.SeqAt

/-- what noting an exception ea that was made behind lo may turn -/
structure Touch (S : List Addr) (lo : Nat) (ea : Addr) (h h' : Heap) : Prop where
  size : h.objs.size ≤ h'.objs.size
  cls : ∀ a o, h.get? a = some o → ∃ o', h'.get? a = some o' ∧ o'.cls = o.cls
  keep : ∀ a o, h.get? a = some o → a ≠ ea → (a < lo ∨ o.cls ≠ .type "traceback") → a ∉ S → h'.get? a = some o
  frm : ∀ a o, h.get? a = some o → a ≠ ea → (a < lo ∨ o.cls ≠ .type "traceback") → ∃ sl, h'.get? a = some { o with slots := sl }

theorem Touch.refl {S lo ea} (h : Heap) : Touch S lo ea h h := ⟨Nat.le_refl _, fun _ o e => ⟨o, e, rfl⟩, fun _ _ e _ _ _ => e, fun _ o e _ _ => ⟨o.slots, e⟩⟩
theorem Touch.trans {S lo ea} {h h₁ h₂ : Heap} (x : Touch S lo ea h h₁) (y : Touch S lo ea h₁ h₂) : Touch S lo ea h h₂ where
  size := Nat.le_trans x.size y.size
  cls := fun a o e => let ⟨o₁, e₁, c₁⟩ := x.cls a o e; let ⟨o₂, e₂, c₂⟩ := y.cls a o₁ e₁; ⟨o₂, e₂, c₂.trans c₁⟩
  keep := fun a o e n c s => y.keep a o (x.keep a o e n c s) n c s
  frm := fun a o e n c => let ⟨_, e₁⟩ := x.frm a o e n c; let ⟨sl, e₂⟩ := y.frm a _ e₁ n c; ⟨sl, e₂⟩
theorem Touch.of_slots {S lo ea} {h h' : Heap} (x : Heap.SlotsOnly S h h') : Touch S lo ea h h' where
  size := Nat.le_of_eq x.1.symm
  cls := fun a o e => let ⟨_, e₁⟩ := x.2.2 a o e; ⟨_, e₁, rfl⟩
  keep := fun a o e _ _ s => (x.2.1 a s).trans e
  frm := fun a o e _ _ => x.2.2 a o e
theorem Touch.of_push {S lo ea} (h : Heap) (o : Obj) : Touch S lo ea h (h.push o) :=
  ⟨by rw [Heap.size_push]; exact Nat.le_of_lt (Nat.lt_succ_self h.objs.size), fun _ o e => ⟨o, Heap.get?_push_of_some _ e, rfl⟩, fun _ _ e _ _ _ => Heap.get?_push_of_some _ e, fun _ o e _ _ => ⟨o.slots, Heap.get?_push_of_some _ e⟩⟩
theorem Touch.of_set {S} {lo : Nat} {ea : Addr} {h : Heap} {a : Addr} {o : Obj} {vs : Array Value} (ho : h.get? a = some o) (hd : o.data = .fields vs) (f : Array Value → Array Value) (ha : a = ea ∨ (lo ≤ a ∧ o.cls = .type "traceback")) :
    Touch S lo ea h (h.update a (Obj.mapFields f)) := by
  have hself := Heap.get?_update_self (Obj.mapFields f) ho (Obj.isFreed_of_fields (Obj.data_mapFields hd f))
  have ne : ∀ b x, h.get? b = some x → b ≠ ea → (b < lo ∨ x.cls ≠ .type "traceback") → b ≠ a := fun b x hb n c q => by
    subst q
    rcases ha with ha | ⟨ha, hc⟩
    · exact n ha
    · rw [ho] at hb; cases hb
      rcases c with c | c
      · exact absurd c (Nat.not_lt.mpr ha)
      · exact c hc
  refine ⟨Nat.le_of_eq (Heap.size_after_update ..).symm, fun b x hb => ?_, fun b x hb n c _ => ?_, fun b x hb n c => ⟨x.slots, ?_⟩⟩
  · by_cases q : b = a
    · subst q; rw [ho] at hb; cases hb; exact ⟨_, hself, Obj.cls_mapFields _ _⟩
    · exact ⟨x, (Heap.get?_update_other h _ (Ne.symm q)).trans hb, rfl⟩
  · exact (Heap.get?_update_other h _ (Ne.symm (ne b x hb n c))).trans hb
  · exact (Heap.get?_update_other h _ (Ne.symm (ne b x hb n c))).trans hb

noncomputable def frs (fs : List Env) : List Addr := fs.filterMap (·.frame)

section
variable {T : Tp} {A : Around} {fs : List Env} {d : Nat} {ι : Inj} {σ : Hp} {s : Shared} {F : List Addr} {env : Env} {ρ : Loc} {lo : Nat} {ea : Addr} {c : Str}

theorem AOk.mem {h : Heap} (x : AOk T A fs d ι h) {a : Addr} (ha : a ∈ frs fs) : a ∉ own ι ∧ T.b0.objs.size ≤ a ∧ ∃ o es ep, h.get? a = some o ∧ o.cls = .type "frame" ∧ o.data = .dict es ep := by
  obtain ⟨e, he, hf⟩ := List.mem_filterMap.mp ha
  obtain ⟨_, L, o, es, ep, f, n, b, g, c, dd⟩ := x.funs e he
  rw [hf] at f; cases f
  exact ⟨n, b, o, es, ep, g, c, dd⟩

theorem Rep.own_cls {h : Heap} (r : Rep T ι σ h) {a : Addr} (ha : a ∈ own ι) {o : Obj} (ho : h.get? a = some o) : o.cls ≠ .type "traceback" ∧ o.cls ≠ .type "frame" := by
  obtain ⟨p, hp, e⟩ := mem_own.mp ha
  obtain ⟨l, hl, rfl⟩ := List.getElem_of_mem hp
  have hl' : l < σ.length := r.len ▸ hl
  obtain ⟨o', ho', hc⟩ := (r.objs l σ[l] ι[l] (List.getElem?_eq_getElem hl') (List.getElem?_eq_getElem hl)).cls e
  rw [ho] at ho'
  rw [sm_inj ho']
  rcases hc with ⟨C, hc⟩ | hc | hc <;> rw [hc]
  · exact ⟨nofun, nofun⟩
  · exact ⟨fun q => absurd (Value.type.inj q) (by decide), fun q => absurd (Value.type.inj q) (by decide)⟩
  · exact ⟨fun q => absurd (Value.type.inj q) (by decide), fun q => absurd (Value.type.inj q) (by decide)⟩

theorem Touch.mono {S : List Addr} {h h' : Heap} (t : Touch S lo ea h h') (hS : ∀ a ∈ S, ∃ o, h.get? a = some o ∧ o.cls = .type "frame") (he : ∃ o C, h.get? ea = some o ∧ o.cls = .ref C) (ι : Inj) : Mono ι h ι h' where
  pre := ⟨[], by simp⟩
  cls := fun a o e _ => t.cls a o e
  frz := fun a o ho hf => t.keep a o ho (fun q => by
      obtain ⟨o', C, g, gc⟩ := he
      subst q; rw [ho] at g; cases g
      simp [frozen, gc] at hf) (.inr fun q => by simp [frozen, q] at hf) fun q => by
      obtain ⟨o', g, gc⟩ := hS a q
      rw [ho] at g; cases g
      simp [frozen, gc] at hf

theorem Rep.touch {S : List Addr} {h h' : Heap} (r : Rep T ι σ h) (t : Touch S lo ea h h') (hS : ∀ a ∈ S, a ∉ own ι ∧ T.b0.objs.size ≤ a ∧ ∃ o, h.get? a = some o ∧ o.cls = .type "frame") (he : ∃ o C, h.get? ea = some o ∧ o.cls = .ref C)
    (hn : ea ∉ own ι) (hl : T.b0.objs.size ≤ lo) (hle : lo ≤ ea) : Rep T ι σ h' :=
  r.keeps (t.mono (fun a ha => (hS a ha).2.2) he ι) t.size
    (fun a o e => t.keep a o (r.base a o e) (fun q => by
      have := Heap.lt_size e; rw [q] at this
      exact absurd (Nat.le_trans hl hle) (Nat.not_le.mpr this)) (.inl (Nat.lt_of_lt_of_le (Heap.lt_size e) hl)) fun q => absurd (hS a q).2.1 (Nat.not_le.mpr (Heap.lt_size e)))
    fun a ha o e => t.keep a o e (fun q => hn (q ▸ ha)) (.inr (r.own_cls ha e).1) fun q => (hS a q).1 ha

theorem Ext.touch {S : List Addr} {ι' : Inj} {h₀ h h' : Heap} (x : Ext T F ι h₀ ι' h) (t : Touch S h₀.objs.size ea h h') (hS : ∀ a ∈ S, ∃ o, h.get? a = some o ∧ o.cls = .type "frame") (hle : h₀.objs.size ≤ ea) : Ext T F ι h₀ ι' h' where
  pre := x.pre
  size := Nat.le_trans x.size t.size
  cls := fun a o e i => let ⟨o₁, e₁, c₁⟩ := x.cls a o e i; let ⟨o₂, e₂, c₂⟩ := t.cls a o₁ e₁; ⟨o₂, e₂, c₂.trans c₁⟩
  frz := fun a o e f => t.keep a o (x.frz a o e f) (fun q => absurd (Heap.lt_size e) (Nat.not_lt.mpr (q ▸ hle))) (.inl (Heap.lt_size e)) fun q => by
    obtain ⟨o', g, gc⟩ := hS a q
    rw [x.frz a o e f] at g; cases g
    simp [frozen, gc] at f
  keep := fun a o e n f c => t.keep a o (x.keep a o e n f c) (fun q => absurd (Heap.lt_size e) (Nat.not_lt.mpr (q ▸ hle))) (.inl (Heap.lt_size e)) fun q => by
    obtain ⟨o', g, gc⟩ := hS a q
    rw [x.keep a o e n f c] at g; cases g
    exact c gc
  frm := fun a o e n f => by
    obtain ⟨sl, e₁⟩ := x.frm a o e n f
    obtain ⟨sl', e₂⟩ := t.frm a _ e₁ (fun q => absurd (Heap.lt_size e) (Nat.not_lt.mpr (q ▸ hle))) (.inl (Heap.lt_size e))
    exact ⟨sl', e₂⟩

theorem AOk.touch {S : List Addr} {h h' : Heap} (x : AOk T A fs d ι h) (hT : T.hd = false) (t : Touch S lo ea h h') (he : ∃ o C, h.get? ea = some o ∧ o.cls = .ref C) : AOk T A fs d ι h' :=
  x.keeps (fun _ n _ => n) (fun a o g _ c => t.frm a o g (fun q => Exists.elim he fun _ he => Exists.elim he fun _ he => ne_type he.2 (sm_inj ((q ▸ g).symm.trans he.1) ▸ c)) (.inr fun q => absurd (Value.type.inj (c.symm.trans q)) (by decide))) (.none (x.hd hT))

theorem Frm.touch {S : List Addr} {h h' : Heap} (x : Frm T env F ρ ι h) (t : Touch S lo ea h h') (he : ∃ o C, h.get? ea = some o ∧ o.cls = .ref C) (hS : ∀ a ∈ S, ∃ o, h.get? a = some o ∧ o.cls = .type "frame") : Frm T env F ρ ι h' :=
  x.keeps (t.mono hS he ι) (fun _ n _ => n) (fun a o g _ _ => t.cls a o g) fun a o g _ hc _ => t.frm a o g (fun q => Exists.elim he fun _ he => Exists.elim he fun _ he => itr_ref hc.itr ((sm_inj (he.1.symm.trans (q ▸ g))) ▸ he.2)) (.inr hc.tb)

theorem Fly.hd {h : Heap} (x : Fly T lo ea c h) : T.hd = false := by obtain ⟨_, _, _, _, a, _⟩ := x; exact a.1
theorem Fly.there {h : Heap} (x : Fly T lo ea c h) : ∃ o C vs, h.get? ea = some o ∧ o.cls = .ref C ∧ o.data = .fields vs := by obtain ⟨C, oe, vs, _, _, _, d, e, f, _⟩ := x; exact ⟨oe, C, vs, d, e, f⟩

theorem Inv.touch {h' : Heap} (I : Inv T A fs d env F ρ ι σ s) (t : Touch (frs fs) lo ea s.heap h') (f : Fly T lo ea c s.heap) (hn : ea ∉ own ι) (hl : T.b0.objs.size ≤ lo) (hle : lo ≤ ea) : Inv T A fs d env F ρ ι σ { s with heap := h' } := by
  have hS : ∀ a ∈ frs fs, a ∉ own ι ∧ T.b0.objs.size ≤ a ∧ ∃ o, s.heap.get? a = some o ∧ o.cls = .type "frame" := fun a ha => let ⟨a1, a2, o, _, _, a3, a4, _⟩ := I.aok.mem ha; ⟨a1, a2, o, a3, a4⟩
  obtain ⟨o, C, vs, e1, e2, e3⟩ := f.there
  exact ⟨I.rep.touch t hS ⟨o, C, e1, e2⟩ hn hl hle, I.aok.touch f.hd t ⟨o, C, e1, e2⟩, I.frm.touch t ⟨o, C, e1, e2⟩ fun a ha => (hS a ha).2.2, I.top, I.gens, I.os⟩

theorem AOk.funFrames {h : Heap} (x : AOk T A fs d ι h) : h.FunFrames T.b0 fs := by
  have : ∀ l : List Env, (∀ e ∈ l, e ∈ fs) → h.FunFrames T.b0 l := by
    intro l
    induction l with
    | nil => intro _; trivial
    | cons e r ih =>
      intro hl
      obtain ⟨k, L, o, es, ep, f, n, b, g, c, dd⟩ := x.funs e (hl e List.mem_cons_self)
      exact ⟨by rw [k]; decide, ⟨L, o, f, Heap.get?_none_of_le b, g, fun vs q => by rw [dd] at q; cases q⟩, ih fun y hy => hl y (List.mem_cons_of_mem _ hy)⟩
  exact this fs fun _ h => h

theorem frameOf_top {M : Model} {E : Value → Shared → Prop} {e : Env} {r : List Env} {L : Addr} {base : Heap} {Q : Value → Shared → Prop} (hfr : A.frames = some (e :: r)) (hl : s.heap.FunFrames base (e :: r)) (hf : e.frame = some L) (hv : env.frame = some L)
    (h : ∀ h', Heap.SlotsOnly (frs (e :: r)) s.heap h' → Q (.ref L) { s with heap := h' }) : wpAny M A (PySem.frameOf env) Q E s := by
  unfold PySem.frameOf
  refine wpAny_bind (wpAny_frameEnvs hfr ?_)
  have hdw : ((e :: r).dropWhile fun x => x.frame != env.frame) = e :: r := by simp [List.dropWhile, hf, hv]
  rw [hdw]
  unfold frameObject
  refine wpAny_bind (wpAny_bind (wpAny_readyFrames_fun hl fun h₁ hs₁ => wpAny_pure ?_))
  rw [hf]
  exact wpAny_pure (h h₁ hs₁)

theorem entry_ok {M : Model} {E : Value → Shared → Prop} {e : Env} {r : List Env} {L : Addr} {base : Heap} {head : Value} {hadNext : Bool} {Q : Unit → Shared → Prop} {oe : Obj} {vs : Array Value} (hfr : A.frames = some (e :: r)) (hl : s.heap.FunFrames base (e :: r))
    (hf : e.frame = some L) (hv : env.frame = some L) (he : s.heap.get? ea = some oe) (hd : oe.data = .fields vs) (hsz : 1 < vs.size) (hlo : lo ≤ s.heap.objs.size)
    (h : ∀ h' tb, Touch (frs (e :: r)) lo ea s.heap h' → (∃ oe', h'.get? ea = some oe' ∧ oe'.cls = oe.cls ∧ oe'.data = .fields (vs.setIfInBounds 1 (.ref tb))) → TbAt lo ea h' (.ref tb) → Q () { s with heap := h' }) :
    wpAny M A (do let a ← PySem.frameOf env; let pl ← entryPlaceOf L hadNext; let b ← EntryCells.newEntry head a .none (rawInt L) .none pl; setField (.ref ea) 1 b) Q E s := by
  have hene : ea ∉ frs (e :: r) := fun hm => by
    obtain ⟨_, o, ho, hnf⟩ := hl.mem hm
    rw [he] at ho; injection ho with ho; subst ho; exact hnf vs hd
  refine wpAny_bind (frameOf_top hfr hl hf hv fun h₁ hs₁ => ?_)
  refine wpAny_bind (wpAny_entryPlaceOf fun pl hpl => ?_)
  unfold EntryCells.newEntry newFields
  refine wpAny_bind (wpAny_newObj_type ?_ (hpl.sizeOk5 _ _ _ _ _))
  have he₁ : h₁.get? ea = some oe := (hs₁.2.1 ea hene).trans he
  have he₂ := Heap.get?_push_of_some (h := h₁) { cls := .type "traceback", dict := none, data := .fields ([head, .ref L, .none, rawInt L, .none] ++ (if pl.isEmpty then List.replicate 6 Value.none else pl)).toArray } he₁
  refine wpAny_setField he₂ hd hsz ?_
  have hTe : h₁.objs.size ≠ ea := Nat.ne_of_gt (Heap.lt_size he₁)
  have hd₃ := Obj.data_mapFields hd (·.setIfInBounds 1 (Value.ref h₁.objs.size))
  have he₃ := Heap.get?_update_self (Obj.mapFields (·.setIfInBounds 1 (Value.ref h₁.objs.size))) he₂ (Obj.isFreed_of_fields hd₃)
  have hT₃ := (Heap.get?_update_other (h₁.push { cls := .type "traceback", dict := none, data := .fields ([head, .ref L, .none, rawInt L, .none] ++ (if pl.isEmpty then List.replicate 6 Value.none else pl)).toArray })
    (Obj.mapFields (·.setIfInBounds 1 (Value.ref h₁.objs.size))) (Ne.symm hTe)).trans (Heap.get?_push_size h₁ rfl)
  refine h _ h₁.objs.size (((Touch.of_slots hs₁).trans (.of_push ..)).trans (.of_set he₂ hd _ (.inl rfl))) ⟨_, he₃, Obj.cls_mapFields _ _, hd₃⟩ ⟨_, _, _, rfl, ?_, hTe, hT₃, rfl, rfl, ?_⟩
  · rw [hs₁.1]; exact hlo
  · simp only [List.size_toArray, List.length_append, List.length_cons, List.length_nil]; (clear hsz hlo h he₂ hTe hd₃ he₃ hT₃; lia)

theorem note_ok {M : Model} {E : Value → Shared → Prop} {Q : Unit → Shared → Prop} (I : Inv T A fs d env F ρ ι σ s) (f : Fly T lo ea c s.heap) (hlo : lo ≤ s.heap.objs.size)
    (h : ∀ h', Touch (frs fs) lo ea s.heap h' → FlyT T lo ea c h' → Q () { s with heap := h' }) : wpAny M A (noteFrame (.ref ea) env) Q E s := by
  obtain ⟨e, r, L, rfl, hf, hv⟩ := I.top
  obtain ⟨C, oe, vs, v, f1, f2, f3, f4, f5, f6, f7, f8, f9⟩ := f
  unfold noteFrame
  simp only [hv]
  refine wpAny_bind (wpAny_field f3 f5 f8 ?_)
  have fin : ∀ (s' : Shared) (head : Value) (hn : Bool), s'.heap.get? ea = some oe → s'.heap.FunFrames T.b0 (e :: r) → lo ≤ s'.heap.objs.size → (∀ h', Touch (frs (e :: r)) lo ea s'.heap h' → FlyT T lo ea c h' → Q () { s' with heap := h' }) →
      wpAny M A (do let a ← PySem.frameOf env; let pl ← entryPlaceOf L hn; let b ← EntryCells.newEntry head a .none (rawInt L) .none pl; setField (.ref ea) 1 b) Q E s' := fun s' head hn g1 g2 g3 k =>
    entry_ok I.aok.frames g2 hf hv g1 f5 (by (clear f7 f8 g3 f2 hlo; lia)) g3 fun h' tb t o tb' => k h' t (by
      obtain ⟨oe', o1, o2, o3⟩ := o
      refine ⟨C, oe', _, .ref tb, f1, f2, o1, o2.trans f4, o3, by simpa using f6, ?_, ?_, tb'⟩
      · rw [Array.getElem?_setIfInBounds_ne (by decide)]; exact f7
      · rw [Array.getElem?_setIfInBounds_self_of_lt (by (clear f7 f8 g3 o3 f2 hlo; lia))])
  rcases f9 with rfl | ⟨tb, ot, ts, rfl, t2, t3, t4, t5, t6, t7⟩
  · rw [if_neg (by decide)]
    exact fin s _ _ f3 I.aok.funFrames hlo h
  · rw [if_pos (show (Value.ref tb != Value.none) = true from by simp)]
    have t8 : ts[3]? = some ts[3] := Array.getElem?_eq_getElem t7
    refine wpAny_bind (wpAny_field t4 t6 t8 ?_)
    by_cases q : (ts[3] == rawInt L) = true
    · rw [if_pos q]
      exact wpAny_pure (h _ (.refl _) ⟨C, oe, vs, _, f1, f2, f3, f4, f5, f6, f7, f8, ⟨tb, ot, ts, rfl, t2, t3, t4, t5, t6, t7⟩⟩)
    · rw [if_neg q]
      refine wpAny_bind (wpAny_setField t4 t6 t7 ?_)
      have other : ∀ b, b ≠ tb → (s.heap.update tb (Obj.mapFields (·.setIfInBounds 3 Value.none))).get? b = s.heap.get? b := fun b hb => Heap.get?_update_other _ _ (Ne.symm hb)
      have tt : Touch (frs (e :: r)) lo ea s.heap (s.heap.update tb (Obj.mapFields (·.setIfInBounds 3 Value.none))) := .of_set t4 t6 _ (.inr ⟨t2, t5⟩)
      refine fin _ _ _ ((other ea (Ne.symm t3)).trans f3) (I.aok.touch f1.1 tt ⟨oe, C, f3, f4⟩).funFrames ?_ fun h' t k => h h' (tt.trans t) k
      rw [Heap.size_after_update]; exact hlo

theorem flight_ok {M : Model} {E : Value → Shared → Prop} {Q : Unit → Shared → Prop} {fr : Option Addr} {S : List Addr} (f : FlyT T lo ea c s.heap)
    (h : ∀ h', Touch S lo ea s.heap h' → FlyT T lo ea c h' → Q () { s with heap := h' }) : wpAny M A (setFlight (.ref ea) fr) Q E s := by
  obtain ⟨C, oe, vs, v, f1, f2, f3, f4, f5, f6, f7, f8, tb, ot, ts, rfl, t2, t3, t4, t5, t6, t7⟩ := f
  unfold setFlight
  refine wpAny_bind (wpAny_field f3 f5 f8 ?_)
  rw [if_pos (show (Value.ref tb != Value.none) = true from by simp)]
  refine wpAny_setField t4 t6 t7 (h _ (.of_set t4 t6 _ (.inr ⟨t2, t5⟩)) ⟨C, oe, vs, _, f1, f2, (Heap.get?_update_other _ _ t3).trans f3, f4, f5, f6, f7, f8, tb, _, _, rfl, t2, t3, Heap.get?_update_self _ t4 (Obj.isFreed_of_fields (Obj.data_mapFields t6 _)), (Obj.cls_mapFields _ _).trans t5, Obj.data_mapFields t6 _, by simpa using t7⟩)
end

end Mine

set_option genSizeOf false
namespace Mine
open PySem PySem.Calls PyProof.Rows PySem.SeqAt

inductive Fl where
  | next | brk | cont
  | ret (v : V)
inductive FlRel (T : Tp) (ι : Inj) (h : Heap) : Fl → Flow → Prop where
  | next : FlRel T ι h .next .next
  | brk : FlRel T ι h .brk .brk
  | cont : FlRel T ι h .cont .cont
  | ret {v : V} {x : Value} (r : VRel T ι h v x) : FlRel T ι h (.ret v) (.ret x)
theorem FlRel.imp {T T' : Tp} {ι ι' : Inj} {h h' : Heap} {fl : Fl} {f : Flow} (r : FlRel T ι h fl f) (k : ∀ v x, VRel T ι h v x → VRel T' ι' h' v x) : FlRel T' ι' h' fl f := r.rec .next .brk .cont fun r => .ret (k _ _ r)

noncomputable abbrev QS := Fl → Loc → Hp → Prop
noncomputable abbrev XS := Str → Hp → Prop
inductive PostS (T : Tp) (A : Around) (fs : List Env) (d : Nat) (env : Env) (F : List Addr) (Q : QS) (ι : Inj) (h : Heap) (f : Flow) (s' : Shared) : Prop where
  | mk (fl : Fl) (ρ' : Loc) (σ' : Hp) (ι' : Inj) (h0 : Q fl ρ' σ') (h1 : FlRel T ι' s'.heap fl f) (h2 : Inv T A fs d env F ρ' ι' σ' s') (h3 : Ext T F ι h ι' s'.heap) : PostS T A fs d env F Q ι h f s'
inductive PostSX (T : Tp) (A : Around) (fs : List Env) (d : Nat) (env : Env) (F : List Addr) (X : XS) (ι : Inj) (h : Heap) (x : Value) (s' : Shared) : Prop where
  | mk (ea : Addr) (c : Str) (ρ' : Loc) (σ' : Hp) (ι' : Inj) (h0 : x = .ref ea) (h1 : X c σ') (h2 : Fly T h.objs.size ea c s'.heap) (h3 : ea ∉ own ι') (h4 : Inv T A fs d env F ρ' ι' σ' s') (h5 : Ext T F ι h ι' s'.heap) : PostSX T A fs d env F X ι h x s'

/-- statements, at the mini level -/
noncomputable def ExOk (T : Tp) (d : Nat) (sc : Scope) (ρ : Loc) (X : XS) (ss : List Stmt) (Q : QS) (σ : Hp) : Prop :=
  ∀ env A fs F ι s, env.scope = sc → Inv T A fs d env F ρ ι σ s → wpAny (model T.prog T.w) A (execs ss env) (PostS T A fs d env F Q ι s.heap) (PostSX T A fs d env F X ι s.heap) s
noncomputable def StOk (T : Tp) (d : Nat) (sc : Scope) (ρ : Loc) (X : XS) (st : Stmt) (Q : QS) (σ : Hp) : Prop :=
  ∀ env A fs F ι s, env.scope = sc → Inv T A fs d env F ρ ι σ s → wpAny (model T.prog T.w) A (exec st env) (PostS T A fs d env F Q ι s.heap) (PostSX T A fs d env F X ι s.heap) s

section
variable {T : Tp} {A : Around} {fs : List Env} {d : Nat} {env : Env} {F : List Addr} {ι ι₁ : Inj} {h h₁ : Heap} {s s' : Shared} {ρ : Loc} {σ : Hp} {sc : Scope}

theorem PostS.trans {Q : QS} {f : Flow} (e : Ext T F ι h ι₁ h₁) (p : PostS T A fs d env F Q ι₁ h₁ f s') : PostS T A fs d env F Q ι h f s' :=
  by obtain ⟨fl, ρ', σ', ι', q, r, i, e'⟩ := p; exact ⟨fl, ρ', σ', ι', q, r, i, e.trans e'⟩
theorem PostSX.trans {X : XS} {x : Value} (e : Ext T F ι h ι₁ h₁) (p : PostSX T A fs d env F X ι₁ h₁ x s') : PostSX T A fs d env F X ι h x s' :=
  by obtain ⟨ea, c, ρ', σ', ι', a, b, f, n, i, e'⟩ := p; exact ⟨ea, c, ρ', σ', ι', a, b, f.lo e.size, n, i, e.trans e'⟩
theorem PostS.mono {Q Q' : QS} {f : Flow} (p : PostS T A fs d env F Q ι h f s') (k : ∀ fl ρ σ, Q fl ρ σ → Q' fl ρ σ) : PostS T A fs d env F Q' ι h f s' :=
  by obtain ⟨fl, ρ', σ', ι', q, r, i, e'⟩ := p; exact ⟨fl, ρ', σ', ι', k _ _ _ q, r, i, e'⟩
theorem PostSX.mono {X X' : XS} {x : Value} (p : PostSX T A fs d env F X ι h x s') (k : ∀ c σ, X c σ → X' c σ) : PostSX T A fs d env F X' ι h x s' :=
  by obtain ⟨ea, c, ρ', σ', ι', a, b, f, n, i, e'⟩ := p; exact ⟨ea, c, ρ', σ', ι', a, k _ _ b, f, n, i, e'⟩
theorem Ext.up (e : Ext T [] ι h ι₁ h₁) : Ext T F ι h ι₁ h₁ := e.weaken fun a ha => by simp at ha
/-- an expression's exception is the statement's -/
theorem PostX.sx {X : QX} {XX : XS} {x : Value} (I : Inv T A fs d env F ρ ι σ s) (p : PostX T [] X ι s.heap x s') (k : ∀ c σ, X c σ → XX c σ) : PostSX T A fs d env F XX ι s.heap x s' :=
  by obtain ⟨ea, c, σ', ι', a, b, f, n, rp, e', g, o⟩ := p; exact ⟨ea, c, ρ, σ', ι', a, k _ _ b, f, n, I.ext e' rp g o, e'.up⟩

theorem StOk.mono {X X' : XS} {st : Stmt} {Q Q' : QS} (x : StOk T d sc ρ X st Q σ) (k : ∀ fl ρ σ, Q fl ρ σ → Q' fl ρ σ) (kx : ∀ c σ, X c σ → X' c σ) : StOk T d sc ρ X' st Q' σ :=
  fun env A fs F ι s hsc I => wpAny_mono (x env A fs F ι s hsc I) (fun _ _ p => p.mono k) fun _ _ p => p.mono kx

theorem ExOk.nil {X : XS} {Q : QS} (q : Q .next ρ σ) : ExOk T d sc ρ X [] Q σ := fun env A fs F ι s _ I => wpAny_execs_nil ⟨.next, ρ, σ, ι, q, .next, I, .refl ..⟩
theorem ExOk.cons {X : XS} {Q : QS} {st : Stmt} {r : List Stmt} (x : StOk T d sc ρ X st (fun fl ρ' σ' => match fl with | .next => ExOk T d sc ρ' X r Q σ' | fl => Q fl ρ' σ') σ) : ExOk T d sc ρ X (st :: r) Q σ := by
  intro env A fs F ι s hsc I
  refine wpAny_execs_cons (wpAny_mono (x env A fs F ι s hsc I) (fun f s₁ p => ?_) fun _ _ p => p)
  obtain ⟨fl, ρ', σ', ι', q, r, i, e⟩ := p
  induction r with
  | next => exact wpAny_mono (q env A fs F ι' s₁ hsc i) (fun _ _ p => p.trans e) fun _ _ p => p.trans e
  | brk => exact ⟨_, ρ', σ', ι', q, .brk, i, e⟩
  | cont => exact ⟨_, ρ', σ', ι', q, .cont, i, e⟩
  | ret r => exact ⟨_, ρ', σ', ι', q, .ret r, i, e⟩

theorem StOk.pass {X : XS} {Q : QS} {pos} (q : Q .next ρ σ) : StOk T d sc ρ X (.Pass pos) Q σ := fun env A fs F ι s _ I => wpAny_Pass ⟨.next, ρ, σ, ι, q, .next, I, .refl ..⟩
theorem StOk.brk {X : XS} {Q : QS} {pos} (q : Q .brk ρ σ) : StOk T d sc ρ X (.Break pos) Q σ := fun env A fs F ι s _ I => wpAny_Break ⟨.brk, ρ, σ, ι, q, .brk, I, .refl ..⟩
theorem StOk.cont {X : XS} {Q : QS} {pos} (q : Q .cont ρ σ) : StOk T d sc ρ X (.Continue pos) Q σ := fun env A fs F ι s _ I => wpAny_Continue ⟨.cont, ρ, σ, ι, q, .cont, I, .refl ..⟩
theorem StOk.retNone {X : XS} {Q : QS} {pos} (q : Q (.ret .none) ρ σ) : StOk T d sc ρ X (.Return none pos) Q σ := fun env A fs F ι s _ I => wpAny_Return_none ⟨.ret .none, ρ, σ, ι, q, .ret (VRel.none_mk (T := T) (ι := ι) (h := s.heap)), I, .refl ..⟩
theorem StOk.ret {X : XS} {Q : QS} {e : Expr} {pos} (q : EvOk T d sc ρ X e (fun v σ' => Q (.ret v) ρ σ') σ) : StOk T d sc ρ X (.Return (some e) pos) Q σ := by
  intro env A fs F ι s hsc I
  refine wpAny_Return_some (wpAny_mono (q env A fs F ι s hsc I) (fun x s₁ p => ?_) fun _ _ p => p.sx I fun _ _ k => k)
  obtain ⟨v, σ₁, ι₁, q, rv, rp, ex, g, o⟩ := p
  exact ⟨.ret v, ρ, σ₁, ι₁, q, .ret rv, I.ext ex rp g o, ex.up⟩

/-- the value of an expression is no comprehension -/
noncomputable def compScope (e : Expr) : Option Scope := match e with
  | .ListComp _ _ s _ | .SetComp _ _ s _ | .DictComp _ _ _ s _ => some s
  | _ => none
noncomputable def noComp (e : Expr) : Bool := (compScope e).isNone
theorem swaps_no {e : Expr} {t : Option Expr} {l : Nat} (h : noComp e = true) : swapsWith e t l env = pure false := by
  have h0 : compScope e = none := Option.isNone_iff_eq_none.mp h
  unfold swapsWith
  change (match compScope e with | some scope => _ | _ => pure false) = _
  rw [h0]
theorem Inv.inter (I : Inv T A fs d env F ρ ι σ s) : interactive env = false := by simp [interactive, I.frm.kind]

theorem StOk.expr {X : XS} {Q : QS} {e : Expr} {pos} (q : EvOk T d sc ρ X e (fun _ σ' => Q .next ρ σ') σ) (hc : noComp e = true) : StOk T d sc ρ X (.Expr e pos) Q σ := by
  intro env A fs F ι s hsc I
  refine wpAny_Expr_any (wpAny_mono (q env A fs F ι s hsc I) (fun x s₁ p => ?_) fun _ _ p => p.sx I fun _ _ k => k) I.inter (swaps_no hc)
  obtain ⟨v, σ₁, ι₁, q, rv, rp, ex, g, o⟩ := p
  exact ⟨.next, ρ, σ₁, ι₁, q, .next, I.ext ex rp g o, ex.up⟩

theorem StOk.ite {X : XS} {Q : QS} {e : Expr} {b o : List Stmt} {pos} (q : TsOk T d sc ρ X e (fun t σ' => if t then ExOk T d sc ρ X b Q σ' else ExOk T d sc ρ X o Q σ') σ) : StOk T d sc ρ X (.If e b o pos) Q σ := by
  intro env A fs F ι s hsc I
  refine wpAny_If (wpAny_mono (q env A fs F ι s hsc I) (fun t s₁ p => ?_) fun _ _ p => p.sx I fun _ _ k => k)
  obtain ⟨σ₁, ι₁, q, rp, ex, g, o⟩ := p
  have I₁ := I.ext ex rp g o
  cases t
  · exact wpAny_mono (q env A fs F ι₁ s₁ hsc I₁) (fun _ _ p => p.trans ex.up) fun _ _ p => p.trans ex.up
  · exact wpAny_mono (q env A fs F ι₁ s₁ hsc I₁) (fun _ _ p => p.trans ex.up) fun _ _ p => p.trans ex.up

/-- dicts stay dicts -/
noncomputable def DStay (h h' : Heap) : Prop := ∀ a o es ep, h.get? a = some o → o.data = .dict es ep → ∃ o' es' ep', h'.get? a = some o' ∧ o'.data = .dict es' ep'
noncomputable def isStore (sc : Scope) (x : Str) : Bool := match sc.names.lookup x with
  | some .local | some .cell => true
  | _ => false

theorem isStore_out {sc : Scope} {x : Str} (h : isStore sc x = true) : sc.names.lookup x = some .local ∨ sc.names.lookup x = some .cell := by
  unfold isStore at h
  generalize sc.names.lookup x = o at h ⊢
  rcases o with _ | k
  · exact (Bool.false_ne_true h).elim
  · cases k <;> first | exact .inl rfl | exact .inr rfl | exact (Bool.false_ne_true h).elim
theorem isStore_of {sc : Scope} {x : Str} (h : sc.names.lookup x = some .local ∨ sc.names.lookup x = some .cell) : isStore sc x = true := by
  unfold isStore; rcases h with h | h <;> rw [h]
theorem storeCell {M : Model} {A : Around} {E : Value → Shared → Prop} {x : Str} {c : Addr} {o : Obj} {v₀ : Option Value} {y : Value} {Q : Unit → Shared → Prop} (hk : env.scope.kind = .function) (hl : env.kindOf x = some .cell) (hc : env.cells.lookup x = some c)
    (ho : s.heap.get? c = some o) (hd : o.data = .cell v₀) (k : ∀ h', h'.get? c = some { o with data := .cell (some y) } → Heap.SameBut c s.heap h' → Q () { s with heap := h' }) : wpAny M A (storeName env x y) Q E s := by
  unfold storeName
  simp only [hl, hk]
  refine wpAny_bind (wpAny_cellOf hc ?_)
  unfold cellSet
  refine wpAny_bind (wpAny_load ho ?_)
  rw [hd]
  exact wpAny_update ho (k _ (Heap.get?_update_self _ ho rfl) (Heap.SameBut.update ..))

theorem Frm.at1 {a : Addr} {o : Obj} (H : Frm T env F ρ ι h) (ha : a ∈ F) (ho : h.get? a = some o) : frozen o = false ∧ itr o = false := (H.there a ha).at ho
/-- an object of F turns, its class stays -/
structure Turn (F : List Addr) (h h' : Heap) (a : Addr) (o o' : Obj) : Prop where
  mem : a ∈ F
  get : h.get? a = some o
  get' : h'.get? a = some o'
  cls : o'.cls = o.cls
  same : Heap.SameBut a h h'
section
variable {h' : Heap} {a : Addr} {o o' : Obj}
theorem Turn.ext (x : Turn F h h' a o o') (H : Frm T env F ρ ι h) : Ext T F ι h ι h' := .of_sameBut x.same x.get x.get' x.cls (H.at1 x.mem x.get).1 (.inr x.mem)
theorem Turn.rep (x : Turn F h h' a o o') (R : Rep T ι σ h) (H : Frm T env F ρ ι h) : Rep T ι σ h' :=
  R.keeps (x.ext H).mono (x.ext H).size (fun b z hz => (x.same.2 b fun q => absurd (Heap.lt_size hz) (Nat.not_lt.mpr (q ▸ (H.apart a x.mem).2))).trans (R.base b z hz)) fun b hb z hz => (x.same.2 b fun q => (H.apart a x.mem).1 (q ▸ hb)).trans hz
theorem Turn.there (x : Turn F h h' a o o') (H : Frm T env F ρ ι h) : ∀ b ∈ F, There h' b := fun b hb =>
  if q : b = a then ⟨o', q ▸ x.get', (frozen_eq x.cls).trans (H.at1 x.mem x.get).1, (itr_eq x.cls).trans (H.at1 x.mem x.get).2⟩ else (H.there b hb).rec fun z g1 g2 g3 => ⟨z, (x.same.2 b q).trans g1, g2, g3⟩
theorem Turn.stay (x : Turn F h h' a o o') (hd : ∀ es ep, o.data = .dict es ep → ∃ es' ep', o'.data = .dict es' ep') : DStay h h' := fun b z es ep hz hzd =>
  if q : b = a then Exists.elim (hd es ep (Option.some.inj (x.get.symm.trans (q ▸ hz)) ▸ hzd)) fun es' g => Exists.elim g fun ep' g => ⟨o', es', ep', q ▸ x.get', g⟩ else ⟨z, es, ep, (x.same.2 b q).trans hz, hzd⟩
end
theorem upd_at {x : Str} {v : Option V} : upd ρ x v x = v := if_pos rfl
theorem upd_ne {x z : Str} {v : Option V} (h : z ≠ x) : upd ρ x v z = ρ z := if_neg h
theorem ORelV.upd {x z : Str} {v : V} {y : Value} {m : Option Value} (r : VRel T ι h v y) (k : ORelV T ι h (ρ z) m) : ORelV T ι h (Mine.upd ρ x (some v) z) (if z = x then some y else m) :=
  if q : z = x then by rw [q, upd_at, if_pos rfl]; exact .some r else by rw [upd_ne q, if_neg q]; exact k
/-- a name of the frame's own dict turns -/
theorem Frm.locTurn {h' : Heap} {x : Str} {v : Option V} {c : String} {m m' : Str → Option Value} (R : Rep T ι σ h) (H : Frm T env F ρ ι h) (hk : env.kindOf x = some .local) (hc : nsCls env c) (hn : NsC h env.locals c m) (hn' : NsC h' env.locals c m') (hs : Heap.SameBut env.locals h h')
    (hm : ∀ z, env.kindOf z = some .local → Mono ι h ι h' → ORelV T ι h' (upd ρ x v z) (m' z)) : Rep T ι σ h' ∧ Frm T env F (upd ρ x v) ι h' ∧ Ext T F ι h ι h' ∧ DStay h h' := by
  obtain ⟨o, es, ep, ho, ocl, _⟩ := hn
  obtain ⟨o', es', ep', ho', ocl', _, od', _⟩ := id hn'
  have tn : Turn F h h' env.locals o o' := ⟨H.loc, ho, ho', ocl'.trans ocl.symm, hs⟩
  have e := tn.ext H
  refine ⟨tn.rep R H, ⟨H.kind, H.glb, H.blt, ⟨c, _, hc, hn', fun z hz => hm z hz e.mono⟩, fun z hz => ?_, H.inj, H.loc, H.cin, H.apart, tn.there H⟩, e, tn.stay fun _ _ _ => ⟨_, _, od'⟩⟩
  obtain ⟨cc, oc, vc, e1, e2, e3, e4, e5, e6⟩ := H.cells z hz
  have ne : cc ≠ env.locals := fun q => by
    rw [q, ho] at e2; rw [← sm_inj e2, ocl] at e3
    rcases hc.1 with q | q <;> rw [q] at e3 <;> exact absurd (Value.type.inj e3) (by decide)
  have ne2 : z ≠ x := fun q => by rw [q, hk] at hz; rcases hz with hz | hz <;> cases hz
  exact ⟨cc, oc, vc, e1, (hs.2 cc ne).trans e2, e3, e4, upd_ne ne2 ▸ e5.mono e.mono, e6⟩
/-- a name's value, in the frame's own dict -/
theorem store_local {M : Model} {A : Around} {E : Value → Shared → Prop} {x : Str} {v : V} {y : Value} {Q : Unit → Shared → Prop} (R : Rep T ι σ s.heap) (H : Frm T env F ρ ι s.heap) (hk : env.kindOf x = some .local) (r : VRel T ι s.heap v y)
    (k : ∀ h' t, Rep T ι σ h' → Frm T env F (upd ρ x (some v)) ι h' → Ext T F ι s.heap ι h' → DStay s.heap h' → (∃ a, Heap.SameBut a s.heap h' ∧ (a = env.locals ∨ (env.kindOf x = some .cell ∧ env.cells.lookup x = some a))) → Q () { s with heap := h', toks := t }) : wpAny M A (storeName env x y) Q E s := by
  obtain ⟨c, m, hc, hn, hr⟩ := H.ns
  rw [storeName_local hk (by rw [H.kind]; rfl)]
  refine nsSetC hn fun h' hn' hs _ => ?_
  obtain ⟨R', H', e, ds⟩ := H.locTurn R hk hc hn hn' hs fun z hz mo => .upd (r.mono mo) ((hr z hz).mono mo)
  exact k h' _ R' H' e ds ⟨env.locals, hs, .inl rfl⟩
/-- a name's value, in its cell -/
theorem store_cell {M : Model} {A : Around} {E : Value → Shared → Prop} {x : Str} {v : V} {y : Value} {Q : Unit → Shared → Prop} (R : Rep T ι σ s.heap) (H : Frm T env F ρ ι s.heap) (hk : env.kindOf x = some .cell) (r : VRel T ι s.heap v y)
    (k : ∀ h' t, Rep T ι σ h' → Frm T env F (upd ρ x (some v)) ι h' → Ext T F ι s.heap ι h' → DStay s.heap h' → (∃ a, Heap.SameBut a s.heap h' ∧ (a = env.locals ∨ (env.kindOf x = some .cell ∧ env.cells.lookup x = some a))) → Q () { s with heap := h', toks := t }) : wpAny M A (storeName env x y) Q E s := by
  obtain ⟨c, m, hc, hn, hr⟩ := H.ns
  obtain ⟨cc, oc, vc, e1, e2, e3, e4, e5, e6⟩ := H.cells x (.inl hk)
  refine storeCell H.kind hk e1 e2 e4 fun h' ho' hs => ?_
  have tn : Turn F s.heap h' cc oc { oc with data := .cell (some y) } := ⟨H.cin x cc hk e1, e2, ho', rfl, hs⟩
  have e := tn.ext H
  have lne : env.locals ≠ cc := fun q => by
    obtain ⟨o, es, ep, ho, _, _, od, _⟩ := id hn
    rw [q, e2] at ho; rw [← sm_inj ho, e4] at od; cases od
  refine k h' _ (tn.rep R H) ⟨H.kind, H.glb, H.blt, ⟨c, m, hc, hn.sameBut hs lne, fun z hz => ?_⟩, fun z hz => ?_, H.inj, H.loc, H.cin, H.apart, tn.there H⟩ e (tn.stay fun _ _ q => by rw [e4] at q; cases q) ⟨cc, hs, .inr ⟨hk, e1⟩⟩
  · have ne : z ≠ x := fun q => by rw [q, hk] at hz; cases hz
    exact upd_ne ne ▸ (hr z hz).mono e.mono
  · by_cases q : z = x
    · exact ⟨cc, _, some y, q ▸ e1, ho', e3, rfl, by rw [q, upd_at]; exact .some (r.mono e.mono), e6⟩
    · obtain ⟨c2, o2, v2, f1, f2, f3, f4, f5, f6⟩ := H.cells z hz
      have ne : c2 ≠ cc := fun p => q (H.inj z x c2 hz (.inl hk) f1 (p ▸ e1))
      exact ⟨c2, o2, v2, f1, (hs.2 c2 ne).trans f2, f3, f4, upd_ne q ▸ f5.mono e.mono, f6⟩
theorem store_at {M : Model} {A : Around} {E : Value → Shared → Prop} {x : Str} {v : V} {y : Value} {Q : Unit → Shared → Prop} (R : Rep T ι σ s.heap) (H : Frm T env F ρ ι s.heap) (hk : isStore env.scope x = true) (r : VRel T ι s.heap v y)
    (k : ∀ h' t, Rep T ι σ h' → Frm T env F (upd ρ x (some v)) ι h' → Ext T F ι s.heap ι h' → DStay s.heap h' → (∃ a, Heap.SameBut a s.heap h' ∧ (a = env.locals ∨ (env.kindOf x = some .cell ∧ env.cells.lookup x = some a))) → Q () { s with heap := h', toks := t }) : wpAny M A (storeName env x y) Q E s :=
  (isStore_out hk).elim (fun e => store_local R H e r k) fun e => store_cell R H e r k

theorem store_ok {M : Model} {A : Around} {E : Value → Shared → Prop} {x : Str} {v : V} {y : Value} {Q : Unit → Shared → Prop} (R : Rep T ι σ s.heap) (H : Frm T env F ρ ι s.heap) (hk : isStore env.scope x = true) (r : VRel T ι s.heap v y)
    (k : ∀ h' t, Rep T ι σ h' → Frm T env F (upd ρ x (some v)) ι h' → Ext T F ι s.heap ι h' → DStay s.heap h' → Q () { s with heap := h', toks := t }) : wpAny M A (storeName env x y) Q E s :=
  store_at R H hk r fun h' t R' H' e ds _ => k h' t R' H' e ds

theorem Inv.stored {ρ' : Loc} {h' : Heap} {t : Nat} (I : Inv T A fs d env F ρ ι σ s) (R : Rep T ι σ h') (H : Frm T env F ρ' ι h') (e : Ext T F ι s.heap ι h') (ds : DStay s.heap h') : Inv T A fs d env F ρ' ι σ { s with heap := h', toks := t } :=
  ⟨R, I.aok.ext e (fun en hen L hf _ => by
    obtain ⟨_, L', o, es, ep, f, _, _, g, _, dd⟩ := I.aok.funs en hen
    rw [hf] at f; cases f
    exact ds L o es ep g dd) (fun a ha => let ⟨o, g, _, gi⟩ := I.frm.there a ha; ⟨o, g, gi⟩), H, I.top, I.gens, I.os⟩

theorem StOk.assign {X : XS} {Q : QS} {x : Str} {pos' pos : Pos} {e : Expr} (q : EvOk T d sc ρ X e (fun v σ' => Q .next (upd ρ x (some v)) σ') σ) (hc : noComp e = true) (hk : isStore sc x = true) :
    StOk T d sc ρ X (.Assign [.Name x pos'] e pos) Q σ := by
  intro env A fs F ι s hsc I
  refine wpAny_Assign_Name (wpAny_mono (q env A fs F ι s hsc I) (fun y s₁ p => ?_) fun _ _ p => p.sx I fun _ _ k => k) (swaps_no hc)
  obtain ⟨v, σ₁, ι₁, q, rv, rp, ex, g, o⟩ := p
  have I₁ := I.ext ex rp g o
  refine store_ok I₁.rep I₁.frm (hsc ▸ hk) rv fun h' t R' H' e' ds => ?_
  exact ⟨.next, _, σ₁, ι₁, q, .next, I₁.stored R' H' e' ds, ex.up.trans e'⟩
end
end Mine

namespace Mine
open PySem PySem.Calls PyProof.Rows PySem.SeqAt

noncomputable def bindLoc (ρ : Loc) : List Str → List V → Loc
  | p :: ps, v :: vs => bindLoc (upd ρ p (some v)) ps vs
  | _, _ => ρ
noncomputable def noFree (sc : Scope) : Bool := sc.names.all fun p => p.2 != .free
/-- the function fd, in the fragment -/
inductive FnAt (T : Tp) (v : Value) (ps : List Str) (body : List Stmt) (sc : Scope) : Prop where
  | mk (f : Addr) (o : Obj) (fd : FuncData) (h0 : v = .ref f) (ho : T.K.lookup f = some o) (hd : o.data = .func fd) (hs : fd.scope = sc) (hbody : fd.body = .stmts body) (hclo : fd.closure = []) (hg : fd.globals = mainGlobals) (hbu : fd.builtins = builtinsNs) (hcd : PySem.W.codeIn T.K fd.code fd.qualname = true)
      (hbind : ∀ vals : List Value, vals.length = ps.length → bindArgs fd ⟨vals, []⟩ = pure (ps.zip vals)) (co : sc.isCoroutine = false) (gen : sc.isGenerator = false) (kind : sc.kind = .function) (par : (ps.all fun p => isStore sc p) = true) (free : noFree sc = true) : FnAt T v ps body sc
/-- unlike names -/
noncomputable def nodupS : List Str → Bool
  | [] => true
  | x :: r => !r.contains x && nodupS r
theorem zip_lookup {n : Str} : ∀ {ps : List Str} {vs : List Value}, vs.length = ps.length → n ∈ ps → ((ps.zip vs).lookup n).isNone = false
  | p :: ps, v :: vs, hl, hn => by
    rw [List.zip_cons_cons, List.lookup_cons]
    cases h : n == p
    · exact zip_lookup (Nat.succ.inj hl) ((List.mem_cons.mp hn).resolve_left fun e => by rw [e, beq_self_eq_true] at h; cases h)
    · rfl
  | p :: ps, [], hl, _ => nomatch hl
theorem fmap_eq {α β : Type} {f g : α → Option β} : ∀ {l : List α}, (∀ x ∈ l, f x = g x) → l.filterMap f = l.filterMap g
  | [], _ => rfl
  | x :: r, h => by rw [List.filterMap_cons, List.filterMap_cons, h x List.mem_cons_self, fmap_eq fun y hy => h y (List.mem_cons_of_mem _ hy)]
theorem zip_keys : ∀ {ps : List Str} {vs : List Value}, vs.length = ps.length → nodupS ps = true → ps.filterMap (fun n => ((ps.zip vs).lookup n).map (n, ·)) = ps.zip vs
  | [], _, _, _ => rfl
  | p :: ps, [], hl, _ => nomatch hl
  | p :: ps, v :: vs, hl, hn => by
    have h := Bool.and_eq_true_iff.mp hn
    have hp : p ∉ ps := fun q => by have := h.1; rw [List.contains_iff_mem.mpr q] at this; cases this
    rw [List.zip_cons_cons, List.filterMap_cons_some (b := (p, v)) (by rw [List.lookup_cons, beq_self_eq_true]; rfl)]
    refine congrArg ((p, v) :: ·) (.trans (fmap_eq fun n hn => ?_) (zip_keys (Nat.succ.inj hl) h.2))
    have ne : (n == p) = false := beq_eq_false_iff_ne.mpr fun e => hp (e ▸ hn)
    rw [List.lookup_cons, ne]
theorem bind_plain {fd : FuncData} {as : List Arg} {kd : List (Option Expr)} {df : List Expr} {vals : List Value} (hp : fd.params = ⟨[], as, none, [], kd, none, df⟩) (hd : fd.defaults = .none) (hn : nodupS (as.map Arg.arg) = true) (hl : vals.length = (as.map Arg.arg).length) :
    bindArgs fd ⟨vals, []⟩ = pure ((as.map Arg.arg).zip vals) := by
  have e1 : ((as.map Arg.arg).filter fun n => (((as.map Arg.arg).zip vals).lookup n).isNone) = [] := List.filter_eq_nil_iff.mpr fun n h => by rw [zip_lookup hl h]; exact Bool.false_ne_true
  have e2 := zip_keys hl hn
  obtain ⟨nm, qn, pr, bd, sc, g, clo, dfl, kdf, doc, pm, an, code, ct, bu⟩ := fd
  cases hp; cases hd
  have n1 : ¬ (decide (vals.length > (as.map Arg.arg).length) && (none : Option Arg).isNone) = true := by rw [hl, decide_eq_false (Nat.lt_irrefl _)]; exact Bool.false_ne_true
  have n2 : ¬ (!(List.filter (fun n => (List.lookup n ((as.map Arg.arg).zip vals)).isNone) (List.take ((as.map Arg.arg).length - (List.drop (([] : List Value).length - (as.map Arg.arg).length) ([] : List Value)).length) (as.map Arg.arg))).isEmpty) = true := by
    rw [List.drop_nil]; show ¬ (!(List.filter _ (List.take (as.map Arg.arg).length (as.map Arg.arg))).isEmpty) = true; rw [List.take_length, e1]; exact Bool.false_ne_true
  have n3 : ∀ {α : Type} {f : List (Str × Value) → Sem α} {g : Str × Value → List (Str × Value) → Sem (ForInStep (List (Str × Value)))} {k m : Nat}, ((forIn ((List.drop k (as.map Arg.arg)).zip (List.drop m ([] : List Value))) ((as.map Arg.arg).zip vals) g : Sem _) >>= f) = f ((as.map Arg.arg).zip vals) := fun {_ f g k m} => by rw [List.drop_nil, List.zip_nil_right]; rfl
  show (if (decide (vals.length > (as.map Arg.arg).length) && (none : Option Arg).isNone) = true then _ else _) = _
  refine (if_neg n1).trans ?_
  show (if (!(List.filter (fun n => (List.lookup n ((as.map Arg.arg).zip vals)).isNone) (List.take ((as.map Arg.arg).length - (List.drop (([] : List Value).length - (as.map Arg.arg).length) ([] : List Value)).length) (as.map Arg.arg))).isEmpty) = true then _ else _) = _
  refine (if_neg n2).trans ?_
  show ((forIn ((List.drop _ (as.map Arg.arg)).zip (List.drop _ ([] : List Value))) ((as.map Arg.arg).zip vals) _ : Sem _) >>= _) = _
  refine n3.trans ?_
  show (pure (((as.map Arg.arg) ++ []).filterMap fun n => (((as.map Arg.arg).zip vals).lookup n).map (n, ·)) : Sem _) = _
  rw [List.append_nil, e2]

/-- what a function of the fragment takes, its text, its names; where it is a plain one -/
noncomputable def scFine (ps : List Str) (sc : Scope) : Bool := (!sc.isCoroutine && !sc.isGenerator) && ((sc.kind == .function && (ps.all fun p => isStore sc p)) && (noFree sc && scOk sc))
noncomputable def plainPr (p : Arguments) : Bool := (p.posonlyargs.isEmpty && p.vararg.isNone) && (p.kwonlyargs.isEmpty && p.kwarg.isNone)
noncomputable def bodyIn : FuncBody → Option (List Stmt)
  | .stmts b => some b
  | _ => none
noncomputable def fdIn (K : PySem.W.Frag) : FuncData → Option (List Str × List Stmt × Scope)
  | ⟨_, qual, pr, bd, sc, g, clo, dfl, _, _, _, _, code, _, bu⟩ =>
    (bodyIn bd).bind fun body => bif ((g == mainGlobals && bu == builtinsNs) && ((clo.isEmpty && dfl == .none) && plainPr pr)) && (PySem.W.codeIn K code qual && (nodupS (pr.args.map (·.arg)) && scFine (pr.args.map (·.arg)) sc)) then some (pr.args.map (·.arg), body, sc) else none
theorem plainPr_out {p : Arguments} (h : plainPr p = true) : p = ⟨[], p.args, none, [], p.kw_defaults, none, p.defaults⟩ := by
  obtain ⟨po, as, va, ko, kd, kw, df⟩ := p
  have h := Bool.and_eq_true_iff.mp h
  cases List.isEmpty_iff.mp (Bool.and_eq_true_iff.mp h.1).1; cases Option.isNone_iff_eq_none.mp (Bool.and_eq_true_iff.mp h.1).2
  cases List.isEmpty_iff.mp (Bool.and_eq_true_iff.mp h.2).1; cases Option.isNone_iff_eq_none.mp (Bool.and_eq_true_iff.mp h.2).2
  rfl
theorem bodyIn_out {b : FuncBody} {x : List Stmt} (h : bodyIn b = some x) : b = .stmts x := by
  cases b <;> first | exact (no_some h).elim | exact congrArg _ (sm_inj h)
theorem cond_some {α : Type} {c : Bool} {a x : α} (h : (bif c then some a else none) = some x) : c = true ∧ a = x := by
  cases c
  · exact (no_some h).elim
  · exact ⟨rfl, sm_inj h⟩
noncomputable def dataIn (K : PySem.W.Frag) : Data → Option (List Str × List Stmt × Scope)
  | .func fd => fdIn K fd
  | _ => none
noncomputable def fnIn (K : PySem.W.Frag) : Value → Option (List Str × List Stmt × Scope)
  | .ref f => (K.lookup f).bind fun o => dataIn K o.data
  | _ => none
theorem fdIn_out {T : Tp} {f : Addr} {o : Obj} {fd : FuncData} {r : List Str × List Stmt × Scope} (ho : T.K.lookup f = some o) (hd : o.data = .func fd) (h : fdIn T.K fd = some r) : FnAt T (.ref f) r.1 r.2.1 r.2.2 ∧ scOk r.2.2 = true := by
  obtain ⟨body, h0, h⟩ := Option.bind_eq_some_iff.mp h
  obtain ⟨hb, h⟩ := cond_some h
  rw [← h]
  unfold scFine at hb
  simp only [Bool.and_eq_true, Bool.not_eq_true', beq_iff_eq] at hb
  obtain ⟨⟨⟨h1, h2⟩, ⟨hc, hn⟩, hp⟩, h3, h4, ⟨h5, h6⟩, ⟨h7, h8⟩, h9, h10⟩ := hb
  exact ⟨⟨_, o, fd, rfl, ho, hd, rfl, bodyIn_out h0, List.isEmpty_iff.mp hc, h1, h2, h3, fun vals hl => bind_plain (plainPr_out hp) hn h4 hl, h5, h6, h7, h8, h9⟩, h10⟩
theorem fnIn_out {T : Tp} {v : Value} {ps : List Str} {body : List Stmt} {sc : Scope} (h : fnIn T.K v = some (ps, body, sc)) : FnAt T v ps body sc ∧ scOk sc = true := by
  cases v <;> first | exact (no_some h).elim | skip
  obtain ⟨o, ho, h⟩ := Option.bind_eq_some_iff.mp h
  generalize hd : o.data = dt at h
  cases dt <;> first | exact (no_some h).elim | exact fdIn_out ho hd h
noncomputable def FnV (T : Tp) (f : V) (ps : List Str) (body : List Stmt) (sc : Scope) : Prop := ∀ ι h fv, VRel T ι h f fv → FnAt T fv ps body sc
theorem FnV.glob {T : Tp} {x : Str} {v : Value} {ps body sc} (e : T.g x = some v) (h : FnAt T v ps body sc) : FnV T (.glob x) ps body sc := fun _ _ fv r => by
  cases e.symm.trans r; exact h
theorem FnV.mth {T : Tp} {c x : Str} {v : Value} {ps body sc} (e : T.m c x = some v) (h : FnAt T v ps body sc) : FnV T (.mth c x) ps body sc := fun _ _ fv r => by
  cases e.symm.trans r; exact h

noncomputable def retQ (Q : QE) : QS := fun fl _ σ => match fl with | .ret v => Q v σ | _ => Q .none σ

theorem pushCells_cls : ∀ (names : List (Str × NameKind)) (h : Heap) (c : Addr) (o : Obj), (pushCells h names).get? c = some o → h.objs.size ≤ c → o.cls = .type "cell"
  | [], h, c, o, e, hl => absurd (Heap.lt_size e) (Nat.not_lt.mpr hl)
  | (_, kind) :: r, h, c, o, e, hl => by
    unfold pushCells at e
    split at e
    · by_cases q : c = h.objs.size
      · subst q
        rw [pushCells_keeps r _ _ _ (Heap.get?_push_size h rfl)] at e
        cases e; rfl
      · exact pushCells_cls r _ c o e (by rw [Heap.size_push]; exact Nat.lt_of_le_of_ne hl (Ne.symm q))
    · exact pushCells_cls r h c o e hl
theorem pushCells_size : ∀ (names : List (Str × NameKind)) (h : Heap), h.objs.size ≤ (pushCells h names).objs.size
  | [], _ => Nat.le_refl _
  | (_, kind) :: r, h => by
    unfold pushCells
    split
    · exact Nat.le_trans (by rw [Heap.size_push]; exact Nat.le_of_lt (Nat.lt_succ_self h.objs.size)) (pushCells_size r _)
    · exact pushCells_size r h
theorem cellsFrom_acc : ∀ (names : List (Str × NameKind)) (n : Nat) (acc : List (Str × Addr)) (x : Str × Addr), x ∈ acc → x ∈ cellsFrom n names acc
  | [], _, _, _, h => h
  | (_, kind) :: r, n, acc, x, h => by
    unfold cellsFrom
    split
    · exact cellsFrom_acc r _ _ x (List.mem_cons_of_mem _ h)
    · exact cellsFrom_acc r _ _ x h
theorem cellsFrom_mem : ∀ (names : List (Str × NameKind)) (n : Nat) (acc : List (Str × Addr)) (x : Str), (x, NameKind.cell) ∈ names → ∃ c, (x, c) ∈ cellsFrom n names acc
  | (y, kind) :: r, n, acc, x, h => by
    unfold cellsFrom
    rcases List.mem_cons.mp h with e | h
    · cases e
      exact ⟨n, cellsFrom_acc r _ _ _ (by simp)⟩
    · split
      · exact cellsFrom_mem r _ _ x h
      · exact cellsFrom_mem r _ _ x h
theorem lookup_of_mem {α : Type} : ∀ {l : List (Str × α)} {x : Str} {c : α}, (x, c) ∈ l → ∃ c', l.lookup x = some c'
  | (k, v) :: r, x, c, h => by
    rw [List.lookup_cons]
    cases hb : x == k with
    | true => exact ⟨v, rfl⟩
    | false =>
      rcases List.mem_cons.mp h with e | h
      · cases e; simp at hb
      · exact lookup_of_mem h

section
variable {T : Tp} {A : Around} {fs : List Env} {d : Nat} {ι : Inj} {σ : Hp} {s : Shared} {sc : Scope}

/-- the parameters, stored one by one -/
theorem binds_ok {M : Model} {A : Around} {E : Value → Shared → Prop} {env : Env} {F : List Addr} (f : Str × Value → PUnit → Sem (ForInStep PUnit)) (hf : ∀ n v u, f (n, v) u = (do storeName env n v; pure (.yield ⟨⟩))) :
    ∀ (ps : List Str) (vs : List V) (xs : List Value) (ρ : Loc) (s : Shared) (Q : PUnit → Shared → Prop), Rep T ι σ s.heap → Frm T env F ρ ι s.heap → VRels T ι s.heap vs xs → xs.length = ps.length → (ps.all fun p => isStore env.scope p) = true →
      (∀ h' t, Rep T ι σ h' → Frm T env F (bindLoc ρ ps vs) ι h' → Ext T F ι s.heap ι h' → DStay s.heap h' → Q ⟨⟩ { s with heap := h', toks := t }) → wpAny M A (forIn (ps.zip xs) ⟨⟩ f) Q E s
  | [], vs, xs, ρ, s, Q, R, H, r, hl, _, k => by
    cases xs with
    | nil =>
      cases vs with
      | nil => rw [List.zip_nil_left, List.forIn_nil]; exact wpAny_pure (k s.heap s.toks R H (.refl ..) fun a o es ep e q => ⟨o, es, ep, e, q⟩)
      | cons => exact (show False from r).elim
    | cons => simp at hl
  | p :: ps, vs, xs, ρ, s, Q, R, H, r, hl, ha, k => by
    cases xs with
    | nil => simp at hl
    | cons x xs =>
      cases vs with
      | nil => exact (show False from r).elim
      | cons v vs =>
        rw [List.zip_cons_cons, List.forIn_cons, hf]
        simp only [List.all_cons, Bool.and_eq_true] at ha
        refine wpAny_bind (wpAny_bind (store_ok R H ha.1 r.1 fun h' t R' H' e' ds => wpAny_pure ?_))
        refine binds_ok f hf ps vs xs _ _ Q R' H' (r.2.mono e'.mono) (by simpa using hl) (by simpa using ha.2) fun h'' t' R'' H'' e'' ds' => ?_
        exact k h'' t' R'' H'' (e'.trans e'') fun a o es ep e q => by
          obtain ⟨o₁, es₁, ep₁, g, gd⟩ := ds a o es ep e q
          exact ds' a o₁ es₁ ep₁ g gd

/-- the frame of a call, ahead of its parameters -/
theorem frame_new {L : Addr} {qual : Str} {func : Option Addr} {code : Value} (R : Rep T ι σ s.heap) (hL : L = s.heap.objs.size) (hk : sc.kind = .function) (hf : noFree sc = true) (h₁ : Heap) (hh : h₁ = pushCells (s.heap.push { cls := .type "frame", data := .dict #[] }) sc.names)
    (env : Env) (he : env = newEnv sc L mainGlobals (cellsFrom (L + 1) sc.names []) qual func code none builtinsNs) :
    ∃ F, (∀ a ∈ F, s.heap.objs.size ≤ a) ∧ Rep T ι σ h₁ ∧ Frm T env F (fun _ => none) ι h₁ ∧ Ext T F ι s.heap ι h₁ ∧ (∃ o, h₁.get? L = some o ∧ o.cls = .type "frame" ∧ o.data = .dict #[] 0) := by
  subst hh he hL
  have ok := cellsFrom_ok sc.names (s.heap.push { cls := .type "frame", data := .dict #[] }) (s.heap.objs.size + 1) [] ⟨fun _ _ hm => (nomatch hm), List.Pairwise.nil⟩ (by rw [Heap.size_push]; exact Nat.le_refl _)
  rw [Heap.size_push] at ok
  have keep : ∀ b o, s.heap.get? b = some o → (pushCells (s.heap.push { cls := .type "frame", data := .dict #[] }) sc.names).get? b = some o := fun b o e => pushCells_keeps _ _ b o (Heap.get?_push_of_some _ e)
  have hsz : s.heap.objs.size ≤ (pushCells (s.heap.push { cls := .type "frame", data := .dict #[] }) sc.names).objs.size := Nat.le_trans (by rw [Heap.size_push]; (clear ok keep; exact Nat.le_of_lt (Nat.lt_succ_self s.heap.objs.size))) (pushCells_size _ _)
  have hL := pushCells_keeps sc.names (s.heap.push { cls := .type "frame", data := .dict #[] }) _ _ (Heap.get?_push_size s.heap rfl)
  have no : ∀ a, s.heap.objs.size ≤ a → a ∉ own ι := fun a ha q => absurd (R.own_lt q) (Nat.not_lt.mpr ha)
  have cellAt : ∀ x c, (x, c) ∈ cellsFrom (s.heap.objs.size + 1) sc.names [] → s.heap.objs.size + 1 ≤ c ∧ ∃ o, (pushCells (s.heap.push { cls := .type "frame", data := .dict #[] }) sc.names).get? c = some o ∧ o.cls = .type "cell" ∧ o.data = .cell none := fun x c hm => by
    obtain ⟨⟨o, g, gd⟩, hc⟩ := ok.empty x c hm
    exact ⟨hc, o, g, pushCells_cls _ _ c o g (by rw [Heap.size_push]; exact hc), gd⟩
  refine ⟨s.heap.objs.size :: (cellsFrom (s.heap.objs.size + 1) sc.names []).map (·.2), fun a ha => ?_, R.grow hsz keep, ?_, .of_keeps hsz keep, ⟨_, hL, rfl, rfl⟩⟩
  · rcases List.mem_cons.mp ha with rfl | ha
    · exact Nat.le_refl _
    · obtain ⟨⟨x, c⟩, hm, rfl⟩ := List.mem_map.mp ha
      exact Nat.le_of_succ_le (cellAt x c hm).1
  · refine ⟨hk, rfl, rfl, ⟨"frame", fun _ => none, ⟨.inl rfl, fun q => absurd rfl q⟩, ⟨_, #[], 0, hL, rfl, rfl, rfl, fun e he => by simp at he, List.Pairwise.nil, fun _ => rfl⟩, fun x _ => .none⟩, fun x hx => ?_, fun x y c hx hy h1 h2 => name_of_addr ok.apart (mem_of_lookup h1) (mem_of_lookup h2), List.mem_cons_self, fun x c _ h => List.mem_cons_of_mem _ (List.mem_map.mpr ⟨(x, c), mem_of_lookup h, rfl⟩), fun a ha => ?_, fun a ha => ?_⟩
    · have hx' : sc.names.lookup x = some .cell := by
        rcases hx with hx | hx
        · exact hx
        · have := List.all_eq_true.mp hf _ (mem_of_lookup (show sc.names.lookup x = some .free from hx))
          simp at this
      obtain ⟨c, hc⟩ := cellsFrom_mem sc.names (s.heap.objs.size + 1) [] x (mem_of_lookup hx')
      obtain ⟨c', hc'⟩ := lookup_of_mem hc
      obtain ⟨g1, o, g2, g3, g4⟩ := cellAt x c' (mem_of_lookup hc')
      exact ⟨c', o, none, hc', g2, g3, g4, .none, no c' (Nat.le_of_succ_le g1)⟩
    · have hs : s.heap.objs.size ≤ a := by
        rcases List.mem_cons.mp ha with rfl | ha
        · exact Nat.le_refl _
        · obtain ⟨⟨x, c⟩, hm, rfl⟩ := List.mem_map.mp ha
          exact Nat.le_of_succ_le (cellAt x c hm).1
      exact ⟨no a hs, Nat.le_trans R.size hs⟩
    · rcases List.mem_cons.mp ha with rfl | ha
      · exact ⟨_, hL, rfl, rfl⟩
      · obtain ⟨⟨x, c⟩, hm, rfl⟩ := List.mem_map.mp ha
        obtain ⟨_, o, g2, g3, _⟩ := cellAt x c hm
        exact ⟨o, g2, by simp [frozen, g3], by simp [itr, iterish, g3]⟩
end
end Mine

namespace Mine
open PySem PySem.Calls PyProof.Rows PySem.SeqAt

section
variable {T : Tp} {A : Around} {fs : List Env} {d : Nat} {ι : Inj} {σ : Hp} {s : Shared} {sc : Scope}

/-- a statement's exception, on its way out of a frame or a loop: the heap behind the notes -/
theorem PostSX.touched {env : Env} {F : List Addr} {X : XS} {h : Heap} {ρ' : Loc} {σ' : Hp} {ι' : Inj} {ea : Addr} {c : Str} {h' : Heap} (x : X c σ') (hn : ea ∉ own ι') (I : Inv T A fs d env F ρ' ι' σ' s) (e : Ext T F ι h ι' s.heap) (f : Fly T h.objs.size ea c s.heap) (hb : T.b0.objs.size ≤ h.objs.size)
    (t : Touch (frs fs) h.objs.size ea s.heap h') : Inv T A fs d env F ρ' ι' σ' { s with heap := h' } ∧ Ext T F ι h ι' h' := by
  have hle : h.objs.size ≤ ea := by obtain ⟨_, _, _, _, _, q, _⟩ := f; exact q
  exact ⟨I.touch t f hn hb hle, e.touch t (fun a ha => let ⟨_, _, o, _, _, g, gc, _⟩ := I.aok.mem ha; ⟨o, g, gc⟩) hle⟩

theorem noted_ok {env : Env} {F : List Addr} {X : XS} {h : Heap} {x : Value} {E : Value → Shared → Prop} {Q : Unit → Shared → Prop} (hb : T.b0.objs.size ≤ h.objs.size) (p : PostSX T A fs d env F X ι h x s)
    (k : ∀ ea c ρ' σ' ι' h', x = .ref ea → X c σ' → FlyT T h.objs.size ea c h' → ea ∉ own ι' → Inv T A fs d env F ρ' ι' σ' { s with heap := h' } → Ext T F ι h ι' h' → Q () { s with heap := h' }) :
    wpAny (model T.prog T.w) A (noteFrame x env) Q E s := by
  obtain ⟨ea, c, ρ', σ', ι', rfl, b, f, n, I, e⟩ := p
  refine note_ok I f e.size fun h' t f' => ?_
  obtain ⟨I', e'⟩ := PostSX.touched b n I e f hb t
  exact k ea c ρ' σ' ι' h' rfl b f' n I' e'

theorem leaving_ok {env : Env} {F : List Addr} {X : XS} {h : Heap} {x : Value} {E : Value → Shared → Prop} {Q : Unit → Shared → Prop} (hb : T.b0.objs.size ≤ h.objs.size) (p : PostSX T A fs d env F X ι h x s)
    (k : ∀ s', PostSX T A fs d env F X ι h x s' → Q () s') : wpAny (model T.prog T.w) A (leaving env x) Q E s := by
  unfold leaving
  refine wpAny_bind (noted_ok hb p fun ea c ρ' σ' ι' h' hx b f n I e => ?_)
  subst hx
  refine flight_ok (S := frs fs) f fun h'' t f' => ?_
  obtain ⟨I', e'⟩ := PostSX.touched b n I e f.fly hb t
  exact k _ ⟨ea, c, ρ', σ', ι', rfl, b, f'.fly, n, I', e'⟩

/-- an exception that comes out of a loop of the frame -/
theorem loop_ok {env : Env} {F : List Addr} {X : XS} {h : Heap} {x : Value} (hb : T.b0.objs.size ≤ h.objs.size) (p : PostSX T A fs d env F X ι h x s) :
    notedBy (model T.prog T.w) A env (fun e s' => cameBackBy (model T.prog T.w) A env (PostSX T A fs d env F X ι h) e s') x s := by
  unfold notedBy
  refine noted_ok hb p fun ea c ρ' σ' ι' h' hx b f n I e => ?_
  subst hx
  unfold cameBackBy
  have f₀ := f
  obtain ⟨C, oe, vs, v, f1, f2, f3, f4, f5, f6, f7, f8, tb, ot, ts, rfl, _⟩ := f
  refine wpAny_bind (wpAny_field f3 f5 f8 ?_)
  rw [if_neg (by simp)]
  refine flight_ok (S := frs fs) f₀ fun h'' t f' => ?_
  obtain ⟨I', e'⟩ := PostSX.touched b n I e f₀.fly hb t
  exact ⟨ea, c, ρ', σ', ι', rfl, b, f'.fly, n, I', e'⟩

/-- a call as a run of its own -/
noncomputable def CodeOk (T : Tp) (d : Nat) (X : QX) (f : V) (args : List V) (Q : QE) (σ : Hp) : Prop :=
  ∀ A fs ι s fv xs, St T A fs d ι σ s → VRel T ι s.heap f fv → VRels T ι s.heap args xs → codeAny (model T.prog T.w) A (.call fv ⟨xs, []⟩)
    (fun r s' => match r with | .ok (.ret v) => PostE T [] Q ι s.heap v s' | .ok _ => False | .error e => PostX T [] X ι s.heap e s') s
theorem CodeOk.call {f : V} {args : List V} {Q : QE} {X : QX} (h : CodeOk T d X f args Q σ) : CallOk T d X f args Q σ := fun A fs ι s fv xs S rf rxs => wpAny_call (h A fs ι s fv xs S rf rxs)

theorem CodeOk.fn {f : V} {ps : List Str} {body : List Stmt} {args : List V} {Q : QE} {X : QX} (TO : TopOk T) (hf : FnV T f ps body sc) (hl : args.length = ps.length)
    (hb : ExOk T d sc (bindLoc (fun _ => none) ps args) X body (retQ Q) σ) : CodeOk T (d + 1) X f args Q σ := by
  intro A fs ι s fv xs S rf rxs
  obtain ⟨fa, o, fd, rfl, ho, hd, rfl, hbody, hclo, hg, hbu, hcd, hbind, co, gen, kind, par, free⟩ := hf ι s.heap fv rf
  have X₁ := TO.X0.keeps S.rep.base
  refine codeAny_call_function (by have := S.aok.depth; (clear hbind hl S; lia)) (X₁ _ _ ho) hd co gen hbody (PySem.W.codeRec_of X₁ hcd) ?_
  have hlen : xs.length = ps.length := rxs.length.trans hl
  rw [hbind xs hlen, hclo, hg, hbu]
  refine wpAny_pure ?_
  simp only [newFunctionEnv, Option.isSome_none, Bool.false_eq_true, if_false]
  refine wpAny_bind (wpAny_alloc ?_)
  refine wpAny_bind (wpAny_layCells _ (fun name kind cells => by cases hkc : kind == NameKind.cell <;> simp [hkc]) _ _ _ _ ?_)
  rw [show ({ s with heap := s.heap.push { cls := .type "frame", data := .dict #[] } } : Shared).heap.objs.size = s.heap.objs.size + 1 from Heap.size_push ..]
  refine (frame_new (T := T) (L := s.heap.objs.size) (sc := fd.scope) (qual := fd.qualname ++ ".<locals>.") (func := some fa) (code := fd.code) S.rep rfl kind free _ rfl _ rfl).elim fun F h => and5 h fun hF R₁ H₁ e₁ h => h.elim fun oL h => and3 h fun hoL hcL hdL => ?_
  refine wpAny_bind (binds_ok (T := T) (ι := ι) (σ := σ) (env := newEnv fd.scope s.heap.objs.size mainGlobals (cellsFrom (s.heap.objs.size + 1) fd.scope.names []) (fd.qualname ++ ".<locals>.") (some fa) fd.code none builtinsNs) (F := F)
    _ (fun _ _ _ => rfl) ps args xs (fun _ => none) _ _ R₁ H₁ (rxs.mono e₁.mono) hlen par fun h₂ t R₂ H₂ e₂ ds => wpAny_pure ⟨?_, codeAny_func ?_⟩)
  · exact TO.lim.keeps R₂.base
  have e₃ := e₁.trans e₂
  have hoL₂ := ds _ _ _ _ hoL hdL
  obtain ⟨oL', hoL', hcL'⟩ := e₂.cls _ _ hoL (by simp [loose, hcL])
  obtain ⟨oL₂, es, ep, hL2, hd2⟩ := hoL₂
  rw [hoL'] at hL2; cases hL2
  have no : ∀ a, s.heap.objs.size ≤ a → a ∉ own ι := fun a ha q => absurd (S.rep.own_lt q) (Nat.not_lt.mpr ha)
  have aok : AOk T (A.deeper (newEnv fd.scope s.heap.objs.size mainGlobals (cellsFrom (s.heap.objs.size + 1) fd.scope.names []) (fd.qualname ++ ".<locals>.") (some fa) fd.code none builtinsNs)) ((newEnv fd.scope s.heap.objs.size mainGlobals (cellsFrom (s.heap.objs.size + 1) fd.scope.names []) (fd.qualname ++ ".<locals>.") (some fa) fd.code none builtinsNs) :: fs) d ι h₂ := by
    refine ⟨Around.frames_deeper S.aok.frames, fun e he => ?_, by have := S.aok.depth; show A.depth + 1 + d ≤ _; (clear no e₂ ds e₁ hoL hdL H₂ hl S hbind hlen hF R₁ H₁; lia), by have := S.aok.units; show A.units + 3 + 10 * d + 50 ≤ _; (clear no e₂ ds e₁ hoL hdL H₂ hl S hbind hlen hF R₁ H₁; lia), S.aok.hd, S.aok.hx.keep fun a o C e1 e2 e3 => ⟨e₃.keep a o e1 e3 (fun q => absurd (Heap.lt_size e1) (Nat.not_lt.mpr (hF a q))) (by rw [e2]; simp), e3⟩⟩
    rcases List.mem_cons.mp he with rfl | he
    · exact ⟨kind, s.heap.objs.size, oL', es, ep, rfl, no _ (Nat.le_refl _), S.rep.size, hoL', hcL'.trans hcL, hd2⟩
    · obtain ⟨k1, L', o', es', ep', f1, n1, b1, g1, c1, d1⟩ := S.aok.funs e he
      have hne : L' ∉ F := fun q => absurd (Heap.lt_size g1) (Nat.not_lt.mpr (hF L' q))
      obtain ⟨sl, g2⟩ := e₃.frm L' o' g1 n1 hne
      exact ⟨k1, L', _, es', ep', f1, n1, b1, g2, c1, d1⟩
  have I : Inv T (A.deeper (newEnv fd.scope s.heap.objs.size mainGlobals (cellsFrom (s.heap.objs.size + 1) fd.scope.names []) (fd.qualname ++ ".<locals>.") (some fa) fd.code none builtinsNs)) ((newEnv fd.scope s.heap.objs.size mainGlobals (cellsFrom (s.heap.objs.size + 1) fd.scope.names []) (fd.qualname ++ ".<locals>.") (some fa) fd.code none builtinsNs) :: fs) d _ F (bindLoc (fun _ => none) ps args) ι σ { s with heap := h₂, toks := t } :=
    ⟨R₂, aok, H₂, ⟨_, fs, s.heap.objs.size, rfl, rfl, rfl⟩, S.gens, S.os⟩
  have dn : ∀ {ι' : Inj} {h' : Heap}, Ext T F ι s.heap ι' h' → Ext T [] ι s.heap ι' h' := fun e => e.weaken fun a ha hlt => absurd hlt (Nat.not_lt.mpr (hF a ha))
  refine wpAny_mono (hb _ _ _ F ι _ rfl I) (fun fl s' p => ?_) fun e s' p => ?_
  · obtain ⟨fl', ρ', σ', ι', q, r, i, ex⟩ := p
    have ex' := dn (e₃.trans ex)
    induction r with
    | ret r => exact ⟨_, σ', ι', q, r, i.rep, ex', i.gens, i.os⟩
    | _ => exact ⟨.none, σ', ι', q, .none_mk, i.rep, ex', i.gens, i.os⟩
  · refine leaving_ok R₂.size p fun s'' p' => ?_
    obtain ⟨ea, c, ρ', σ', ι', rfl, b, f, n, i, ex⟩ := p'
    exact ⟨ea, c, σ', ι', rfl, b, f.lo e₃.size, n, i.rep, dn (e₃.trans ex), i.gens, i.os⟩
theorem CallOk.fn {f : V} {ps : List Str} {body : List Stmt} {args : List V} {Q : QE} {X : QX} (TO : TopOk T) (hf : FnV T f ps body sc) (hl : args.length = ps.length)
    (hb : ExOk T d sc (bindLoc (fun _ => none) ps args) X body (retQ Q) σ) : CallOk T (d + 1) X f args Q σ := (CodeOk.fn TO hf hl hb).call
end
end Mine

namespace Mine
open PySem PySem.Calls PyProof.Rows PySem.SeqAt

/-- what updates and new objects keep -/
structure Kept (P : Heap → Prop) : Prop where
  upd : ∀ h a f, (h.get? a).isSome = true → P h → P (h.update a f)
  new : ∀ h o, P h → P (h.push o)
/-- a run keeps it -/
theorem runs_keep {P : Heap → Prop} (K : Kept P) {M : Model} {Γ : Ctx} {p : Pos} {t : Sem Fin} {fs : List Frame} {s s' : Shared} {e : End} (h : Runs M Γ p t fs s e s') : P s.heap → P s'.heap := by
  induction h with
  | done | raise | yield => exact id
  | update ho _ ih => exact fun x => ih (K.upd _ _ _ ho x)
  | alloc _ ih => exact fun x => ih (K.new _ _ x)
  | call _ _ i1 i2 => exact fun x => i2 (i1 x)
  | resumeFresh _ _ _ _ i1 i2 => exact fun x => i2 (i1 x)
  | resumeSuspended _ _ _ _ i1 i2 => exact fun x => i2 (i1 x)
  | segRet _ _ i1 i2 => exact fun x => i2 (i1 x)
  | segGen _ _ i1 i2 => exact fun x => i2 (i1 x)
  | segSuspGen _ _ _ _ i1 i2 => exact fun x => i2 (i1 x)
  | _ => assumption
theorem wp_keep {P : Heap → Prop} (K : Kept P) {α : Type} {M : Model} {Γ : Ctx} : ∀ (m : Sem α) (Q : α → Pos → Shared → Prop) (E : Value → Pos → Shared → Prop) (p : Pos) (s : Shared), P s.heap → Sem.wp M Γ m Q E p s →
    Sem.wp M Γ m (fun a p' s' => Q a p' s' ∧ P s'.heap) (fun a p' s' => E a p' s' ∧ P s'.heap) p s := by
  intro m
  induction m with
  | pure a => intro Q E p s hn h; exact ⟨h, hn⟩
  | raise e => intro Q E p s hn h; exact ⟨h, hn⟩
  | unsupported => intro Q E p s hn h; exact h
  | finish => intro Q E p s hn h; exact h
  | update a part f k ih => intro Q E p s hn h; exact ⟨h.1, ih () Q E p _ (K.upd _ _ _ h.1 hn) h.2⟩
  | alloc o k ih => intro Q E p s hn h; exact ih _ Q E p _ (K.new _ _ hn) h
  | load a part k ih => intro Q E p s hn h; obtain ⟨o, ho, h⟩ := h; exact ⟨o, ho, ih o Q E p s hn h⟩
  | call c hh g l k ih => intro Q E p s hn h; obtain ⟨r, s', hr, h⟩ := h; exact ⟨r, s', hr, ih r Q E p s' (runs_keep K hr hn) h⟩
  | choose src m k ih => intro Q E p s hn h; exact ⟨h.1, ih _ Q E p _ hn h.2⟩
  | genState g k ih => intro Q E p s hn h; obtain ⟨st, hs, h⟩ := h; exact ⟨st, hs, ih _ Q E p s hn h⟩
  | resume g r l k ih =>
    intro Q E p s hn h
    obtain ⟨res, s', hw, h⟩ := h
    refine ⟨res, s', hw, ih _ Q E p s' ?_ h⟩
    unfold Wakes at hw
    split at hw
    · exact hw.elim
    · split at hw
      · obtain ⟨e₁, s₁, hr, _, _, rfl⟩ := hw; exact (runs_keep K hr hn :)
      · rw [hw.2]; exact hn
      · rw [hw.2]; exact hn
    · obtain ⟨e₁, s₁, hr, _, _, rfl⟩ := hw; exact (runs_keep K hr hn :)
    · rw [hw.2]; exact hn
    · rw [hw.2]; exact hn
  | await => intro Q E p s hn h; exact h.elim
  | register => intro Q E p s hn h; exact h
  | yield => intro Q E p s hn h; exact h
  | fork => intro Q E p s hn h; exact h
  | _ => rename_i ih; intro Q E p s hn h; exact ih _ Q E _ _ hn h
theorem wpAny_keep {P : Heap → Prop} (K : Kept P) {α : Type} {M : Model} {A : Around} {m : Sem α} {Q : α → Shared → Prop} {E : Value → Shared → Prop} {s : Shared} (hn : P s.heap) (h : wpAny M A m Q E s) :
    wpAny M A m (fun a s' => Q a s' ∧ P s'.heap) (fun a s' => E a s' ∧ P s'.heap) s := fun Γ p hΓ => wp_keep K m _ _ p s hn (h Γ p hΓ)
/-- a run never makes the heap smaller -/
theorem wpAny_size {α : Type} {M : Model} {A : Around} {m : Sem α} {Q : α → Shared → Prop} {E : Value → Shared → Prop} {s : Shared} (h : wpAny M A m Q E s) :
    wpAny M A m (fun a s' => Q a s' ∧ s.heap.objs.size ≤ s'.heap.objs.size) (fun a s' => E a s' ∧ s.heap.objs.size ≤ s'.heap.objs.size) s :=
  wpAny_keep (P := fun h => s.heap.objs.size ≤ h.objs.size) ⟨fun _ _ _ _ x => by rw [Heap.size_after_update]; exact x, fun _ _ x => by rw [Heap.size_push]; exact Nat.le_succ_of_le x⟩ (Nat.le_refl _) h
end Mine

namespace Mine
open PySem PySem.Calls PyProof.Rows PySem.SeqAt

/-- the items that a loop over a value walks -/
noncomputable def iterV (σ : Hp) : V → Option (List V)
  | .tup vs => some vs
  | .ref l => atL some σ[l]?
  | .str x => some (x.cps.toList.map fun c => .str ⟨#[c]⟩)
  | .rng n => if -(2 ^ 62) ≤ n ∧ n < 2 ^ 62 then some ((List.range n.toNat).map fun (k : Nat) => .int k) else none
  | .rev l n => atL (fun vs => if vs.length = n then some vs.reverse else none) σ[l]?
  | _ => none

inductive ItI (T : Tp) (ι : Inj) (h : Heap) (I : Addr) (i : Nat) : V → Prop where
  | asc (x : Str) (t : Tok) (it : h.IsStrIter I "str_ascii_iterator" x t i) : ItI T ι h I i (.str x)
  | wide (x : Str) (t : Tok) (it : h.IsStrIter I "str_iterator" x t i) : ItI T ι h I i (.str x)
  | tup (vs : List V) (a : Addr) (items : Array Value) (n : Nat) (ht : IsT h a items n) (hv : VRels T ι h vs items.toList) (it : h.IsTupleIter I a i) : ItI T ι h I i (.tup vs)
  | lst (l : Nat) (a d : Addr) (e : ι[l]? = some (a, d)) (it : h.IsListIter I a i) : ItI T ι h I i (.ref l)
  | rng (n : Int) (it : IsRangeIter h I i ((n.toNat : Int) - i) 1) : ItI T ι h I i (.rng n)
  | rev (l n : Nat) (a d : Addr) (hi : i ≤ n) (e : ι[l]? = some (a, d)) (it : h.IsRevIter I a ((n : Int) - 1 - i)) : ItI T ι h I i (.rev l n)
noncomputable abbrev ItAt (T : Tp) (ι : Inj) (h : Heap) (v : V) (I : Addr) (i : Nat) : Prop := ItI T ι h I i v

section
variable {T : Tp} {A : Around} {fs : List Env} {d : Nat} {env : Env} {F : List Addr} {ι ι' : Inj} {h h' : Heap} {s : Shared} {ρ : Loc} {σ : Hp} {sc : Scope} {v : V} {I : Addr} {i : Nat}

inductive ItO (h : Heap) (I : Addr) : Prop where
  | mk (o : Obj) (n : String) (vs : Array Value) (ho : h.get? I = some o) (hc : o.cls = .type n) (hn : ["list_iterator", "tuple_iterator", "range_iterator", "str_iterator", "str_ascii_iterator", "list_reverseiterator"].contains n = true) (hd : o.data = .fields vs) : ItO h I
theorem ItO.of {n : String} {P : Obj → Prop} (hn : ["list_iterator", "tuple_iterator", "range_iterator", "str_iterator", "str_ascii_iterator", "list_reverseiterator"].contains n = true) (x : ∃ o, h.get? I = some o ∧ o.cls = .type n ∧ P o) (k : ∀ o, P o → ∃ vs, o.data = .fields vs) : ItO h I :=
  Exists.elim x fun o x => Exists.elim (k o x.2.2) fun vs hd => ⟨o, n, vs, x.1, x.2.1, hn, hd⟩
theorem ItI.obj (x : ItAt T ι h v I i) : ItO h I := by
  induction x with
  | asc x t it => exact .of (by decide) it fun _ hd => ⟨_, hd⟩
  | wide x t it => exact .of (by decide) it fun _ hd => ⟨_, hd⟩
  | tup vs a items n ht hv it => exact .of (by decide) it fun _ hd => ⟨_, hd⟩
  | lst l a d e it => exact .of (by decide) it fun _ hd => ⟨_, hd⟩
  | rng n it => exact ⟨_, _, _, it, rfl, by decide, rfl⟩
  | rev l n a d hi e it => exact .of (by decide) it fun _ hd => ⟨_, hd⟩
theorem ItI.iterish (x : ItAt T ι h v I i) : ∃ o, h.get? I = some o ∧ iterish o = true := x.obj.rec fun o n _ ho hc hn _ => ⟨o, ho, by
  simp only [Mine.iterish, hc]
  simp only [List.contains_iff_mem, List.mem_cons, List.not_mem_nil, or_false] at hn
  rcases hn with rfl | rfl | rfl | rfl | rfl | rfl <;> decide⟩
theorem keep_it {P : Obj → Prop} (k : ∀ o, h.get? I = some o → h'.get? I = some o) (x : ∃ o, h.get? I = some o ∧ P o) : ∃ o, h'.get? I = some o ∧ P o := Exists.elim x fun o x => ⟨o, k o x.1, x.2⟩
theorem ItI.keep (x : ItAt T ι h v I i) (m : Mono ι h ι' h') (k : ∀ o, h.get? I = some o → h'.get? I = some o) : ItAt T ι' h' v I i := by
  induction x with
  | asc x t it => exact .asc x t (keep_it k it)
  | wide x t it => exact .wide x t (keep_it k it)
  | tup vs a items n ht hv it => exact .tup vs a items n (m.frz a _ ht (by simp [frozen])) (hv.mono m) (keep_it k it)
  | lst l a d e it => exact .lst l a d (m.get e) (keep_it k it)
  | rng n it => exact .rng n (k _ it)
  | rev l n a d hi e it => exact .rev l n a d hi (m.get e) (keep_it k it)

theorem Mono.but (hs : ∀ b o, b ≠ I → h.get? b = some o → h'.get? b = some o) (ho : ∃ o, h.get? I = some o ∧ loose o = true ∧ frozen o = false) (ι : Inj) : Mono ι h ι h' where
  pre := ⟨[], by simp⟩
  cls := fun b o e i => ⟨o, hs b o (fun q => by obtain ⟨o', g, gi, _⟩ := ho; subst q; rw [e] at g; cases g; rw [i] at gi; cases gi) e, rfl⟩
  frz := fun b o e f => hs b o (fun q => by
    obtain ⟨o', g, _, gi⟩ := ho; subst q; rw [e] at g; cases g
    rw [f] at gi; cases gi) e
theorem iterish_frozen {o : Obj} (h : iterish o = true) : frozen o = false := by
  cases f : frozen o with
  | false => rfl
  | true =>
    simp only [frozen, Bool.or_eq_true, beq_iff_eq] at f
    rcases f with f | f <;> simp [iterish, f] at h
theorem Mono.free (hs : ∀ b o, b ≠ I → h.get? b = some o → h'.get? b = some o) (ho : ∃ o, h.get? I = some o ∧ iterish o = true) (ι : Inj) : Mono ι h ι h' :=
  .but hs (let ⟨o, a, b⟩ := ho; ⟨o, a, iterish_loose b, iterish_frozen b⟩) ι

theorem Inv.free {t : Nat} (I0 : Inv T A fs d env F ρ ι σ s) (hs : ∀ b o, b ≠ I → s.heap.get? b = some o → h'.get? b = some o) (hz : s.heap.objs.size ≤ h'.objs.size) (ho : ∃ o, s.heap.get? I = some o ∧ iterish o = true) (hn : I ∉ own ι) (hb : T.b0.objs.size ≤ I) :
    Inv T A fs d env F ρ ι σ { s with heap := h', toks := t } := by
  have m : Mono ι s.heap ι h' := .free hs ho ι
  have ne : ∀ b o, s.heap.get? b = some o → iterish o = false → b ≠ I := fun b o e i q => Exists.elim ho fun o' g => Bool.false_ne_true (i.symm.trans (sm_inj (g.1.symm.trans (q ▸ e)) ▸ g.2))
  exact ⟨I0.rep.keeps m hz (fun a o e => hs a o (fun q => absurd (Heap.lt_size e) (Nat.not_lt.mpr (q ▸ hb))) (I0.rep.base a o e)) fun a ha o e => hs a o (fun q => hn (q ▸ ha)) e,
    I0.aok.keeps (fun _ n _ => n) (fun a o g _ c => ⟨o.slots, hs a o (ne a o g (itr_iterish (nsO.itr ⟨_, c, .inl rfl⟩))) g⟩) (I0.aok.hx.keep fun a o C e1 e2 e3 => ⟨hs a o (ne a o e1 (by simp [iterish, e2])) e1, e3⟩),
    I0.frm.keeps m (fun _ n _ => n) (fun a o g _ i => ⟨o, hs a o (ne a o g (itr_iterish i)) g, rfl⟩) fun a o g _ c _ => ⟨o.slots, hs a o (ne a o g (itr_iterish c.itr)) g⟩, I0.top, I0.gens, I0.os⟩

theorem Ext.free {h₀ : Heap} (x : Ext T F ι h₀ ι' h) (hs : ∀ b o, b ≠ I → h.get? b = some o → h'.get? b = some o) (hz : h.objs.size ≤ h'.objs.size) (hI : h₀.objs.size ≤ I) : Ext T F ι h₀ ι' h' := by
  have ne : ∀ b o, h₀.get? b = some o → b ≠ I := fun b o e q => absurd (Heap.lt_size e) (Nat.not_lt.mpr (q ▸ hI))
  refine ⟨x.pre, Nat.le_trans x.size hz, fun a o e i => ?_, fun a o e f => hs a o (ne a o e) (x.frz a o e f), fun a o e n f c => hs a o (ne a o e) (x.keep a o e n f c), fun a o e n f => ?_⟩
  · obtain ⟨o', g, gc⟩ := x.cls a o e i
    exact ⟨o', hs a o' (ne a o e) g, gc⟩
  · obtain ⟨sl, g⟩ := x.frm a o e n f
    exact ⟨sl, hs a _ (ne a o e) g⟩

theorem iter_ok {E : Value → Shared → Prop} {x : Value} {items : List V} {Q : Value → Shared → Prop} (R : Rep T ι σ s.heap) (r : VRel T ι s.heap v x) (hi : iterV σ v = some items)
    (k : ∀ o, ItAt T ι (s.heap.push o) v s.heap.objs.size 0 → Q (.ref s.heap.objs.size) { s with heap := s.heap.push o }) : wpAny (model T.prog T.w) A (pyIter x) Q E s := by
  cases v <;> first | exact (no_some hi).elim | skip
  · obtain ⟨t, rfl⟩ := r.str_inv
    rename_i x
    cases ha : x.cps.all (· < 128)
    · exact wpAny_pyIter_wide ha (k _ (.wide _ t ⟨_, Heap.get?_push_size _ rfl, rfl, rfl⟩))
    · exact wpAny_pyIter_ascii ha (k _ (.asc _ t ⟨_, Heap.get?_push_size _ rfl, rfl, rfl⟩))
  · obtain ⟨a, its, n, rfl, ht, hv⟩ := r.tup_inv
    exact wpAny_pyIter_tuple ⟨_, ht, rfl, n, rfl⟩ (k _ (.tup _ a its n (Heap.get?_push_of_some _ ht) (hv.mono (Ext.push T [] ι s.heap _).mono) ⟨_, Heap.get?_push_size _ rfl, rfl, rfl⟩))
  · obtain ⟨a, dd, rfl, e⟩ := r.ref_inv
    obtain ⟨vs, hvs, hi⟩ := atL_out hi
    obtain ⟨its, n, hL, hv⟩ := R.list_at hvs e
    exact wpAny_pyIter_list hL.isList (k _ (.lst _ a dd e ⟨_, Heap.get?_push_size _ rfl, rfl, rfl⟩))
  · rename_i n
    obtain ⟨hn, hi⟩ := ite_some hi
    obtain ⟨a, t1, t2, t3, rfl, hr⟩ := r
    refine wpAny_pyIter_range hr (small_one (by decide) (by decide) hn.1 hn.2) (k _ (.rng n ?_))
    have : Builtin.Range.rangeSize 0 n 1 = (n.toNat : Int) := by unfold Builtin.Range.rangeSize; simp; split <;> (clear k hn hi hr; lia)
    rw [this]
    show _ = _
    rw [Heap.get?_push_size _ rfl]; simp [rawInt]
  · exact r.elim

theorem next_str {x : Str} {i : Nat} {y : V} (hy : (x.cps.toList.map fun c => V.str ⟨#[c]⟩)[i]? = some y) : ∃ c, x.cps[i]? = some c ∧ y = .str ⟨#[c]⟩ := by
  rw [List.getElem?_map] at hy
  obtain ⟨c, hc, e⟩ := Option.map_eq_some_iff.mp hy
  exact ⟨c, Array.getElem?_toList ▸ hc, e.symm⟩
theorem next_ok {E : Value → Shared → Prop} {items : List V} {y : V} {Q : Option Value → Shared → Prop} (R : Rep T ι σ s.heap) (it : ItAt T ι s.heap v I i) (hn : I ∉ own ι) (hi : iterV σ v = some items) (hy : items[i]? = some y)
    (k : ∀ h' t x, Heap.SameBut I s.heap h' → VRel T ι h' y x → ItAt T ι h' v I (i + 1) → Q (some x) { s with heap := h', toks := t }) : wpAny (model T.prog T.w) A (pyNext (.ref I)) Q E s := by
  have hit := it.iterish
  have mono : ∀ {h'}, Heap.SameBut I s.heap h' → Mono ι s.heap ι h' := fun hs => .free (fun b o hb e => (hs.2 b hb).trans e) hit ι
  induction it with
  | asc x t it =>
    obtain ⟨c, hc, rfl⟩ := next_str (sm_inj hi ▸ hy)
    exact wpAny_pyNext_ascii_item it hc fun h' it' hs => k h' _ _ hs .str_mk (.asc x t it')
  | wide x t it =>
    obtain ⟨c, hc, rfl⟩ := next_str (sm_inj hi ▸ hy)
    exact wpAny_pyNext_wide_item it hc fun h' it' hs => k h' _ _ hs .str_mk (.wide x t it')
  | tup vs a its n ht hv it =>
    obtain ⟨x, hx, rx⟩ := hv.get (sm_inj hi ▸ hy)
    exact wpAny_pyNext_tuple_item it ⟨_, ht, rfl, n, rfl⟩ (Array.getElem?_toList ▸ hx) fun h' it' hs => k h' s.toks x hs (rx.mono (mono hs)) (.tup vs a its n ((mono hs).frz a _ ht (by simp [frozen])) (hv.mono (mono hs)) it')
  | lst l a dd e it =>
    obtain ⟨vs, hvs, hi⟩ := atL_out hi
    obtain ⟨its, n, hL, hv⟩ := R.list_at hvs e
    obtain ⟨x, hx, rx⟩ := hv.get (sm_inj hi ▸ hy)
    exact wpAny_pyNext_list_item it hL.isList (Array.getElem?_toList ▸ hx) fun h' it' hs => k h' s.toks x hs (rx.mono (mono hs)) (.lst l a dd e it')
  | rng n it =>
    obtain ⟨_, rfl⟩ := ite_some hi
    rw [List.getElem?_map] at hy
    obtain ⟨j, hj, rfl⟩ := Option.map_eq_some_iff.mp hy
    obtain ⟨hlt, hj⟩ := List.getElem?_eq_some_iff.mp hj
    rw [List.getElem_range] at hj
    rw [List.length_range] at hlt
    subst hj
    refine wpAny_pyNext_range_item it (by (clear k it; lia)) fun h' it' hs => k h' _ _ hs .int_mk (.rng n ?_)
    rw [show ((n.toNat : Int) - ((i + 1 : Nat) : Int)) = (n.toNat : Int) - i - 1 by (clear it hlt k it'; lia)]
    exact it'
  | rev l n a dd hin e it =>
    obtain ⟨vs, hvs, hi⟩ := atL_out hi
    obtain ⟨hl, rfl⟩ := ite_some hi
    subst hl
    obtain ⟨its, m, hL, hv⟩ := R.list_at hvs e
    have hlt : i < vs.length := by have := (List.getElem?_eq_some_iff.mp hy).1; rwa [List.length_reverse] at this
    rw [List.getElem?_reverse hlt] at hy
    obtain ⟨x, hx, rx⟩ := hv.get hy
    have e1 : (vs.length : Int) - 1 - i = ((vs.length - 1 - i : Nat) : Int) := by clear k hv it rx; lia
    rw [e1] at it
    refine wpAny_pyNext_rev_item it hL.isList (Array.getElem?_toList ▸ hx) fun h' it' hs => k h' s.toks x hs (rx.mono (mono hs)) (.rev l _ a dd hlt e ?_)
    rw [show (vs.length : Int) - 1 - ((i + 1 : Nat) : Int) = ((vs.length - 1 - i : Nat) : Int) - 1 by clear k hv it rx it'; lia]; exact it'

theorem entry_unchain : entryFor table "proto.unchain" = some Builtin.«proto.unchain» := entryFor_of_fast (by kernel_rfl)
/-- an exception is made while another one, without a context, is being handled -/
theorem raiseNew_h {α : Type} {E : Value → Shared → Prop} {e : Addr} {oe : Obj} {vs : Array Value} {Q : α → Shared → Prop} (hx : HandAt A ι s.heap) (he : s.heap.get? e = some oe) (hd : oe.data = .fields vs) (h2 : 2 < vs.size)
    (k : ∀ h', Heap.SameBut e s.heap h' → (∃ oe', h'.get? e = some oe' ∧ oe'.cls = oe.cls) → E (.ref e) { s with heap := h' }) :
    wpAny (model T.prog T.w) A (raiseNew (.ref e) : Sem α) Q E s := by
  unfold raiseNew
  refine wpAny_bind (wpAny_handled ?_)
  cases hA : A.handled with
  | none => exact wpAny_bind (wpAny_pure (wpAny_throw (k _ (.refl ..) ⟨_, he, rfl⟩)))
  | some v =>
    obtain ⟨ea, o, C, ws, rfl, g1, g2, g3, g4, g5⟩ := hx v hA
    dsimp only
    by_cases q : (Value.ref ea != Value.ref e) = true
    · rw [if_pos q]
      refine wpAny_bind (wpAny_holding (runValue_entry entry_unchain ?_))
      unfold Builtin.«proto.unchain»
      dsimp only
      refine wpAny_bind (wpAny_field g1 g3 g4 ?_)
      rw [if_pos (by decide)]
      refine wpAny_bind (wpAny_pure (wpAny_pure ⟨_, rfl, ?_⟩))
      refine wpAny_bind (show wpAny _ _ (setField (.ref e) 2 (.ref ea)) _ _ _ from wpAny_setField he hd h2 (wpAny_throw (k _ (Heap.SameBut.update ..) ⟨_, Heap.get?_update_self _ he (Obj.isFreed_of_fields (Obj.data_mapFields hd _)), Obj.cls_mapFields _ _⟩)))
    · rw [if_neg q]
      exact wpAny_bind (wpAny_pure (wpAny_throw (k _ (.refl ..) ⟨_, he, rfl⟩)))
theorem range_end_h {E : Value → Shared → Prop} {it : Addr} {x left step : Int} {Q : Option Value → Shared → Prop} (hx : HandAt A ι s.heap) (hit : IsRangeIter s.heap it x left step) (hleft : left ≤ 0)
    (hQ : ∀ h', Heap.ExtBut it s.heap h' → Q none { s with heap := h' }) : wpAny (model T.prog T.w) A (pyNext (.ref it)) Q E s := by
  have hT : s.TypeIs (.ref it) "range_iterator" := ⟨_, hit, rfl⟩
  unfold pyNext
  refine wpAny_bind (wpAny_attempt (wpAny_callSpecial?_slot (name := Str.ofString "__next__") hT F.slot_range_iterator_next
    (wpAny_call_entry F.slot_range_iterator_next hT F.entry_range_iterator_next ?_ (F.args_range_iterator_next_1 _))))
  show wpAny _ _ (field (.ref it) 0 >>= _) _ _ s
  refine wpAny_bind (wpAny_field hit rfl (x := rawInt x) rfl ?_)
  show wpAny _ _ (field (.ref it) 1 >>= _) _ _ s
  refine wpAny_bind (wpAny_field hit rfl (x := rawInt left) rfl ?_)
  show wpAny _ _ (field (.ref it) 2 >>= _) _ _ s
  refine wpAny_bind (wpAny_field hit rfl (x := rawInt step) rfl ?_)
  show wpAny _ _ (if left ≤ 0 then _ else _) _ _ s
  rw [if_pos hleft]
  refine wpAny_bind (wpAny_rule ?_)
  refine wpAny_bind ?_
  show wpAny _ _ (newExc (.type "StopIteration") [] >>= _) _ _ _
  refine wpAny_bind ?_
  simp only [newExc, newTuple]
  refine wpAny_bind (wpAny_newObj_type ?_ (by size_fits))
  refine wpAny_bind (m := firstArgMember _ _) (wpAny_of_eq (a := Value.none) (by first | rfl | (simp only [firstArgMember]; rfl)) ?_)
  refine wpAny_newObj_type ?_ (by size_fits)
  have kp : ∀ (o₁ o₂ : Obj) b o, s.heap.get? b = some o → ((s.heap.push o₁).push o₂).get? b = some o := fun _ _ b o e => Heap.get?_push_of_some _ (Heap.get?_push_of_some _ e)
  have hx1 : HandAt A.in1 ι s.heap := hx
  refine raiseNew_h (ι := ι) (hx1.keep fun a o C e1 e2 e3 => ⟨kp _ _ _ _ e1, e3⟩) (Heap.get?_push_size _ rfl) rfl (by simp; (clear hleft; exact Nat.le_of_lt (Nat.le_add_left (Nat.succ 2).succ 2))) fun h' hs ho => ?_
  obtain ⟨oe', ho1, ho2⟩ := ho
  refine wpAny_bind (wpAny_isInstance (T := "StopIteration") (b := true) ⟨_, ho1, ho2⟩ isSubtype_stop ?_)
  refine wpAny_pure (hQ _ fun b o hb e => (hs.2 b (fun q => ?_)).trans (kp _ _ _ _ e))
  have := Heap.lt_size e
  rw [q, Heap.size_push] at this
  exact absurd this (Nat.not_lt.mpr (Nat.le_succ _))

theorem end_ok {E : Value → Shared → Prop} {items : List V} {Q : Option Value → Shared → Prop} (hh : A.handled = none ∨ (HandAt A ι s.heap ∧ ∃ n, v = .rng n)) (R : Rep T ι σ s.heap) (it : ItAt T ι s.heap v I i) (hi : iterV σ v = some items) (hy : items.length ≤ i)
    (k : ∀ h', Heap.ExtBut I s.heap h' → s.heap.objs.size ≤ h'.objs.size → Q none { s with heap := h' }) : wpAny (model T.prog T.w) A (pyNext (.ref I)) Q E s := by
  have hN : (∀ n, v ≠ .rng n) → A.handled = none := fun q => hh.elim id fun p => p.2.elim fun n e => absurd e (q n)
  have fin : wpAny (model T.prog T.w) A (pyNext (.ref I)) (fun r s' => r = none ∧ ∃ h', s' = { s with heap := h' } ∧ Heap.ExtBut I s.heap h') E s := by
    clear k
    induction it with
    | asc x t it => exact wpAny_pyNext_ascii_end (hN nofun) it (by cases sm_inj hi; simpa using hy) fun h' e => ⟨rfl, h', rfl, e⟩
    | wide x t it => exact wpAny_pyNext_wide_end (hN nofun) it (by cases sm_inj hi; simpa using hy) fun h' e => ⟨rfl, h', rfl, e⟩
    | tup vs a its n ht hv it => exact wpAny_pyNext_tuple_end (hN nofun) it ⟨_, ht, rfl, n, rfl⟩ (Array.getElem?_eq_none (by rw [size_eq hv, sm_inj hi]; exact hy)) fun h' e => ⟨rfl, h', rfl, e⟩
    | lst l a dd e it =>
      obtain ⟨vs, hvs, hi⟩ := atL_out hi
      obtain ⟨its, n, hL, hv⟩ := R.list_at hvs e
      exact wpAny_pyNext_list_end (hN nofun) it hL.isList (Array.getElem?_eq_none (by rw [size_eq hv, sm_inj hi]; exact hy)) fun h' e => ⟨rfl, h', rfl, e⟩
    | rng n it =>
      obtain ⟨_, rfl⟩ := ite_some hi
      simp only [List.length_map, List.length_range] at hy
      exact hh.elim (fun hh => wpAny_pyNext_range_end hh it (by (clear hN it; lia)) fun h' e => ⟨rfl, h', rfl, e⟩) fun hh => range_end_h hh.1 it (by (clear hh hN it; lia)) fun h' e => ⟨rfl, h', rfl, e⟩
    | rev l n a dd hin e it =>
      obtain ⟨vs, hvs, hi⟩ := atL_out hi
      obtain ⟨hl, rfl⟩ := ite_some hi
      rw [List.length_reverse, hl] at hy
      rw [show (n : Int) - 1 - (i : Int) = -1 from by rw [Nat.le_antisymm hin hy]; clear hN it; lia] at it
      exact wpAny_pyNext_rev_end (hN nofun) it fun h' e => ⟨rfl, h', rfl, e⟩
  refine wpAny_mono (wpAny_size fin) (fun r s' p => ?_) fun _ _ p => p.1
  obtain ⟨⟨rfl, h', rfl, e⟩, hz⟩ := p
  exact k h' e hz

theorem letOwned_ok {E : Value → Shared → Prop} {target : Expr} {x : Value} {Q : Unit → Shared → Prop} (it : ItAt T ι s.heap v I i) (k : Q () s) : wpAny (model T.prog T.w) A (letOwnedTupleGo target (.ref I) x) Q E s := by
  obtain ⟨o, n, vs, ho, hc, hn, hd⟩ := it.obj
  have no : ["enumerate", "zip", "dict_itemiterator", "dict_reverseitemiterator", "odict_iterator", "itertools.zip_longest", "itertools.pairwise"].contains n = false := by
    simp only [List.contains_iff_mem, List.mem_cons, List.not_mem_nil, or_false] at hn
    rcases hn with rfl | rfl | rfl | rfl | rfl | rfl <;> decide
  have main : ∀ a, wpAny (model T.prog T.w) A (do
      let o ← load I
      match o.cls, o.data with
      | .type n, .fields vs =>
        if ["enumerate", "zip", "dict_itemiterator", "dict_reverseitemiterator", "odict_iterator", "itertools.zip_longest", "itertools.pairwise"].contains n && vs[0]? == some (rawInt a) then
          rule "for.unpacks-the-owned-tuple"
          updateField I 0 .none
      | _, _ => pure ()) Q E s := fun a => by
    refine wpAny_bind (wpAny_load ho ?_)
    rw [hc, hd]
    simp only [no, Bool.false_and, Bool.false_eq_true, if_false]
    exact wpAny_pure k
  cases target <;> first | exact wpAny_pure k | (cases x <;> first | exact main _ | exact wpAny_pure k)
end
end Mine

namespace Mine
open PySem PySem.Calls PyProof.Rows PySem.SeqAt

/-- what a target's names become -/
noncomputable def nx1 (x : Str) (v : V) (ρ : Loc) : Option Loc := some (upd ρ x (some v))
noncomputable def nx2 (a b : Str) (v : V) (ρ : Loc) : Option Loc := match v with
  | .tup [p, q] => some (upd (upd ρ a (some p)) b (some q))
  | _ => none

theorem nx2_out {a b : Str} {v : V} {ρ ρ' : Loc} (h : nx2 a b v ρ = some ρ') : ∃ p q, v = .tup [p, q] ∧ upd (upd ρ a (some p)) b (some q) = ρ' := by
  cases v <;> first | exact (no_some h).elim | skip
  rename_i vs
  rcases vs with _ | ⟨p, _ | ⟨q, _ | _⟩⟩ <;> first | exact (no_some h).elim | exact ⟨p, q, rfl, sm_inj h⟩
noncomputable def loopQ (Q : QS) (N : Loc → Hp → Prop) : QS := fun fl ρ σ => match fl with
  | .next | .cont => N ρ σ
  | .brk => Q .next ρ σ
  | .ret v => Q (.ret v) ρ σ

section
variable {T : Tp} {A : Around} {fs : List Env} {d : Nat} {env : Env} {F : List Addr} {ι ι' : Inj} {h h' : Heap} {s : Shared} {ρ : Loc} {σ : Hp} {sc : Scope} {v : V} {I : Addr} {i : Nat}

theorem storeI {M : Model} {A' : Around} {E : Value → Shared → Prop} {x : Str} {v : V} {y : Value} {Q : Unit → Shared → Prop} (I : Inv T A fs d env F ρ ι σ s) (hk : isStore env.scope x = true) (r : VRel T ι s.heap v y)
    (k : ∀ h' t, Inv T A fs d env F (upd ρ x (some v)) ι σ { s with heap := h', toks := t } → Ext T F ι s.heap ι h' → Q () { s with heap := h', toks := t }) : wpAny M A' (storeName env x y) Q E s :=
  store_ok I.rep I.frm hk r fun h' t R' H' e' ds => k h' t (I.stored R' H' e' ds) e'

theorem Inv.grown {h' : Heap} (I0 : Inv T A fs d env F ρ ι σ s) (hz : s.heap.objs.size ≤ h'.objs.size) (k : ∀ b o, s.heap.get? b = some o → h'.get? b = some o) : Inv T A fs d env F ρ ι σ { s with heap := h' } :=
  I0.ext (.of_keeps hz k) (I0.rep.grow hz k) I0.gens I0.os

theorem tupItems {E : Value → Shared → Prop} {a : Addr} {items : Array Value} {n : Nat} {Q : List Value → Shared → Prop} (hh : A.handled = none) (ht : IsT s.heap a items n)
    (k : ∀ h', s.heap.objs.size ≤ h'.objs.size → (∀ b o, s.heap.get? b = some o → h'.get? b = some o) → Q items.toList { s with heap := h' }) : wpAny (model T.prog T.w) A (unpackItems (.ref a) items.size none) Q E s := by
  have fin : wpAny (model T.prog T.w) A (unpackItems (.ref a) items.size none) (fun r s' => r = items.toList ∧ ∃ h', s' = { s with heap := h' } ∧ Heap.ExtBut s.heap.objs.size s.heap h') E s :=
    unpackItems_tuple hh ⟨_, ht, rfl, n, rfl⟩ fun h' e => ⟨rfl, h', rfl, e⟩
  refine wpAny_mono (wpAny_size fin) (fun r s' p => ?_) fun _ _ p => p.1
  obtain ⟨⟨rfl, h', rfl, e⟩, hz⟩ := p
  exact k h' hz fun b o hb => e b o (Nat.ne_of_lt (Heap.lt_size hb)) hb

/-- an item goes to its names -/
noncomputable def AsgOk (T : Tp) (d : Nat) (sc : Scope) (t : Expr) (nx : V → Loc → Option Loc) : Prop :=
  ∀ {E : Value → Shared → Prop} {Q : Unit → Shared → Prop} {env : Env} {A : Around} {fs : List Env} {F : List Addr} {ρ ρ' : Loc} {ι : Inj} {σ : Hp} {s : Shared} {v : V} {x : Value}, env.scope = sc → Inv T A fs d env F ρ ι σ s → VRel T ι s.heap v x → nx v ρ = some ρ' →
    (∀ h' tk, Inv T A fs d env F ρ' ι σ { s with heap := h', toks := tk } → Ext T F ι s.heap ι h' → Q () { s with heap := h', toks := tk }) → wpAny (model T.prog T.w) A (assign t env x) Q E s
theorem asg_nm {x : Str} {p : Pos} (ht : isStore sc x = true) : AsgOk T d sc (.Name x p) (nx1 x) := fun hsc I r hl k => by
  cases hl; exact wpAny_assign_Name (storeI I (hsc ▸ ht) r k)
theorem asg_two {na nb : Str} {pa pb pp : Pos} {kk : Nat} (hd : T.hd = false) (ha : isStore sc na = true) (hb : isStore sc nb = true) : AsgOk T d sc (.Tuple [.Name na pa, .Name nb pb] kk pp) (nx2 na nb) := by
  intro E Q env A fs F ρ ρ' ι σ s v x hsc I r hl k
  subst hsc
  obtain ⟨p, q, rfl, rfl⟩ := nx2_out hl
  · obtain ⟨a, items, n, rfl, hT, hv⟩ := r.tup_inv
    obtain ⟨y₁, r₁, e₁, v₁, hv⟩ := VRels.cons_iff.mp hv
    obtain ⟨y₂, r₂, rfl, v₂, hv⟩ := VRels.cons_iff.mp hv
    cases VRels.nil_iff.mp hv
    have hsz : items.size = 2 := by rw [← Array.length_toList, e₁]; rfl
    rw [arm_assign_Tuple]
    refine wpAny_bind (wpAny_standAt ?_)
    unfold unpack
    show wpAny _ _ (do assignInOrder [assign (.Name na _) env, assign (.Name nb _) env] (← holding [.ref a] (unpackItems (.ref a) 2 none))) _ _ _
    refine wpAny_bind (wpAny_holding (hsz ▸ tupItems (I.aok.hd hd) hT fun h' hz hk => ?_))
    have e0 : Ext T F ι s.heap ι h' := .of_keeps hz hk
    rw [e₁]
    refine assignInOrder_cons (wpAny_assign_Name (storeI (I.grown hz hk) ha (v₁.mono e0.mono) fun h₂ t₂ I₂ e₂ => ?_))
    refine assignInOrder_cons (wpAny_assign_Name (storeI I₂ hb (v₂.mono (e0.trans e₂).mono) fun h₃ t₃ I₃ e₃ => ?_))
    exact assignInOrder_nil (k h₃ t₃ I₃ (e0.trans (e₂.trans e₃)))

theorem StOk.while {X : XS} {Q : QS} {test : Expr} {body : List Stmt} {pos : Pos} (J : Nat → Loc → Hp → Prop) (n : Nat) (h0 : J n ρ σ)
    (turn : ∀ n ρ σ, J n ρ σ → TsOk T d sc ρ X test (fun b σ₁ => if b then ExOk T d sc ρ X body (loopQ Q fun ρ₂ σ₂ => ∃ m, m < n ∧ J m ρ₂ σ₂) σ₁ else Q .next ρ σ₁) σ) : StOk T d sc ρ X (.While test body [] pos) Q σ := by
  intro env A fs F ι s hsc I
  have hb := I.rep.size
  refine wpAny_While (codeAny_whileLoop (fun n s' => ∃ ρ' σ' ι', J n ρ' σ' ∧ Inv T A fs d env F ρ' ι' σ' s' ∧ Ext T F ι s.heap ι' s'.heap) (fun n s' hJ => ?_) n ⟨ρ, σ, ι, h0, I, .refl ..⟩)
  refine ex3 hJ fun ρ' σ' ι' h => and3 h fun j I' e' => ?_
  refine wpAny_mono (turn n ρ' σ' j env A fs F ι' s' hsc I') (fun b s₁ p => ?_) fun x s₁ p => loop_ok hb ((p.sx I' fun _ _ k => k).trans e')
  obtain ⟨σ₁, ι₁, q, rp, ex, g, o⟩ := p
  have I₁ := I'.ext ex rp g o
  have e₁ := e'.trans ex.up
  cases b
  · exact wpAny_execs_nil ⟨.next, ρ', σ₁, ι₁, q, .next, I₁, e₁⟩
  · refine wpAny_mono (q env A fs F ι₁ s₁ hsc I₁) (fun f s₂ p => ?_) fun x s₂ p => loop_ok hb (p.trans e₁)
    obtain ⟨fl, ρ₂, σ₂, ι₂, q₂, r₂, I₂, e₂⟩ := p
    induction r₂ with
    | next => obtain ⟨m, hm, jm⟩ := q₂; exact ⟨m, hm, ρ₂, σ₂, ι₂, jm, I₂, e₁.trans e₂⟩
    | brk => exact ⟨.next, ρ₂, σ₂, ι₂, q₂, .next, I₂, e₁.trans e₂⟩
    | cont => obtain ⟨m, hm, jm⟩ := q₂; exact ⟨m, hm, ρ₂, σ₂, ι₂, jm, I₂, e₁.trans e₂⟩
    | ret r₂ => exact ⟨.ret _, ρ₂, σ₂, ι₂, q₂, .ret r₂, I₂, e₁.trans e₂⟩

/-- the turns of a for loop, over any iterator's own tree -/
theorem forLoop_any {prog : Program} {w : World} {R : Result → Shared → Prop} {target : Expr} {it : Value} {body orelse : List Stmt} (J : Nat → Shared → Prop)
    (turn : ∀ n s, J n s → wpAny (model prog w) A (pyNext it) (fun r s₁ => match r with
      | none => wpAny (model prog w) A (execs orelse env) (fun f s₃ => R (.ok f) s₃) (notedBy (model prog w) A env fun e s' => R (.error e) s') s₁
      | some v => wpAny (model prog w) A (letOwnedTupleGo target it v) (fun _ s₁ => wpAny (model prog w) A (assign target env v) (fun _ s₂ => wpAny (model prog w) A (execs body env) (fun f s₃ => match f with
          | .next | .cont => ∃ m, m < n ∧ J m s₃
          | .brk => R (.ok .next) s₃
          | .ret v => R (.ok (.ret v)) s₃) (notedBy (model prog w) A env fun e s' => R (.error e) s') s₂) (notedBy (model prog w) A env fun e s' => R (.error e) s') s₁) (notedBy (model prog w) A env fun e s' => R (.error e) s') s₁)
      (notedBy (model prog w) A env fun e s' => R (.error e) s') s)
    (n : Nat) (h : J n s) : codeAny (model prog w) A (.forLoop target it body orelse env) R s := by
  refine codeAny_loop' rfl J (fun n s hJ => ?_) n h
  show wpAny _ _ ((forTurn target it body orelse env).onRaise (fun x => do noteFrame x env; theTreesLotGoes x)) _ _ s
  refine wpAny_noted ?_
  simp only [forTurn]
  refine wpAny_bind (wpAny_standAt (wpAny_bind (wpAny_onRaise (wpAny_mono (turn n s hJ) (fun r s₁ h₁ => ?_) fun _ _ h' => wpAny_standAt h'))))
  cases r with
  | none => exact wpAny_pure (.inr ⟨rfl, codeAny_block h₁⟩)
  | some v =>
    refine wpAny_bind (wpAny_mono h₁ (fun _ s₁ h₁ => ?_) fun _ _ h' => h')
    refine wpAny_bind (wpAny_mono h₁ (fun _ s₂ h₂ => wpAny_bind (wpAny_mono h₂ (fun f s₃ h₃ => ?_) fun _ _ h' => h')) fun _ _ h' => h')
    cases f with
    | next => exact wpAny_pure (.inl ⟨rfl, h₃⟩)
    | cont => exact wpAny_pure (.inl ⟨rfl, h₃⟩)
    | brk => exact wpAny_pure h₃
    | ret v => exact wpAny_pure h₃

noncomputable def noSet : Expr → Bool
  | .Set .. => false
  | _ => true
theorem folded_no {e : Expr} {x : Value} (h : noSet e = true) : foldedSetIterable e env x = pure x := by cases e <;> first | rfl | cases h

/-- the turns of a for loop -/
inductive ForOk (T : Tp) (d : Nat) (sc : Scope) (X : XS) (nx : V → Loc → Option Loc) (body : List Stmt) (Q : QS) (v : V) (ρ : Loc) (σ₁ : Hp) : Prop where
  | mk (items : List V) (J : Nat → Loc → Hp → Prop) (h0 : J 0 ρ σ₁) (h1 : ∀ i ρ σ, J i ρ σ → iterV σ v = some items) (h2 : ∀ ρ σ, J items.length ρ σ → Q .next ρ σ)
      (h3 : ∀ i x ρ σ, J i ρ σ → items[i]? = some x → ∃ ρ', nx x ρ = some ρ' ∧ ExOk T d sc ρ' X body (loopQ Q (J (i + 1))) σ) : ForOk T d sc X nx body Q v ρ σ₁
/-- what a loop walks: a value, or the items of a list, the last one first -/
inductive ItR (T : Tp) (K : V → Hp → Prop) (ι : Inj) (h : Heap) (x : Value) (s' : Shared) : Prop where
  | of (v : V) (σ' : Hp) (ι' : Inj) (h0 : K v σ') (h1 : VRel T ι' s'.heap v x) (h2 : Rep T ι' σ' s'.heap) (h3 : Ext T [] ι h ι' s'.heap) (h4 : s'.gens = #[]) (h5 : s'.os = T.os) : ItR T K ι h x s'
  | rev (l n : Nat) (I : Addr) (σ' : Hp) (ι' : Inj) (h0 : K (.rev l n) σ') (h1 : x = .ref I) (hI : ItAt T ι' s'.heap (.rev l n) I 0) (hn : h.objs.size ≤ I) (ho : I ∉ own ι') (h2 : Rep T ι' σ' s'.heap) (h3 : Ext T [] ι h ι' s'.heap) (h4 : s'.gens = #[]) (h5 : s'.os = T.os) : ItR T K ι h x s'
noncomputable def ItOk (T : Tp) (d : Nat) (sc : Scope) (ρ : Loc) (X : QX) (e : Expr) (K : V → Hp → Prop) (σ : Hp) : Prop :=
  ∀ env A fs F ι s, env.scope = sc → Inv T A fs d env F ρ ι σ s → wpAny (model T.prog T.w) A (eval e env) (ItR T K ι s.heap) (PostX T [] X ι s.heap) s
theorem EvOk.it {X : QX} {e : Expr} {K : V → Hp → Prop} (h : EvOk T d sc ρ X e K σ) : ItOk T d sc ρ X e K σ := fun env A fs F ι s hsc I =>
  wpAny_mono (h env A fs F ι s hsc I) (fun _ _ p => let ⟨v, σ', ι', a, b, c, e, f, g⟩ := p; .of v σ' ι' a b c e f g) fun _ _ p => p
/-- reversed(xs) -/
theorem ItOk.reversed {X : QX} {x : Str} {np pos : Pos} {e : Expr} {K : V → Hp → Prop} (TO : TopOk T) (hg : EvOk T d sc ρ X (.Name x np) (fun f σ₁ => f = .type "reversed" ∧ σ₁ = σ) σ) (ns : noStar [e] = true)
    (h : EvOk T d sc ρ X e (fun v σ₁ => ∃ l vs, v = .ref l ∧ σ₁[l]? = some (.list vs) ∧ K (.rev l vs.length) σ₁) σ) : ItOk T d sc ρ X (.Call (.Name x np) [e] [] pos) K σ := by
  have h' : EvsOk T d sc ρ X [e] (fun us σ₁ => ∃ v, us = [v] ∧ ∃ l vs, v = .ref l ∧ σ₁[l]? = some (.list vs) ∧ K (.rev l vs.length) σ₁) σ := EvsOk.cons (h.mono (fun v σ₁ q => EvsOk.nil ⟨v, rfl, q⟩) fun _ _ k => k)
  intro env A fs F ι s hsc I
  rw [arm_eval_Call_Name']
  refine wpAny_bind (wpAny_mono (hg env A fs F ι s hsc I) (fun fv s₁ p => ?_) fun _ _ p => p)
  obtain ⟨f, σ₁, ι₁, ⟨rfl, rfl⟩, rv, rp, ex, g, o⟩ := p
  subst rv
  have I₁ := I.ext ex rp g o
  rw [starEach_eq ns]
  refine PySem.W.callWith_of (P := T.K.In) (by rw [show backToKw pos (keywordEach [] env) = [] from rfl]; simp) (keeps_any (f := .type "reversed") (ι := ι₁) (h := s₁.heap) (.inl rfl) (rfl) (.inl rfl)) (evalArgs_list (wpAny_mono (h' env A fs F ι₁ s₁ hsc I₁) (fun xs s₂ p => ?_) fun _ _ p => p.trans ex))
  obtain ⟨vs, σ₂, ι₂, ⟨v, rfl, l, ls, rfl, hl, q⟩, rvs, rp₂, ex₂, g₂, o₂⟩ := p
  have I₂ := I₁.ext ex₂ rp₂ g₂ o₂
  refine ⟨TO.X0.keeps I₂.rep.base, ?_⟩
  obtain ⟨y, r', rfl, ry, rr⟩ := VRels.cons_iff.mp rvs
  cases VRels.nil_iff.mp rr
  obtain ⟨a, dd, rfl, e1⟩ := ry.ref_inv
  obtain ⟨its, n, hL, hv⟩ := rp₂.list_at hl e1
  refine call_reversed_list hL.isList ?_
  have hz : (its.size : Int) = ls.length := by have := hv.length; simp only [Array.length_toList] at this; rw [this]
  have e2 : Ext T [] ι₂ s₂.heap ι₂ (s₂.heap.push (revObj a ((its.size : Int) - 1))) := .push ..
  refine .rev l ls.length s₂.heap.objs.size σ₂ ι₂ q rfl (.rev l ls.length a dd (Nat.zero_le _) e1 ⟨_, Heap.get?_push_size _ rfl, rfl, ?_⟩) (Nat.le_trans ex.size ex₂.size) (fun h => absurd (rp₂.own_lt h) (Nat.lt_irrefl _)) (rp₂.grow e2.size fun b o e => Heap.get?_push_of_some _ e) (ex.trans (ex₂.trans e2)) g₂ o₂
  simp only [revObj, hz]; simp
/-- the iterator of a loop -/
theorem iter_go {K : V → Hp → Prop} {E : Value → Shared → Prop} {x : Value} {Q : Value → Shared → Prop} {s₁ : Shared} (I : Inv T A fs d env F ρ ι σ s) (p : ItR T K ι s.heap x s₁) (hi : ∀ v σ, K v σ → ∃ items, iterV σ v = some items)
    (k : ∀ v σ₁ ι₁ I h₂, K v σ₁ → Inv T A fs d env F ρ ι₁ σ₁ { s₁ with heap := h₂ } → Ext T F ι s.heap ι₁ h₂ → ItAt T ι₁ h₂ v I 0 → I ∉ own ι₁ → s.heap.objs.size ≤ I → Q (.ref I) { s₁ with heap := h₂ }) : wpAny (model T.prog T.w) A (pyIter x) Q E s₁ := by
  cases p with
  | of v σ₁ ι₁ q rv rp ex g o =>
    have I₁ := I.ext ex rp g o
    obtain ⟨items, hit⟩ := hi v σ₁ q
    refine iter_ok I₁.rep rv hit fun ob it0 => ?_
    have e1 : Ext T F ι₁ s₁.heap ι₁ (s₁.heap.push ob) := .push ..
    exact k v σ₁ ι₁ _ _ q (I₁.grown (h' := s₁.heap.push ob) e1.size fun b o e => Heap.get?_push_of_some _ e) (ex.up.trans e1) it0 (fun q => absurd (I₁.rep.own_lt q) (Nat.lt_irrefl _)) ex.size
  | rev l n J σ₁ ι₁ q e hI hn ho rp ex g o =>
    subst e
    have hr : ∃ a j, s₁.heap.IsRevIter J a j := by cases hI; exact ⟨_, _, by assumption⟩
    obtain ⟨a, _, hr⟩ := hr
    exact wpAny_pyIter_revIter hr (k _ σ₁ ι₁ J s₁.heap q (I.ext ex rp g o) ex.up hI ho hn)

/-- a for loop: J i holds ahead of the item i -/
theorem StOk.forG {X : XS} {Q : QS} {target iter : Expr} {body : List Stmt} {pos : Pos} {nx : V → Loc → Option Loc}
    (he : ItOk T d sc ρ X iter (fun v σ₁ => ForOk T d sc X nx body Q v ρ σ₁) σ)
    (ha : AsgOk T d sc target nx) (hs : noSet iter = true) (hd : T.hd = false) : StOk T d sc ρ X (.For target iter body [] pos) Q σ := by
  intro env A fs F ι s hsc I
  have hb := I.rep.size
  refine wpAny_For (wpAny_mono (he env A fs F ι s hsc I) (fun x s₁ p => ?_) fun _ _ p => p.sx I fun _ _ k => k) fun _ => folded_no hs
  refine iter_go I p (fun v σ ⟨items, J, h0, h1, _, _⟩ => ⟨items, h1 0 _ _ h0⟩) fun v σ₁ ι₁ Ia h₂ ⟨items, J, j0, jit, jend, jturn⟩ I₂ e1 it0 hn0 hI0 => ?_
  have hbI : T.b0.objs.size ≤ Ia := Nat.le_trans hb hI0
  obtain ⟨JJ, hJJ⟩ : ∃ JJ : Nat → Shared → Prop, ∀ n s', JJ n s' ↔ ∃ i ρ' σ' ι', n = items.length - i ∧ i ≤ items.length ∧ J i ρ' σ' ∧ Inv T A fs d env F ρ' ι' σ' s' ∧ Ext T F ι s.heap ι' s'.heap ∧ ItAt T ι' s'.heap v Ia i ∧ Ia ∉ own ι' := ⟨_, fun _ _ => Iff.rfl⟩
  refine forLoop_any JJ (fun n s' hJ => ?_) items.length ((hJJ _ _).mpr ⟨0, ρ, σ₁, ι₁, rfl, Nat.zero_le _, j0, I₂, e1, it0, hn0⟩)
  refine ex4 ((hJJ _ _).mp hJ) fun i ρ' σ' ι' h => and7 h fun hn0 hi j I' e' it hn => ?_
  clear h
  subst hn0
  have isit := it.iterish
  have hF : Ia ∉ F := fun q => by
    obtain ⟨o1, g1, _, g3⟩ := I'.frm.there _ q
    obtain ⟨o2, g4, g5⟩ := isit
    rw [g1] at g4; cases g4; rw [itr_iterish g3] at g5; cases g5
  by_cases hlt : i < items.length
  · have hx : items[i]? = some items[i] := List.getElem?_eq_getElem hlt
    refine next_ok I'.rep it hn (jit i ρ' σ' j) hx fun h' t y hs' ry it' => ?_
    have hk : ∀ b o, b ≠ Ia → s'.heap.get? b = some o → h'.get? b = some o := fun b o hb e => (hs'.2 b hb).trans e
    have I₃ : Inv T A fs d env F ρ' ι' σ' { s' with heap := h', toks := t } := I'.free hk (Nat.le_of_eq hs'.1.symm) isit hn hbI
    have e₃ : Ext T F ι s.heap ι' h' := e'.free hk (Nat.le_of_eq hs'.1.symm) hI0
    refine letOwned_ok (s := { s' with heap := h', toks := t }) it' ?_
    obtain ⟨ρ'', hl, hbody⟩ := jturn i _ ρ' σ' j hx
    refine ha hsc I₃ ry hl fun h₄ t₄ I₄ e₄ => ?_
    refine wpAny_mono (hbody env A fs F ι' _ hsc I₄) (fun f s₅ p => ?_) fun x s₅ p => loop_ok hb (p.trans (e₃.trans e₄))
    obtain ⟨fl, ρ₅, σ₅, ι₅, q₅, r₅, I₅, e₅⟩ := p
    have e₆ := e₃.trans (e₄.trans e₅)
    have e45 := e₄.trans e₅
    have next : J (i + 1) ρ₅ σ₅ → ∃ m, m < items.length - i ∧ JJ m s₅ := fun q => by
      refine ⟨items.length - (i + 1), Nat.sub_lt_sub_left hlt (Nat.lt_succ_self i), (hJJ _ _).mpr ⟨i + 1, ρ₅, σ₅, ι₅, rfl, hlt, q, I₅, e₆, ?_, ?_⟩⟩
      · refine it'.keep e45.mono fun o ho => ?_
        obtain ⟨o', g, gi⟩ := it'.iterish
        rw [ho] at g; cases g
        exact e45.keep _ o ho hn hF fun q => by simp [iterish, q] at gi
      · obtain ⟨o', g, gi⟩ := it'.iterish
        exact e45.not_own hn (Heap.lt_size g)
    induction r₅ with
    | next => exact next q₅
    | brk => exact ⟨.next, ρ₅, σ₅, ι₅, q₅, .next, I₅, e₆⟩
    | cont => exact next q₅
    | ret r₅ => exact ⟨.ret _, ρ₅, σ₅, ι₅, q₅, .ret r₅, I₅, e₆⟩
  · have : i = items.length := Nat.le_antisymm hi (Nat.not_lt.mp hlt)
    subst this
    refine end_ok (.inl (I'.aok.hd hd)) I'.rep it (jit _ ρ' σ' j) (Nat.le_refl _) fun h' he hz => ?_
    have I₃ : Inv T A fs d env F ρ' ι' σ' { s' with heap := h' } := I'.free (t := s'.toks) (fun b o hb e => he b o hb e) hz isit hn hbI
    exact wpAny_execs_nil ⟨.next, ρ', σ', ι', jend ρ' σ' j, .next, I₃, e'.free (fun b o hb e => he b o hb e) hz hI0⟩
end
end Mine

namespace Mine
open PySem PySem.Calls PyProof.Rows PySem.SeqAt

/-- an own class whose objects are plain -/
structure ClsAt (T : Tp) (c : Str) (C : Addr) : Prop where
  addr : T.c c = some C
  ga : PySem.W.findIn T.K (.ref C) "__getattribute__" = some (some (.builtin "object.__getattribute__"))
  gx : PySem.W.findIn T.K (.ref C) "__getattr__" = some none
  sa : PySem.W.findIn T.K (.ref C) "__setattr__" = some (some (.builtin "object.__setattr__"))
  dict : ((PySem.W.clsIn T.K C).any (·.hasDict)) = true
  over : PySem.W.plainOver T.K C = true

/-- a value that an attribute hands on as it is -/
noncomputable def handV : V → Bool
  | .none | .bool _ | .int _ | .str _ | .tup _ | .ref _ | .rng _ | .exc _ => true
  | _ => false
theorem handed {T : Tp} {ι : Inj} {h : Heap} {v : V} {x : Value} (e : handV v = true) (r : VRel T ι h v x) : PySem.W.handedIn x = true := by
  cases v <;> first | (cases e; done) | skip
  · cases r.none_inv; rfl
  · cases r.bool_inv; rfl
  · obtain ⟨_, rfl⟩ := r.int_inv; rfl
  · obtain ⟨_, rfl⟩ := r.str_inv; rfl
  · obtain ⟨_, _, _, rfl, _⟩ := r.tup_inv; rfl
  · obtain ⟨_, _, rfl, _⟩ := r.ref_inv; rfl
  · obtain ⟨_, _, _, _, rfl, _⟩ := r; rfl
  · obtain ⟨_, _, _, rfl, _⟩ := r; rfl

theorem any_inv {α : Type} {o : Option α} {f : α → Bool} (h : o.any f = true) : ∃ x, o = some x ∧ f x = true := by
  cases o with
  | none => cases h
  | some x => exact ⟨x, rfl, h⟩

theorem lookIn_of {o : Obj} {es : Array DictEntry} {ep : Nat} (hd : o.data = .dict es ep) (hk : StrKeys es) (name : Str) : PySem.W.lookIn name o = some (nsFind es name) := by
  unfold PySem.W.lookIn
  rw [hd]
  dsimp only
  have hn : nsFind es name = (es.toList.find? (·.key.isStr name)).map (·.val) := by
    rw [Array.find?_toList]; rfl
  rw [hn]
  cases hf : es.toList.find? (·.key.isStr name) with
  | some e => rfl
  | none =>
    have : es.toList.any (·.refKey) = false := by
      rw [Array.any_toList, Array.any_eq_false']
      intro e he
      obtain ⟨n, t, h⟩ := hk e he
      simp [DictEntry.refKey, h]
    simp [this]

section
variable {T : Tp} {A : Around} {fs : List Env} {d : Nat} {env : Env} {F : List Addr} {ι ι' : Inj} {h h' : Heap} {s : Shared} {ρ : Loc} {σ : Hp} {sc : Scope} {X : QX} {Q : QE}

/-- an own object, in the heap -/
inductive InstA (T : Tp) (ι : Inj) (h : Heap) (a dx C : Addr) (fs : List (Str × V)) : Prop where
  | mk (sl : Array (Option Value)) (o : Obj) (es : Array DictEntry) (ep : Nat) (h1 : h.get? a = some ⟨.ref C, some dx, .plain, sl⟩) (h2 : h.get? dx = some o) (h3 : PySem.W.InstAt h a ⟨.ref C, some dx, .plain, sl⟩ C (some o)) (h4 : o.cls = .type "dict") (h5 : o.data = .dict es ep) (h6 : StrKeys es) (h7 : ∀ x, ORelV T ι h (fs.lookup x) (nsFind es x)) : InstA T ι h a dx C fs
theorem Rep.inst_at (r : Rep T ι σ h) {l : Nat} {c : Str} {fs : List (Str × V)} {a dx : Addr} {C : Addr} (e : σ[l]? = some (.inst c fs)) (q : ι[l]? = some (a, dx)) (hc : T.c c = some C) : InstA T ι h a dx C fs := by
  obtain ⟨C', m, sl, c1, c2, ⟨o, es, ep, d1, d2, d3, d4, d5, d6, d7⟩, c4, _⟩ := r.objs l _ _ e q
  cases sm_inj (hc.symm.trans c1)
  exact ⟨sl, o, es, ep, c2, d1, ⟨c2, rfl, rfl, d1⟩, d2, d4, d5, fun x => d7 x ▸ c4 x⟩

theorem find_own {K : PySem.W.Frag} {C : Addr} {attr : Str} {o : Obj} {es : Array DictEntry} {ep : Nat} {y : Value} (hd : ((PySem.W.clsIn K C).any (·.hasDict)) = true) (hf : PySem.W.findIn K (.ref C) attr = some none) (h4 : o.data = .dict es ep) (h5 : StrKeys es) (hm : nsFind es attr = some y) :
    PySem.W.findObj K C (some o) attr = some (.value y) := by
  obtain ⟨cd, hcd, hdict⟩ := any_inv hd
  unfold PySem.W.findObj
  rw [hcd, Option.bind_some, hf, Option.bind_some]
  simp only [Option.bind_some]
  unfold PySem.W.ownOf
  rw [hdict, if_pos rfl]
  show (PySem.W.lookIn attr o).bind _ = _
  rw [lookIn_of h4 h5, hm]
  rfl
theorem attr_ok {ov v : V} {x : Value} {attr : Str} {l : Nat} {c : Str} {gs : List (Str × V)} {C : Addr} {e : Bool} (TO : TopOk T) (S : St T A fs d ι σ s) (r : VRel T ι s.heap (.ref l) x) (hl : σ[l]? = some (.inst c gs)) (hv : gs.lookup attr = some v) (hh : handV v = true)
    (hc : ClsAt T c C) (hf : PySem.W.findIn T.K (.ref C) attr = some none) (q : Q v σ) : wpAny (model T.prog T.w) A (getAttr x attr e) (PostE T [] Q ι s.heap) (PostX T [] X ι s.heap) s := by
  obtain ⟨a, dx, rfl, hι⟩ := r.ref_inv
  obtain ⟨sl, o, es, ep, h1, h2, IA, h3, h4, h5, h6⟩ := S.rep.inst_at hl hι hc.addr
  obtain ⟨y, hm, rv⟩ := (h6 attr).at hv
  exact PySem.W.get_value (TO.X0.keeps S.rep.base) IA hc.ga (find_own hc.dict hf h4 h5 hm) (handed hh rv) (S.post q rv _)

noncomputable def plainBase : Expr → Bool
  | .Call (.Name _ _) [] [] _ => false
  | _ => true
theorem base_plain {o : Expr} {attr : Str} {whole : Sem Value} (h : plainBase o = true) : attributeBase o attr env whole = whole := by
  cases o <;> first | rfl | skip
  rename_i f as ks pos
  cases f <;> first | rfl | skip
  cases as <;> first | rfl | skip
  cases ks <;> first | rfl | cases h

/-- o.x, x among the object's own -/
inductive AttrOk (T : Tp) (attr : Str) (Q : QE) (o : V) (σ₁ : Hp) : Prop where
  | mk (l : Nat) (c : Str) (gs : List (Str × V)) (v : V) (C : Addr) (h0 : o = .ref l) (h1 : σ₁[l]? = some (.inst c gs)) (h2 : gs.lookup attr = some v) (h3 : handV v = true) (h4 : ClsAt T c C) (h5 : PySem.W.findIn T.K (.ref C) attr = some Option.none) (h6 : Q v σ₁) : AttrOk T attr Q o σ₁
theorem EvOk.attr {value : Expr} {attr : Str} {pos : Pos} (TO : TopOk T) (hp : plainBase value = true)
    (he : EvOk T d sc ρ X value (fun o σ₁ => AttrOk T attr Q o σ₁) σ) :
    EvOk T d sc ρ X (.Attribute value attr pos) Q σ := by
  intro env A fs F ι s hsc I
  rw [arm_eval_Attribute, base_plain hp]
  refine wpAny_bind (wpAny_mono (he env A fs F ι s hsc I) (fun x s₁ p => ?_) fun _ _ p => p)
  obtain ⟨o, σ₁, ι₁, ⟨l, c, gs, v, C, rfl, h1, h2, h3, h4, h5, q⟩, rv, rp, ex, g, oo⟩ := p
  have I₁ := I.ext ex rp g oo
  refine wpAny_bind (wpAny_standAt (wpAny_bind (wpAny_holding (wpAny_mono (attr_ok (ov := .none) TO I₁.st rv h1 h2 h3 h4 h5 q) (fun r s₂ p => ?_) fun _ _ p => p.trans ex))))
  exact wpAny_bind (wpAny_letTemporaryGo (wpAny_pure (p.trans ex)))

/-- what a built-in method of a kind is -/
structure MethFacts (ty : String) (name : Str) (id : String) : Prop where
  pa : PlainAttrs ty
  slot : Slot ty name id
  ty : typeOf (.builtin id) = pure (.type "method_descriptor")
noncomputable def kindO : Option MObj → Option String
  | some (.list _) => some "list"
  | some (.sdict _) => some "dict"
  | _ => none
theorem kindO_out {o : Option MObj} {ty : String} (h : kindO o = some ty) : ("list" = ty ∧ ∃ vs, o = some (.list vs)) ∨ ("dict" = ty ∧ ∃ vs, o = some (.sdict vs)) := by
  rcases o with _ | o
  · exact (no_some h).elim
  · cases o <;> first | exact .inl ⟨sm_inj h, _, rfl⟩ | exact .inr ⟨sm_inj h, _, rfl⟩ | exact (no_some h).elim
noncomputable def kindV (σ : Hp) : V → Option String
  | .str _ => some "str"
  | .ref l => kindO σ[l]?
  | _ => none

/-- what o.name is, called -/
inductive Resolves (T : Tp) (σ : Hp) (name : Str) : V → V → Prop where
  | mth (l : Nat) (c : Str) (gs : List (Str × V)) (C fa : Addr) (h1 : σ[l]? = some (.inst c gs)) (h2 : gs.lookup name = none) (h3 : ClsAt T c C) (h4 : PySem.W.findIn T.K (.ref C) name = some (some (.ref fa))) (h5 : PySem.W.typeIn T.K (.ref fa) = some (.type "function")) (h6 : PySem.W.keepIn T.K (.ref fa) = true) : Resolves T σ name (.ref l) (.mth c name)
  | bi {ov : V} {ty id : String} (h1 : kindV σ ov = some ty) (h2 : MethFacts ty name id) : Resolves T σ name ov (.bi id)
/-- how a value that is called is kept -/
noncomputable def Keeps3 (T : Tp) (fv : Value) : Prop := ∀ h', T.K.In h' → ∃ k, (k = Keeper.frame ∨ k = Keeper.machine ∨ k = Keeper.boundFrame) ∧ PySem.W.Looks (model T.prog T.w) h' (keeperOf fv) k
/-- the type of a value that has methods -/
theorem kind_type {ov : V} {x : Value} {ty : String} (R : Rep T ι σ s.heap) (r : VRel T ι s.heap ov x) (h1 : kindV σ ov = some ty) : s.TypeIs x ty ∧ ∀ a, x = .ref a → ∃ o, s.heap.get? a = some o ∧ o.dict = none := by
  cases ov <;> first | exact (no_some h1).elim | skip
  · obtain ⟨t, rfl⟩ := r.str_inv
    cases sm_inj h1
    exact ⟨rfl, fun _ e => nomatch e⟩
  · obtain ⟨a, dx, rfl, hι⟩ := r.ref_inv
    rcases kindO_out h1 with ⟨rfl, vs, hvs⟩ | ⟨rfl, kvs, hvs⟩
    · obtain ⟨items, n, hL, hv⟩ := R.list_at hvs hι
      exact ⟨⟨_, hL, rfl⟩, fun _ e => Value.ref.inj e ▸ ⟨_, hL, rfl⟩⟩
    · obtain ⟨rvs, hd, hv, _⟩ := R.sdict_at hvs hι
      exact ⟨hd.mapOf.typeIs, hd.mapOf.noDict⟩
set_option maxRecDepth 20000 in
theorem meth_bi {ov : V} {id ty : String} {x : Value} {name : Str} {pl : Sem Bool} {E : Value → Shared → Prop} {R : Value × List Value → Shared → Prop} (S : St T A fs d ι σ s) (r : VRel T ι s.heap ov x) (h1 : kindV σ ov = some ty) (h2 : MethFacts ty name id) (k : R (.builtin id, [x]) s) : wpAny (model T.prog T.w) A (getMethod x name pl) R E s :=
  getMethod_builtin (kind_type S.rep r h1).1 h2.pa h2.slot h2.ty (kind_type S.rep r h1).2 k
theorem meth_ok {ov f : V} {x : Value} {name : Str} {pl : Sem Bool} {E : Value → Shared → Prop} {R : Value × List Value → Shared → Prop} (TO : TopOk T) (S : St T A fs d ι σ s) (r : VRel T ι s.heap ov x) (hr : Resolves T σ name ov f)
    (k : ∀ fv, VRel T ι s.heap f fv → Keeps3 T fv → R (fv, [x]) s) : wpAny (model T.prog T.w) A (getMethod x name pl) R E s := by
  revert r k
  induction hr with
  | mth l c gs C fa h1 h2 h3 h4 h5 h6 =>
    intro r k
    obtain ⟨a, dx, rfl, hι⟩ := r.ref_inv
    obtain ⟨sl, o, es, ep, g1, g2, IA, g3, g4, g5, g6⟩ := S.rep.inst_at h1 hι h3.addr
    have hm : nsFind es name = none := by
      have e := (g6 name).isSome
      rw [h2] at e
      exact Option.not_isSome_iff_eq_none.mp fun q => Bool.false_ne_true (e.symm.trans q)
    refine PySem.W.method_fn (TO.X0.keeps S.rep.base) IA h3.ga h3.gx h4 h5 (by unfold PySem.W.shadowIn; simp only [lookIn_of g4 g5, hm]; rfl) (k _ ?_ fun h' X' => PySem.W.keeps_K h6 h' X')
    show Tp.m _ _ _ = _; unfold Tp.m
    rw [h3.addr, Option.bind_some, h4]; rfl
  | bi h1 h2 => exact fun r k => meth_bi S r h1 h2 (k _ rfl fun h' _ => ⟨.machine, .inr (.inl rfl), PySem.W.Looks.of_pure (by unfold keeperOf; rfl)⟩)

theorem EvOk.meth {o : Expr} {name : Str} {apos pos : Pos} {args : List Expr} (TO : TopOk T) (hp : plainBase o = true) (ns : noStar args = true) (hl : (apos.endLine == pos.line) = true) (hn : args.length < 30)
    (he : EvOk T d sc ρ X o (fun ov σ₁ => ∃ f, Resolves T σ₁ name ov f ∧ EvsOk T d sc ρ X args (fun vs σ₂ => CallOk T d X f (ov :: vs) Q σ₂) σ₁) σ) :
    EvOk T d sc ρ X (.Call (.Attribute o name apos) args [] pos) Q σ := by
  intro env A fs F ι s hsc I
  rw [arm_eval_Call, base_plain hp]
  refine wpAny_bind (wpAny_mono (he env A fs F ι s hsc I) (fun x s₁ p => ?_) fun _ _ p => p)
  obtain ⟨ov, σ₁, ι₁, ⟨f, hr, q⟩, rv, rp, ex, g, oo⟩ := p
  have I₁ := I.ext ex rp g oo
  refine wpAny_bind (wpAny_standAt ?_)
  rw [starEach_eq ns]
  have hform : methodCallForm (args.length + ([] : List Keyword).length) (args.map fun e => (false, eval e env)) (backToKw pos (keywordEach [] env)) = true := by
    show ((args.map fun e => (false, eval e env)).all (fun x => !x.1) && (backToKw pos (keywordEach [] env)).all (fun x => x.1.isSome) && decide (args.length + ([] : List Keyword).length + (if ([] : List Keyword).isEmpty then 0 else 1) < 30)) = true
    rw [show backToKw pos (keywordEach [] env) = [] from rfl]
    simp; (clear hl; omega)
  have hpos : methodCallPos true o env apos pos = pure pos := by unfold methodCallPos; simp [hl]
  unfold methodCall
  rw [hform]
  refine wpAny_bind (wpAny_holding (meth_ok TO I₁.st rv hr fun fv rf hk => ?_))
  refine wpAny_bind (wpAny_of_eq hpos ?_)
  refine PySem.W.callWith_of (P := T.K.In) (by rw [show backToKw pos (keywordEach [] env) = [] from rfl]; simp) hk (evalArgs_list (wpAny_mono (q env A fs F ι₁ s₁ hsc I₁) (fun xs s₂ p => ?_) fun _ _ p => p.trans ex))
  obtain ⟨vs, σ₂, ι₂, q₂, rvs, rp₂, ex₂, g₂, o₂⟩ := p
  have I₂ := I₁.ext ex₂ rp₂ g₂ o₂
  refine ⟨TO.X0.keeps I₂.rep.base, ?_⟩
  refine wpAny_mono (q₂ A fs ι₂ s₂ fv (x :: xs) I₂.st (rf.mono ex₂.mono) ?_) (fun _ _ p => p.trans (ex.trans ex₂)) fun _ _ p => p.trans (ex.trans ex₂)
  show VRels T ι₂ s₂.heap (ov :: vs) (x :: xs)
  exact ⟨rv.mono ex₂.mono, rvs⟩
end
end Mine

namespace Mine
open PySem PySem.Calls PyProof.Rows PySem.SeqAt

/-- a key's value set, at its place or at the end -/
noncomputable def setKV (kvs : List (Str × V)) (k : Str) (v : V) : List (Str × V) :=
  if kvs.any (fun kv => kv.1 = k) then kvs.map (fun kv => if kv.1 = k then (kv.1, v) else kv) else kvs ++ [(k, v)]

theorem lookup_any {α : Type} : ∀ (kvs : List (Str × α)) (k : Str), (kvs.lookup k).isSome = kvs.any fun kv => kv.1 = k
  | [], _ => rfl
  | (k', v) :: r, k => by
    rw [List.lookup_cons, List.any_cons]
    by_cases h : k = k'
    · subst h; simp
    · have h1 : (k == k') = false := beq_eq_false_iff_ne.mpr h
      have h2 : decide (k' = k) = false := decide_eq_false (Ne.symm h)
      rw [h1, h2]; simpa using lookup_any r k
theorem lookup_append {α : Type} : ∀ (a b : List (Str × α)) (k : Str), (a ++ b).lookup k = (a.lookup k).or (b.lookup k)
  | [], b, k => by simp
  | (k', v) :: r, b, k => by
    rw [List.cons_append, List.lookup_cons, List.lookup_cons]
    cases (k == k')
    · exact lookup_append r b k
    · simp
theorem lookup_map {v : V} {k : Str} : ∀ (kvs : List (Str × V)) (x : Str), (kvs.map fun kv => if kv.1 = k then (kv.1, v) else kv).lookup x = if x = k then (kvs.lookup k).map fun _ => v else kvs.lookup x
  | [], x => by simp
  | (k', w) :: r, x => by
    rw [List.map_cons]
    by_cases h : k' = k
    · subst h
      simp only [if_true, List.lookup_cons]
      by_cases hx : x = k'
      · subst hx; simp
      · rw [beq_eq_false_iff_ne.mpr hx, if_neg hx, lookup_map r x, if_neg hx]
    · simp only [h, if_false, List.lookup_cons]
      by_cases hx : x = k'
      · subst hx; simp [h]
      · rw [beq_eq_false_iff_ne.mpr hx, lookup_map r x, beq_eq_false_iff_ne.mpr (Ne.symm h)]
theorem setKV_lookup (kvs : List (Str × V)) (k x : Str) (v : V) : (setKV kvs k v).lookup x = if x = k then some v else kvs.lookup x := by
  unfold setKV
  have ha := lookup_any kvs k
  split
  · rename_i h
    rw [h] at ha
    rw [lookup_map]
    by_cases hx : x = k
    · rw [if_pos hx, if_pos hx]
      obtain ⟨w, hw⟩ := Option.isSome_iff_exists.mp ha
      rw [hw]; rfl
    · rw [if_neg hx, if_neg hx]
  · rename_i h
    rw [Bool.not_eq_true] at h
    rw [h] at ha
    have hn : kvs.lookup k = none := by cases q : kvs.lookup k with | none => rfl | some _ => rw [q] at ha; cases ha
    rw [lookup_append]
    by_cases hx : x = k
    · subst hx; rw [hn, if_pos rfl]; simp
    · rw [if_neg hx]
      have : ([(k, v)] : List (Str × V)).lookup x = none := by rw [List.lookup_cons, beq_eq_false_iff_ne.mpr hx]; rfl
      rw [this]; simp
theorem setKV_length (kvs : List (Str × V)) (k : Str) (v : V) : (setKV kvs k v).length = if (kvs.lookup k).isSome then kvs.length else kvs.length + 1 := by
  rw [lookup_any]; unfold setKV; split <;> simp

section
variable {T : Tp} {A : Around} {fs : List Env} {d : Nat} {env : Env} {F : List Addr} {ι ι' : Inj} {h h' : Heap} {s : Shared} {ρ : Loc} {σ : Hp} {sc : Scope} {X : XS} {Q : QS}

theorem KVRel.set {rvs : List (Str × Value)} {kvs : List (Str × V)} {k : Str} {v : V} {x : Value} (e : KVRel T ι h kvs rvs) (r : VRel T ι h v x) : KVRel T ι h (setKV kvs k v) (stored rvs k x) := by
  unfold setKV stored
  rw [e.any (k := k)]
  cases (kvs.any fun kv => decide (kv.1 = k))
  · exact e.push r
  · exact e.put (fun _ => rfl) r
noncomputable def setTK (kvs : List ((Str × Int) × V)) (k : Str × Int) (v : V) : List ((Str × Int) × V) :=
  if kvs.any (fun kv => kv.1 = k) then kvs.map (fun kv => if kv.1 = k then (kv.1, v) else kv) else kvs ++ [(k, v)]
theorem KRel.putA {R : V → Value → Prop} {xs : List ((Str × Int) × Addr × Value)} {kvs : List ((Str × Int) × V)} {k : Str × Int} {v : V} {x : Value} (e : KRel (fun v p => R v p.2) kvs xs) (r : R v x) : KRel (fun v p => R v p.2) (kvs.map fun kv => if kv.1 = k then (kv.1, v) else kv) (xs.map (putAt k x)) := by
  induction e with
  | nil => exact .nil
  | @cons k' _ y _ _ h _ ih =>
    rw [List.map_cons, List.map_cons, putAt]
    by_cases e : k' = k
    · rw [if_pos e, if_pos e]; exact .cons (x := (y.1, x)) r ih
    · rw [if_neg e, if_neg e]; exact .cons h ih
theorem TKRel.set {xs : List ((Str × Int) × Addr × Value)} {kvs : List ((Str × Int) × V)} {k : Str × Int} {v : V} {x : Value} {a : Addr} (e : TKRel T ι h kvs xs) (r : VRel T ι h v x) : TKRel T ι h (setTK kvs k v) (storedH xs k a x) := by
  unfold setTK storedH
  rw [e.isSome (k := k)]
  cases (kvs.any fun kv => decide (kv.1 = k))
  · exact KRel.push (x := (a, x)) e r
  · exact KRel.putA e r

theorem St.turned {l : Nat} {p : Addr × Addr} {o : MObj} {a : Addr} {ob ob' : Obj} {t : Nat} (I : St T A fs d ι σ s) (hp : ι[l]? = some p) (hs : Heap.SameBut a s.heap h') (ha : a = p.1 ∨ a = p.2)
    (h1 : s.heap.get? a = some ob) (h2 : h'.get? a = some ob') (hc : ob'.cls = ob.cls) (hf : frozen ob = false) (ho : Mono ι s.heap ι h' → ORel T ι h' o p) :
    St T A fs d ι (σ.set l o) { s with heap := h', toks := t } ∧ Ext T [] ι s.heap ι h' := by
  have hin : a ∈ own ι := mem_own.mpr ⟨p, List.mem_of_getElem? hp, ha⟩
  have e : Ext T [] ι s.heap ι h' := .of_sameBut hs h1 h2 hc hf (.inl hin)
  exact ⟨I.ext (s' := { s with heap := h', toks := t }) e (I.rep.turn hp e.mono hs ha (ho e.mono)) I.gens I.os, e⟩

theorem setAttr_ok {E : Value → Shared → Prop} {v : V} {x y : Value} {attr : Str} {l : Nat} {c : Str} {gs : List (Str × V)} {C : Addr} {R : Unit → Shared → Prop} (TO : TopOk T) (I : St T A fs d ι σ s) (r : VRel T ι s.heap (.ref l) x) (rv : VRel T ι s.heap v y)
    (hl : σ[l]? = some (.inst c gs)) (hc : ClsAt T c C) (ht : PySem.W.takerIn T.K C attr = some none) (hsz : gs.length < 1000)
    (k : ∀ h' t, St T A fs d ι (σ.set l (.inst c (setKV gs attr v))) { s with heap := h', toks := t } → Ext T [] ι s.heap ι h' → R () { s with heap := h', toks := t }) : wpAny (model T.prog T.w) A (setAttr x attr y) R E s := by
  obtain ⟨a, dx, rfl, hι⟩ := r.ref_inv
  obtain ⟨C', m, sl, c1, c2, hns, c4, c5⟩ := I.rep.objs l _ _ hl hι
  rw [hc.addr] at c1; cases c1
  have hns0 := hns
  obtain ⟨o, es, ep, d1, d2, d3, d4, d5, d6, d7⟩ := hns0
  have IA : PySem.W.InstAt s.heap a ⟨.ref C, some dx, .plain, sl⟩ C (some o) := ⟨c2, rfl, rfl, d1⟩
  have X₁ := TO.X0.keeps I.rep.base
  refine PySem.W.set_plain X₁ IA hc.sa ?_
  refine PySem.W.osa_open (s := { s with toks := s.toks + 1 }) X₁ IA hc.over ht fun b => ?_
  obtain ⟨cd, hcd, hdict⟩ := any_inv hc.dict
  refine wpAny_bind (wpAny_pure (wpAny_bind (wpAny_bind (wpAny_loadPart c2 (wpAny_bind ((PySem.W.looks_clsIn (M := model T.prog T.w) X₁ hcd).here (s := { s with toks := s.toks + 1 }) ?_))))))
  rw [hdict]
  refine wpAny_pure (a := some dx) (wpAny_bind (wpAny_pure (wpAny_bind ?_)))
  refine nsSetC (s := { s with toks := s.toks + 1 }) hns fun h' hn' hs hz => ?_
  have hz' := hz _ c5
  have hn0 := hn'
  obtain ⟨o', es', ep', e1, e2, e3, e4, _⟩ := hn0
  have hb := hz' o' es' ep' e1 e4
  refine wpAny_bind (wpAny_lookBehind (s := { s with heap := h', toks := s.toks + 1 + 1 }) e1 (by rw [e4]; exact pastItsLine_dict (by rw [sizeLine_eq]; split at hb <;> (clear hz' hs hz k hι hl; lia))) ?_)
  refine wpAny_pure ?_
  have hne : a ≠ dx := fun q => by rw [q, d1] at c2; cases c2; cases d4
  obtain ⟨S', ex⟩ := St.turned (t := s.toks + 1 + 1) (o := .inst c (setKV gs attr v)) I hι hs (.inr rfl) d1 e1 (e2.trans d2.symm) (by simp [frozen, d2]) fun mo =>
    ⟨C, _, sl, hc.addr, (hs.2 a hne).trans c2, hn', fun z => by
      rw [setKV_lookup]
      by_cases q : z = attr
      · rw [if_pos q, if_pos q]; exact .some (rv.mono mo)
      · rw [if_neg q, if_neg q]; exact (c4 z).mono mo, by
      rw [setKV_length, ← (c4 attr).isSome]; exact hz'⟩
  exact k h' _ S' ex

inductive SetAttrOk (T : Tp) (attr : Str) (ρ : Loc) (Q : QS) (v ov : V) (σ₂ : Hp) : Prop where
  | mk (l : Nat) (c : Str) (gs : List (Str × V)) (C : Addr) (h0 : ov = .ref l) (h1 : σ₂[l]? = some (.inst c gs)) (h2 : ClsAt T c C) (h3 : PySem.W.takerIn T.K C attr = some none) (h4 : gs.length < 1000) (h5 : Q .next ρ (σ₂.set l (.inst c (setKV gs attr v)))) : SetAttrOk T attr ρ Q v ov σ₂
inductive SetItemOk (ρ : Loc) (Q : QS) (v ov iv : V) (σ₃ : Hp) : Prop where
  | mk (l : Nat) (k : Str) (kvs : List (Str × V)) (h0 : ov = .ref l) (h1 : iv = .str k) (h2 : σ₃[l]? = some (.sdict kvs)) (h3 : kvs.length ≤ sizeLine) (h4 : Q .next ρ (σ₃.set l (.sdict (setKV kvs k v)))) : SetItemOk ρ Q v ov iv σ₃
  | pr (l : Nat) (k : Str × Int) (kvs : List ((Str × Int) × V)) (h0 : ov = .ref l) (h1 : iv = .tup [.str k.1, .int k.2]) (h2 : σ₃[l]? = some (.tdict kvs)) (h3 : kvs.length ≤ sizeLine) (h4 : Q .next ρ (σ₃.set l (.tdict (setTK kvs k v)))) : SetItemOk ρ Q v ov iv σ₃
theorem StOk.setAttr {o value : Expr} {attr : Str} {pos' pos : Pos} (TO : TopOk T)
    (q : EvOk T d sc ρ X value (fun v σ₁ => EvOk T d sc ρ X o (fun ov σ₂ => SetAttrOk T attr ρ Q v ov σ₂) σ₁) σ) (hc : noComp value = true ) :
    StOk T d sc ρ X (.Assign [.Attribute o attr pos'] value pos) Q σ := by
  intro env A fs F ι s hsc I
  refine plainObj_wpAny_Assign_Attribute (wpAny_mono (q env A fs F ι s hsc I) (fun y s₁ p => ?_) fun _ _ p => p.sx I fun _ _ k => k) (swaps_no hc)
  obtain ⟨v, σ₁, ι₁, q, rv, rp, ex, g, oo⟩ := p
  have I₁ := I.ext ex rp g oo
  refine wpAny_mono (q env A fs F ι₁ s₁ hsc I₁) (fun x s₂ p => ?_) fun _ _ p => (p.sx I₁ fun _ _ k => k).trans ex.up
  obtain ⟨ov, σ₂, ι₂, ⟨l, c, gs, C, rfl, h1, h2, h3, h4, q⟩, ro, rp₂, ex₂, g₂, o₂⟩ := p
  have I₂ := I₁.ext ex₂ rp₂ g₂ o₂
  refine setAttr_ok TO I₂.st ro (rv.mono ex₂.mono) h1 h2 h3 h4 fun h' t S' e' => ?_
  exact ⟨.next, ρ, _, ι₂, q, .next, I₂.ext (s' := { s₂ with heap := h', toks := t }) e' S'.rep S'.gens S'.os, (ex.trans (ex₂.trans e')).up⟩

theorem dict_obj {a : Addr} {rvs : List (Str × Value)} (hd : h.DictOf (strKind T.prog T.w) a rvs) : ∃ o, h.get? a = some o ∧ o.cls = .type "dict" := by obtain ⟨o, _, _, b1, b2, _⟩ := hd; exact ⟨o, b1, b2.1⟩
theorem dictH_obj {a : Addr} {rvs : List ((Str × Int) × Addr × Value)} (hd : h.DictOfH (pairKind T.prog T.w) a rvs) : ∃ o, h.get? a = some o ∧ o.cls = .type "dict" := by obtain ⟨o, _, _, b1, b2, _⟩ := hd; exact ⟨o, b1, b2.1⟩
theorem dict_frozen {o : Obj} (h : o.cls = .type "dict") : frozen o = false := by unfold frozen; rw [h]; decide
theorem setItem_str {E : Value → Shared → Prop} {v : V} {x z y : Value} {l : Nat} {k : Str} {kvs : List (Str × V)} {R : Unit → Shared → Prop} (S : St T A fs d ι σ s) (ro : VRel T ι s.heap (.ref l) x) (ri : VRel T ι s.heap (.str k) z) (rv : VRel T ι s.heap v y) (h1 : σ[l]? = some (.sdict kvs)) (h2 : kvs.length ≤ sizeLine)
    (kk : ∀ h' t, St T A fs d ι (σ.set l (.sdict (setKV kvs k v))) { s with heap := h', toks := t } → Ext T [] ι s.heap ι h' → R () { s with heap := h', toks := t }) : wpAny (model T.prog T.w) A (setItem x z y) R E s := by
  obtain ⟨a, dx, rfl, hι⟩ := ro.ref_inv
  obtain ⟨t, rfl⟩ := ri.str_inv
  obtain ⟨hp, rvs, hd, hv⟩ := S.rep.objs l _ _ h1 hι
  refine wpAny_setItem_pairs (knd := PySem.strKind T.prog T.w) (k := k) (by simp [PySem.strKind, Value.isStrOf]) hd (fun h' hd' hs => ?_) (hv.length ▸ h2)
  obtain ⟨ob, b1, b2⟩ := dict_obj hd
  obtain ⟨ob', b1', b2'⟩ := dict_obj hd'
  obtain ⟨S', ex⟩ := St.turned (t := s.toks + 1) (o := .sdict (setKV kvs k v)) S hι hs (.inl rfl) b1 b1' (b2'.trans b2.symm) (dict_frozen b2) fun mo =>
    ⟨hp, _, hd', KVRel.set (hv.imp fun _ _ r => r.mono mo) (rv.mono mo)⟩
  exact kk h' _ S' ex
theorem setItem_pr {E : Value → Shared → Prop} {v : V} {x z y : Value} {l : Nat} {k : Str × Int} {kvs : List ((Str × Int) × V)} {R : Unit → Shared → Prop} (S : St T A fs d ι σ s) (ro : VRel T ι s.heap (.ref l) x) (ri : VRel T ι s.heap (.tup [.str k.1, .int k.2]) z) (rv : VRel T ι s.heap v y) (h1 : σ[l]? = some (.tdict kvs)) (h2 : kvs.length ≤ sizeLine)
    (kk : ∀ h' t, St T A fs d ι (σ.set l (.tdict (setTK kvs k v))) { s with heap := h', toks := t } → Ext T [] ι s.heap ι h' → R () { s with heap := h', toks := t }) : wpAny (model T.prog T.w) A (setItem x z y) R E s := by
  obtain ⟨a, dx, rfl, hι⟩ := ro.ref_inv
  obtain ⟨a', rfl, hk⟩ := ri.pair
  obtain ⟨hp, rvs, hd, hv⟩ := S.rep.objs l _ _ h1 hι
  refine wpAny_setItem_heap (knd := pairKind T.prog T.w) (k := k) (show A.units + 1 < cLine from room41 (x := 0) S.aok.units (by decide)) hk hd (fun h' hd' hs => ?_) (hv.length ▸ h2)
  obtain ⟨ob, b1, b2⟩ := dictH_obj hd
  obtain ⟨ob', b1', b2'⟩ := dictH_obj hd'
  obtain ⟨S', ex⟩ := St.turned (t := s.toks + 3) (o := .tdict (setTK kvs k v)) S hι hs (.inl rfl) b1 b1' (b2'.trans b2.symm) (dict_frozen b2) fun mo =>
    ⟨hp, _, hd', TKRel.set (hv.imp fun _ _ r => r.mono mo) (rv.mono mo)⟩
  exact kk h' _ S' ex
theorem StOk.setItem {o i value : Expr} {pos' pos : Pos} 
    (q : EvOk T d sc ρ X value (fun v σ₁ => EvOk T d sc ρ X o (fun ov σ₂ => EvOk T d sc ρ X i (fun iv σ₃ => SetItemOk ρ Q v ov iv σ₃) σ₂) σ₁) σ) (hc : noComp value = true ) :
    StOk T d sc ρ X (.Assign [.Subscript o i pos'] value pos) Q σ := by
  intro env A fs F ι s hsc I
  refine wpAny_Assign_Subscript (wpAny_mono (q env A fs F ι s hsc I) (fun y s₁ p => ?_) fun _ _ p => p.sx I fun _ _ k => k) (swaps_no hc)
  obtain ⟨v, σ₁, ι₁, q, rv, rp, ex, g, oo⟩ := p
  have I₁ := I.ext ex rp g oo
  refine wpAny_mono (q env A fs F ι₁ s₁ hsc I₁) (fun x s₂ p => ?_) fun _ _ p => (p.sx I₁ fun _ _ k => k).trans ex.up
  obtain ⟨ov, σ₂, ι₂, q, ro, rp₂, ex₂, g₂, o₂⟩ := p
  have I₂ := I₁.ext ex₂ rp₂ g₂ o₂
  refine wpAny_mono (q env A fs F ι₂ s₂ hsc I₂) (fun z s₃ p => ?_) fun _ _ p => (p.sx I₂ fun _ _ k => k).trans (ex.trans ex₂).up
  obtain ⟨iv, σ₃, ι₃, so, ri, rp₃, ex₃, g₃, o₃⟩ := p
  have I₃ := I₂.ext ex₃ rp₃ g₃ o₃
  have ro := ro.mono ex₃.mono
  have rv := rv.mono (ex₂.trans ex₃).mono
  have fin : ∀ {σ₄ : Hp} {h' : Heap} {t : Nat}, Q .next ρ σ₄ → St T A fs d ι₃ σ₄ { s₃ with heap := h', toks := t } → Ext T [] ι₃ s₃.heap ι₃ h' → PostS T A fs d env F Q ι s.heap .next { s₃ with heap := h', toks := t } := fun {_ h' t} q S' e' =>
    ⟨.next, ρ, _, ι₃, q, .next, I₃.ext (s' := { s₃ with heap := h', toks := t }) e' S'.rep S'.gens S'.os, (ex.trans (ex₂.trans (ex₃.trans e'))).up⟩
  rcases so with ⟨l, k, kvs, rfl, rfl, h1, h2, qq⟩ | ⟨l, k, kvs, rfl, rfl, h1, h2, qq⟩
  · exact setItem_str I₃.st ro ri rv h1 h2 fun h' t S' e' => fin qq S' e'
  · exact setItem_pr I₃.st ro ri rv h1 h2 fun h' t S' e' => fin qq S' e'
end

section
variable {T : Tp} {A : Around} {fs : List Env} {d : Nat} {env : Env} {F : List Addr} {ι ι' : Inj} {h h' : Heap} {s : Shared} {ρ : Loc} {σ : Hp} {sc : Scope} {X : QX} {Q : QE}
theorem EvOk.dict {pos : Pos} (q : Q (.ref σ.length) (σ ++ [.sdict []])) : EvOk T d sc ρ X (.Dict [] [] pos) Q σ := by
  intro env A fs F ι s hsc I
  refine wpAny_Dict_empty ?_
  have hget : (s.heap.push { cls := .type "dict", data := .dict #[] }).get? s.heap.objs.size = some { cls := .type "dict", data := .dict #[] } := Heap.get?_push_size _ rfl
  have no : s.heap.objs.size ∉ own ι := fun z => absurd (I.rep.own_lt z) (Nat.lt_irrefl _)
  have e := Ext.push T [] ι s.heap { cls := .type "dict", data := .dict #[] }
  refine ⟨_, _, ι ++ [(s.heap.objs.size, s.heap.objs.size)], q, ?_, (I.rep.push _).more (p := (s.heap.objs.size, s.heap.objs.size)) ⟨rfl, [], ?_, .nil⟩ I.rep.size I.rep.size no no, ⟨⟨[(s.heap.objs.size, s.heap.objs.size)], rfl, by simp⟩, e.size, e.cls, e.frz, e.keep, e.frm⟩, I.gens, I.os⟩
  · exact ⟨s.heap.objs.size, s.heap.objs.size, rfl, by rw [← I.rep.len]; simp⟩
  · exact ⟨_, #[], 0, hget, ⟨rfl, rfl, rfl⟩, rfl, fun _ h => by simp at h, .nil, by simp⟩

/-- C(..): a new object, then its __init__ -/
theorem CallOk.make {c : Str} {C fI : Addr} {args : List V} (TO : TopOk T) (hc : T.c c = some C) (hm : PySem.W.makesIn T.K C = true) (hi : PySem.W.findIn T.K (.ref C) "__init__" = some (some (.ref fI))) (ht : PySem.W.typeIn T.K (.ref fI) = some (.type "function"))
    (hb : CodeOk T d X (.mth c "__init__") (.ref σ.length :: args) (fun v σ' => v = .none ∧ Q (.ref σ.length) σ') (σ ++ [.inst c []])) : CallOk T (d + 1) X (.glob c) args Q σ := by
  intro A fs ι s fv xs S rf rxs
  have hg : T.g c = some (.ref C) := by
    exact refO_out hc
  cases hg.symm.trans rf
  have X₁ := TO.X0.keeps S.rep.base
  refine wpAny_call ?_
  obtain ⟨hh, gn, dr, tk, os⟩ := s
  refine PySem.W.make_core (PySem.W.makes_of X₁ hm) (PySem.W.looks_findIn X₁ hi) (fun self => PySem.W.bind_fn X₁ self ht) (.inl rfl) ?_
  have no : ∀ a, hh.objs.size ≤ a → a ∉ own ι := fun a ha q => absurd (S.rep.own_lt q) (Nat.not_lt.mpr ha)
  have e1 := Ext.push T [] ι hh PySem.W.emptyDict
  have e2 := Ext.push T [] ι (hh.push PySem.W.emptyDict) (PySem.W.instObj C hh.objs.size)
  have e0 := e1.trans e2
  have hd : ((hh.push PySem.W.emptyDict).push (PySem.W.instObj C hh.objs.size)).get? hh.objs.size = some PySem.W.emptyDict := Heap.get?_push_of_some _ (Heap.get?_push_size _ rfl)
  have hx : ((hh.push PySem.W.emptyDict).push (PySem.W.instObj C hh.objs.size)).get? (hh.objs.size + 1) = some (PySem.W.instObj C hh.objs.size) := by
    have := Heap.get?_push_size (hh.push PySem.W.emptyDict) (o := PySem.W.instObj C hh.objs.size) rfl
    rwa [Heap.size_push] at this
  have hsz : hh.objs.size ≤ hh.objs.size + 1 := by (clear S no hx; exact Nat.le_of_lt (Nat.lt_succ_self hh.objs.size))
  have R' : Rep T (ι ++ [(hh.objs.size + 1, hh.objs.size)]) (σ ++ [.inst c []]) ((hh.push PySem.W.emptyDict).push (PySem.W.instObj C hh.objs.size)) := by
    have R0 : Rep T ι σ hh := S.rep
    refine ((R0.push _).push _).more (p := (hh.objs.size + 1, hh.objs.size)) ⟨C, fun _ => none, #[], hc, hx, ⟨_, #[], 0, hd, rfl, rfl, rfl, fun e he => by simp at he, List.Pairwise.nil, fun _ => rfl⟩, fun _ => .none, fun o es ep ho hdd => ?_⟩ (Nat.le_trans R0.size hsz) R0.size (no _ hsz) (no _ (Nat.le_refl _))
    rw [hd] at ho; cases ho; cases hdd; simp
  have eX : Ext T [] ι hh (ι ++ [(hh.objs.size + 1, hh.objs.size)]) ((hh.push PySem.W.emptyDict).push (PySem.W.instObj C hh.objs.size)) :=
    ⟨⟨[(hh.objs.size + 1, hh.objs.size)], rfl, by simp⟩, e0.size, e0.cls, e0.frz, e0.keep, e0.frm⟩
  have aok : AOk T (A.under (.builtin "type.__call__" ⟨.ref C :: xs, []⟩)) fs d (ι ++ [(hh.objs.size + 1, hh.objs.size)]) ((hh.push PySem.W.emptyDict).push (PySem.W.instObj C hh.objs.size)) := by
    have a0 := S.aok.ext eX (fun _ _ _ _ q => by simp at q) (fun _ q => by simp at q)
    refine ⟨a0.frames, a0.funs, ?_, ?_, a0.hd, a0.hx⟩
    · have := S.aok.depth
      show A.depth + 1 + d ≤ _
      (clear a0 R' eX S no hx hsz; lia)
    · have := S.aok.units
      show A.units + 1 + 10 * d + 50 ≤ _
      (clear a0 R' eX S no hx hsz; lia)
  have rI : VRel T (ι ++ [(hh.objs.size + 1, hh.objs.size)]) ((hh.push PySem.W.emptyDict).push (PySem.W.instObj C hh.objs.size)) (.mth c "__init__") (.ref fI) := by
    show Tp.m _ _ _ = _; unfold Tp.m; rw [hc, Option.bind_some, hi]; rfl
  have rS : VRel T (ι ++ [(hh.objs.size + 1, hh.objs.size)]) ((hh.push PySem.W.emptyDict).push (PySem.W.instObj C hh.objs.size)) (.ref σ.length) (.ref (hh.objs.size + 1)) := by
    exact ⟨hh.objs.size + 1, hh.objs.size, rfl, by rw [← S.rep.len]; simp⟩
  refine codeAny_mono (hb _ fs _ ⟨(hh.push PySem.W.emptyDict).push (PySem.W.instObj C hh.objs.size), gn, dr, tk, os⟩ (.ref fI) (.ref (hh.objs.size + 1) :: xs) ⟨R', aok, S.gens, S.os⟩ rI ?_) fun r s' z => ?_
  · show VRels T _ _ (_ :: _) (_ :: _)
    exact ⟨rS, rxs.mono eX.mono⟩
  · rcases r with e | (_ | _ | _ | v)
    · exact PostX.trans (T := T) (F := []) (X := X) eX z
    · exact z.elim
    · exact z.elim
    · exact z.elim
    · obtain ⟨w, σ', ι', ⟨rfl, q⟩, rw', rp, ex, g, o⟩ := z
      cases rw'.none_inv
      exact ⟨rfl, .ref σ.length, σ', ι', q, rS.mono ex.mono, rp, eX.trans ex, g, o⟩
end
end Mine

namespace Mine
open PySem PySem.Calls PyProof.Rows PySem.SeqAt

/-- the scope of a comprehension, in a function of scope sc -/
noncomputable def relab (scope sc : Scope) : Scope :=
  { scope with names := scope.names.map fun (n, k) => if (k == .free && sc.kind == .function && sc.names.lookup n == some .cell) then (n, .cell) else (n, k) }
noncomputable def compLoc (scope : Scope) (ρ : Loc) : Loc := fun x => if scope.names.lookup x = some .free then ρ x else none

noncomputable def relK (sc : Scope) (n : Str) (k : NameKind) : NameKind := if (k == .free && sc.kind == .function && sc.names.lookup n == some .cell) then .cell else k
theorem relab_lookup {sc : Scope} : ∀ (names : List (Str × NameKind)) (x : Str),
    (names.map fun (n, k) => if (k == NameKind.free && sc.kind == .function && sc.names.lookup n == some .cell) then (n, NameKind.cell) else (n, k)).lookup x = (names.lookup x).map (relK sc x)
  | [], _ => rfl
  | (n, k) :: r, x => by
    have ih := relab_lookup (sc := sc) r x
    rw [List.map_cons, List.lookup_cons]
    have e : (if (k == NameKind.free && sc.kind == .function && sc.names.lookup n == some .cell) then (n, NameKind.cell) else (n, k)) = (n, relK sc n k) := by
      unfold relK; split <;> rfl
    dsimp only
    rw [e, List.lookup_cons]
    cases hx : x == n with
    | true => rw [beq_iff_eq.mp hx]; rfl
    | false => exact ih

noncomputable def closeFrom (env : Env) : List (Str × NameKind) → List (Str × Addr) → List (Str × Addr)
  | [], acc => acc
  | (n, k) :: r, acc => if k == .free then (match env.cells.lookup n with | some c => closeFrom env r ((n, c) :: acc) | none => acc) else closeFrom env r acc

theorem closure_eq {env : Env} {scope : Scope} (h : ∀ x ∈ scope.names, x.2 = .free → (env.cells.lookup x.1).isSome = true) : closureFor scope env = pure (closeFrom env scope.names []) := by
  have : ∀ (names : List (Str × NameKind)) (acc : List (Str × Addr)), (∀ x ∈ names, x.2 = .free → (env.cells.lookup x.1).isSome = true) →
      (forIn names acc fun (x : Str × NameKind) (cs : List (Str × Addr)) => (if x.2 == NameKind.free then (do let a ← cellOf env x.1; pure (ForInStep.yield ((x.1, a) :: cs))) else pure (ForInStep.yield cs) : Sem (ForInStep (List (Str × Addr))))) = pure (closeFrom env names acc) := by
    intro names
    induction names with
    | nil => intro acc _; rfl
    | cons p r ih =>
      intro acc hp
      obtain ⟨n, k⟩ := p
      rw [List.forIn_cons]
      have hr : ∀ x ∈ r, x.2 = .free → (env.cells.lookup x.1).isSome = true := fun x hx => hp x (List.mem_cons_of_mem _ hx)
      by_cases hk : (k == NameKind.free) = true
      · obtain ⟨c, hc⟩ := Option.isSome_iff_exists.mp (hp (n, k) List.mem_cons_self (beq_iff_eq.mp hk))
        have hc' : env.cells.lookup n = some c := hc
        simp only [hk, if_true, closeFrom, hc']
        rw [show cellOf env n = pure c by unfold cellOf; rw [hc']]
        show (forIn r ((n, c) :: acc) _ : Sem _) = _
        exact ih _ hr
      · simp only [hk, closeFrom]
        show (forIn r acc _ : Sem _) = _
        exact ih _ hr
  unfold closureFor
  have e := this scope.names [] h
  show (forIn scope.names [] _ >>= fun cs => pure cs) = _
  have e2 : (forIn scope.names ([] : List (Str × Addr)) fun (x : Str × NameKind) (cs : List (Str × Addr)) => (match x with | (name, kind) => if (kind == NameKind.free) = true then do let __do_lift ← cellOf env name; pure (ForInStep.yield ((name, __do_lift) :: cs)) else pure (ForInStep.yield cs) : Sem (ForInStep (List (Str × Addr))))) = pure (closeFrom env scope.names []) := e
  first
    | (rw [e2]; rfl)
    | (simp only [bind_pure]; exact e2)
    | (simp only [bind_pure_comp, id_map']; exact e2)

theorem closeFrom_acc {env : Env} : ∀ (names : List (Str × NameKind)) (acc : List (Str × Addr)) (p : Str × Addr), (∀ x ∈ names, x.2 = .free → (env.cells.lookup x.1).isSome = true) → p ∈ acc → p ∈ closeFrom env names acc
  | [], _, _, _, h => h
  | (n, k) :: r, acc, p, hs, h => by
    have hr : ∀ x ∈ r, x.2 = .free → (env.cells.lookup x.1).isSome = true := fun x hx => hs x (List.mem_cons_of_mem _ hx)
    unfold closeFrom
    split
    · rename_i hk
      obtain ⟨c, hc⟩ := Option.isSome_iff_exists.mp (hs (n, k) List.mem_cons_self (beq_iff_eq.mp hk))
      rw [show env.cells.lookup n = some c from hc]
      exact closeFrom_acc r _ p hr (List.mem_cons_of_mem _ h)
    · exact closeFrom_acc r _ p hr h
theorem closeFrom_mem {env : Env} : ∀ (names : List (Str × NameKind)) (acc : List (Str × Addr)) (x : Str), (∀ x ∈ names, x.2 = .free → (env.cells.lookup x.1).isSome = true) → (x, NameKind.free) ∈ names → ∃ c, (x, c) ∈ closeFrom env names acc
  | (n, k) :: r, acc, x, hs, h => by
    have hr : ∀ x ∈ r, x.2 = .free → (env.cells.lookup x.1).isSome = true := fun x hx => hs x (List.mem_cons_of_mem _ hx)
    unfold closeFrom
    rcases List.mem_cons.mp h with e | h
    · obtain ⟨rfl, rfl⟩ := Prod.mk.inj e
      obtain ⟨c, hc⟩ := Option.isSome_iff_exists.mp (hs (x, .free) List.mem_cons_self rfl)
      rw [if_pos (show (NameKind.free == NameKind.free) = true from rfl), show env.cells.lookup x = some c from hc]
      exact ⟨c, closeFrom_acc r _ _ hr List.mem_cons_self⟩
    · split
      · rename_i hk
        obtain ⟨c, hc⟩ := Option.isSome_iff_exists.mp (hs (n, k) List.mem_cons_self (beq_iff_eq.mp hk))
        rw [show env.cells.lookup n = some c from hc]
        exact closeFrom_mem r _ x hr h
      · exact closeFrom_mem r _ x hr h
theorem closeFrom_val {env : Env} : ∀ (names : List (Str × NameKind)) (acc : List (Str × Addr)), (∀ p ∈ acc, env.cells.lookup p.1 = some p.2) → ∀ p ∈ closeFrom env names acc, env.cells.lookup p.1 = some p.2
  | [], _, h => h
  | (n, k) :: r, acc, h => by
    unfold closeFrom
    split
    · split
      · rename_i c hc
        exact closeFrom_val r _ fun p hp => by
          rcases List.mem_cons.mp hp with e | hp
          · cases e; exact hc
          · exact h p hp
      · exact h
    · exact closeFrom_val r _ h

theorem cellsFrom_append : ∀ (names : List (Str × NameKind)) (n : Nat) (acc cl : List (Str × Addr)), cellsFrom n names (acc ++ cl) = cellsFrom n names acc ++ cl
  | [], _, _, _ => rfl
  | (_, kind) :: r, n, acc, cl => by
    unfold cellsFrom
    split
    · rw [← List.cons_append]; exact cellsFrom_append r _ _ _
    · exact cellsFrom_append r _ _ _
theorem cellsFrom_names : ∀ (names : List (Str × NameKind)) (n : Nat) (acc : List (Str × Addr)) (p : Str × Addr), p ∈ cellsFrom n names acc → p ∈ acc ∨ (p.1, NameKind.cell) ∈ names
  | [], _, _, _, h => .inl h
  | (x, kind) :: r, n, acc, p, h => by
    unfold cellsFrom at h
    split at h
    · rename_i hk
      rcases cellsFrom_names r _ _ p h with h | h
      · rcases List.mem_cons.mp h with e | h
        · subst e; exact .inr (by rw [beq_iff_eq.mp hk]; exact List.mem_cons_self)
        · exact .inl h
      · exact .inr (List.mem_cons_of_mem _ h)
    · rcases cellsFrom_names r _ _ p h with h | h
      · exact .inl h
      · exact .inr (List.mem_cons_of_mem _ h)

/-- a comprehension's scope that can be walked in a function of scope sc -/
noncomputable def compOk (scope sc : Scope) : Bool :=
  scope.kind == .function && decide ((scope.names.map (·.1)).Nodup) && scope.names.all fun p => p.2 != .free || (match sc.names.lookup p.1 with | some .cell | some .free => true | _ => false)

theorem nodup_kind {names : List (Str × NameKind)} (hn : (names.map (·.1)).Nodup) {x : Str} {k k' : NameKind} (h : (x, k) ∈ names) (h' : (x, k') ∈ names) : k = k' := by
  induction names with
  | nil => cases h
  | cons p r ih =>
    rw [List.map_cons, List.nodup_cons] at hn
    rcases List.mem_cons.mp h with e | h <;> rcases List.mem_cons.mp h' with e' | h'
    · rw [← e'] at e; exact (Prod.mk.inj e).2
    · exact absurd (List.mem_map.mpr ⟨(x, k'), h', by rw [← e]⟩) hn.1
    · exact absurd (List.mem_map.mpr ⟨(x, k), h, by rw [← e']⟩) hn.1
    · exact ih hn.2 h h'

section
variable {T : Tp} {A : Around} {fs : List Env} {d : Nat} {ι : Inj} {σ : Hp} {s : Shared} {sc : Scope} {env : Env} {F : List Addr} {ρ : Loc}

noncomputable def cenvOf (scope : Scope) (env : Env) (L : Addr) : Env :=
  { scope := relab scope env.scope, locals := L, globals := env.globals, cells := cellsFrom (L + 1) scope.names (closeFrom env scope.names []), qual := env.qual, func := none, code := env.code, frame := env.frame, builtins := env.builtins }

theorem comp_frame {scope : Scope} (I : Inv T A fs d env F ρ ι σ s) (ok : compOk scope env.scope = true) (h₁ : Heap) (hh : h₁ = pushCells (s.heap.push { cls := .type "dict", data := .dict #[] }) scope.names) :
    closureFor scope env = pure (closeFrom env scope.names []) ∧ ∃ Fn, (∀ a ∈ Fn, s.heap.objs.size ≤ a) ∧ Inv T A fs d (cenvOf scope env s.heap.objs.size) (Fn ++ F) (compLoc scope ρ) ι σ { s with heap := h₁ } ∧ Ext T [] ι s.heap ι h₁ ∧
      (∀ x c, scope.names.lookup x = some .local ∨ scope.names.lookup x = some .cell → (cenvOf scope env s.heap.objs.size).cells.lookup x = some c → scope.names.lookup x = some .cell → c ∈ Fn) ∧ s.heap.objs.size ∈ Fn := by
  simp only [compOk, Bool.and_eq_true, beq_iff_eq, decide_eq_true_eq] at ok
  obtain ⟨⟨hk, hnd⟩, hfr⟩ := ok
  have outer : ∀ x, (x, NameKind.free) ∈ scope.names → env.kindOf x = some .cell ∨ env.kindOf x = some .free := fun x hx => by
    have := List.all_eq_true.mp hfr _ hx
    simp only [bne_self_eq_false, Bool.false_or] at this
    show env.scope.names.lookup x = _ ∨ env.scope.names.lookup x = _
    split at this
    · rename_i q; exact .inl q
    · rename_i q; exact .inr q
    · cases this
  have hcl : ∀ x ∈ scope.names, x.2 = .free → (env.cells.lookup x.1).isSome = true := fun x hx hf => by
    obtain ⟨x, k⟩ := x
    cases hf
    obtain ⟨c, _, _, e1, _⟩ := I.frm.cells x (outer x hx)
    show (env.cells.lookup x).isSome = true
    rw [e1]; rfl
  refine ⟨closure_eq hcl, ?_⟩
  subst hh
  have ok := cellsFrom_ok scope.names (s.heap.push { cls := .type "dict", data := .dict #[] }) (s.heap.objs.size + 1) [] ⟨fun _ _ hm => (nomatch hm), List.Pairwise.nil⟩ (by rw [Heap.size_push]; exact Nat.le_refl _)
  rw [Heap.size_push] at ok
  have keep : ∀ b o, s.heap.get? b = some o → (pushCells (s.heap.push { cls := .type "dict", data := .dict #[] }) scope.names).get? b = some o := fun b o e => pushCells_keeps _ _ b o (Heap.get?_push_of_some _ e)
  have hsz : s.heap.objs.size ≤ (pushCells (s.heap.push { cls := .type "dict", data := .dict #[] }) scope.names).objs.size := Nat.le_trans (by rw [Heap.size_push]; (clear ok keep; exact Nat.le_of_lt (Nat.lt_succ_self s.heap.objs.size))) (pushCells_size _ _)
  have hL := pushCells_keeps scope.names (s.heap.push { cls := .type "dict", data := .dict #[] }) _ _ (Heap.get?_push_size s.heap rfl)
  have no : ∀ a, s.heap.objs.size ≤ a → a ∉ own ι := fun a ha q => absurd (I.rep.own_lt q) (Nat.not_lt.mpr ha)
  have cellAt : ∀ x c, (x, c) ∈ cellsFrom (s.heap.objs.size + 1) scope.names [] → s.heap.objs.size + 1 ≤ c ∧ ∃ o, (pushCells (s.heap.push { cls := .type "dict", data := .dict #[] }) scope.names).get? c = some o ∧ o.cls = .type "cell" ∧ o.data = .cell none := fun x c hm => by
    obtain ⟨⟨o, g, gd⟩, hc⟩ := ok.empty x c hm
    exact ⟨hc, o, g, pushCells_cls _ _ c o g (by rw [Heap.size_push]; exact hc), gd⟩
  have csEq : (cenvOf scope env s.heap.objs.size).cells = cellsFrom (s.heap.objs.size + 1) scope.names [] ++ closeFrom env scope.names [] := cellsFrom_append scope.names _ [] _
  have kd : ∀ x, (cenvOf scope env s.heap.objs.size).kindOf x = (scope.names.lookup x).map (relK env.scope x) := fun x => relab_lookup scope.names x
  have ownL : ∀ x, scope.names.lookup x = some .cell → ∃ c, (cenvOf scope env s.heap.objs.size).cells.lookup x = some c ∧ (x, c) ∈ cellsFrom (s.heap.objs.size + 1) scope.names [] := fun x hx => by
    obtain ⟨c, hc⟩ := cellsFrom_mem scope.names (s.heap.objs.size + 1) [] x (mem_of_lookup hx)
    obtain ⟨c', hc'⟩ := lookup_of_mem hc
    refine ⟨c', ?_, mem_of_lookup hc'⟩
    rw [csEq, lookup_append, hc']; rfl
  have freeL : ∀ x, scope.names.lookup x = some .free → (cenvOf scope env s.heap.objs.size).cells.lookup x = env.cells.lookup x := fun x hx => by
    have hm := mem_of_lookup hx
    have h1 : (cellsFrom (s.heap.objs.size + 1) scope.names []).lookup x = none := by
      cases q : (cellsFrom (s.heap.objs.size + 1) scope.names []).lookup x with
      | none => rfl
      | some c =>
        rcases cellsFrom_names _ _ _ _ (mem_of_lookup q) with z | z
        · cases z
        · cases nodup_kind hnd hm z
    obtain ⟨c, hc⟩ := closeFrom_mem scope.names [] x hcl hm
    obtain ⟨c', hc'⟩ := lookup_of_mem hc
    rw [csEq, lookup_append, h1, hc']
    exact (closeFrom_val scope.names [] (fun _ h => by cases h) _ (mem_of_lookup hc')).symm
  have orig : ∀ x, ((cenvOf scope env s.heap.objs.size).kindOf x = some .cell ∨ (cenvOf scope env s.heap.objs.size).kindOf x = some .free) → scope.names.lookup x = some .cell ∨ scope.names.lookup x = some .free := fun x hx => by
    rw [kd] at hx
    cases q : scope.names.lookup x with
    | none => rw [q] at hx; rcases hx with hx | hx <;> cases hx
    | some k =>
      rw [q] at hx
      have h3 : relK env.scope x k = .cell ∨ relK env.scope x k = .free := hx.imp (fun z => by simpa using z) (fun z => by simpa using z)
      by_cases q2 : k = .free
      · subst q2; exact .inr rfl
      · have h4 : relK env.scope x k = k := by
          unfold relK
          have : (k == NameKind.free) = false := by simpa using q2
          rw [this]; rfl
        rw [h4] at h3
        rcases h3 with h3 | h3
        · exact .inl (by rw [h3])
        · exact absurd h3 q2
  have e0 : Ext T [] ι s.heap ι (pushCells (s.heap.push { cls := .type "dict", data := .dict #[] }) scope.names) := .of_keeps hsz keep
  have I0 := I.grown hsz keep
  have Fge : ∀ a ∈ (s.heap.objs.size :: (cellsFrom (s.heap.objs.size + 1) scope.names []).map (·.2)), s.heap.objs.size ≤ a := fun a ha => by
    rcases List.mem_cons.mp ha with rfl | ha
    · exact Nat.le_refl _
    · obtain ⟨⟨x, c⟩, hm, rfl⟩ := List.mem_map.mp ha
      exact Nat.le_of_succ_le (cellAt x c hm).1
  refine ⟨s.heap.objs.size :: (cellsFrom (s.heap.objs.size + 1) scope.names []).map (·.2), Fge, ⟨I0.rep, I0.aok, ?_, I0.top.rec fun e r L a b c => ⟨e, r, L, a, b, c⟩, I0.gens, I0.os⟩, e0, fun x c _ hc hx => ?_, List.mem_cons_self⟩
  · refine ⟨hk, I.frm.glb, I.frm.blt, ⟨"dict", fun _ => none, ⟨.inr rfl, fun _ => rfl⟩, ⟨_, #[], 0, hL, rfl, rfl, rfl, fun e he => by simp at he, List.Pairwise.nil, fun _ => rfl⟩, fun x hx => ?_⟩, fun x hx => ?_, fun x y c hx hy h1 h2 => ?_, List.mem_append_left _ List.mem_cons_self, fun x c hx hc => ?_, fun a ha => ?_, fun a ha => ?_⟩
    · have : compLoc scope ρ x = none := by
        unfold compLoc
        rw [if_neg]
        intro q
        rw [kd, q] at hx
        unfold relK at hx
        simp only [Option.map_some, Option.some.injEq] at hx
        split at hx <;> cases hx
      rw [this]; exact .none
    · rcases orig x hx with q | q
      · obtain ⟨c, hc, hm⟩ := ownL x q
        obtain ⟨g1, o, g2, g3, g4⟩ := cellAt x c hm
        refine ⟨c, o, none, hc, g2, g3, g4, ?_, no c (Nat.le_of_succ_le g1)⟩
        have : compLoc scope ρ x = none := by unfold compLoc; rw [if_neg (by rw [q]; simp)]
        rw [this]; exact .none
      · obtain ⟨c, o, v, f1, f2, f3, f4, f5, f6⟩ := I0.frm.cells x (outer x (mem_of_lookup q))
        refine ⟨c, o, v, (freeL x q).trans f1, f2, f3, f4, ?_, f6⟩
        unfold compLoc; rw [if_pos q]; exact f5
    · rcases orig x hx with q | q <;> rcases orig y hy with q' | q'
      · obtain ⟨c1, e1, m1⟩ := ownL x q
        obtain ⟨c2, e2, m2⟩ := ownL y q'
        rw [h1] at e1; cases e1; rw [h2] at e2; cases e2
        exact name_of_addr ok.apart m1 m2
      · exfalso
        obtain ⟨c1, e1, m1⟩ := ownL x q
        rw [h1] at e1; cases e1
        rw [freeL y q'] at h2
        obtain ⟨c', o, v, f1, f2, _⟩ := I.frm.cells y (outer y (mem_of_lookup q'))
        rw [h2] at f1; cases f1
        exact absurd (Heap.lt_size f2) (Nat.not_lt.mpr (Nat.le_of_succ_le (cellAt x _ m1).1))
      · exfalso
        obtain ⟨c1, e1, m1⟩ := ownL y q'
        rw [h2] at e1; cases e1
        rw [freeL x q] at h1
        obtain ⟨c', o, v, f1, f2, _⟩ := I.frm.cells x (outer x (mem_of_lookup q))
        rw [h1] at f1; cases f1
        exact absurd (Heap.lt_size f2) (Nat.not_lt.mpr (Nat.le_of_succ_le (cellAt y _ m1).1))
      · rw [freeL x q] at h1; rw [freeL y q'] at h2
        exact I.frm.inj x y c (outer x (mem_of_lookup q)) (outer y (mem_of_lookup q')) h1 h2
    · rcases orig x (.inl hx) with q | q
      · obtain ⟨c1, e1, m1⟩ := ownL x q
        rw [hc] at e1; cases e1
        exact List.mem_append_left _ (List.mem_cons_of_mem _ (List.mem_map.mpr ⟨_, m1, rfl⟩))
      · rw [freeL x q] at hc
        have : env.kindOf x = some .cell := by
          rw [kd, q] at hx
          unfold relK at hx
          simp only [Option.map_some, Option.some.injEq] at hx
          split at hx
          · rename_i z
            simp only [Bool.and_eq_true, beq_iff_eq] at z
            exact z.2
          · cases hx
        exact List.mem_append_right _ (I.frm.cin x c this hc)
    · rcases List.mem_append.mp ha with ha | ha
      · exact ⟨no a (Fge a ha), Nat.le_trans I.rep.size (Fge a ha)⟩
      · exact I0.frm.apart a ha
    · rcases List.mem_append.mp ha with ha | ha
      · rcases List.mem_cons.mp ha with rfl | ha
        · exact ⟨_, hL, rfl, rfl⟩
        · obtain ⟨⟨x, c⟩, hm, rfl⟩ := List.mem_map.mp ha
          obtain ⟨_, o, g2, g3, _⟩ := cellAt x c hm
          exact ⟨o, g2, by simp [frozen, g3], by simp [itr, iterish, g3]⟩
      · exact I0.frm.there a ha
  · obtain ⟨c1, e1, m1⟩ := ownL x hx
    rw [hc] at e1; cases e1
    exact List.mem_cons_of_mem _ (List.mem_map.mpr ⟨_, m1, rfl⟩)
end
end Mine

namespace Mine
open PySem PySem.Calls PyProof.Rows PySem.SeqAt

/-- the conditions of a comprehension -/
noncomputable def IfsOk (T : Tp) (d : Nat) (sc : Scope) (ρ : Loc) (X : QX) : List Expr → (Bool → Hp → Prop) → Hp → Prop
  | [], Q, σ => Q true σ
  | [c], Q, σ => TsOk T d sc ρ X c Q σ
  | _, _, _ => False

theorem lookup_nodup {names : List (Str × NameKind)} (hn : (names.map (·.1)).Nodup) {x : Str} {k : NameKind} (h : (x, k) ∈ names) : names.lookup x = some k := by
  obtain ⟨k', hk'⟩ := lookup_of_mem h
  rw [hk', nodup_kind hn (mem_of_lookup hk') h]

theorem isStore_relab {scope sc : Scope} {x : Str} (h : isStore scope x = true) : isStore (relab scope sc) x = true := by
  refine isStore_of ?_
  have e : (relab scope sc).names.lookup x = (scope.names.lookup x).map (relK sc x) := relab_lookup scope.names x
  rw [e]
  rcases isStore_out h with q | q <;> rw [q]
  · exact .inl rfl
  · exact .inr rfl

section
variable {T : Tp} {A : Around} {fs : List Env} {d : Nat} {env : Env} {F : List Addr} {ι ι' : Inj} {h h' : Heap} {s : Shared} {ρ : Loc} {σ : Hp} {sc : Scope} {X : QX} {Q : QE}

/-- an object that neither the mini heap nor the frame knows has turned -/
theorem Inv.side {a : Addr} {o : Obj} {t : Nat} (I : Inv T A fs d env F ρ ι σ s) (hs : Heap.SameBut a s.heap h') (ho : s.heap.get? a = some o) (hl : loose o = true) (hf : frozen o = false) (hc : o.cls ≠ .type "cell") (hn : a ∉ own ι) (hF : a ∉ F) (hb : T.b0.objs.size ≤ a) :
    Inv T A fs d env F ρ ι σ { s with heap := h', toks := t } := by
  have hk : ∀ b o, b ≠ a → s.heap.get? b = some o → h'.get? b = some o := fun b o q e => (hs.2 b q).trans e
  have m : Mono ι s.heap ι h' := .but hk ⟨o, ho, hl, hf⟩ ι
  have ne : ∀ b z, s.heap.get? b = some z → loose z = false → b ≠ a := fun b z e i q => Bool.false_ne_true (i.symm.trans (sm_inj (ho.symm.trans (q ▸ e)) ▸ hl))
  exact ⟨I.rep.keeps m (Nat.le_of_eq hs.1.symm) (fun b z e => hk b z (fun q => absurd (Heap.lt_size e) (Nat.not_lt.mpr (q ▸ hb))) (I.rep.base b z e)) fun b hb z e => hk b z (fun q => hn (q ▸ hb)) e,
    I.aok.keeps (fun _ n _ => n) (fun b z g _ c => ⟨z.slots, hk b z (ne b z g (by simp [loose, c])) g⟩) (I.aok.hx.keep fun b z C e1 e2 e3 => ⟨hk b z (ne b z e1 (loose_ref e2)) e1, e3⟩),
    I.frm.keeps m (fun _ n _ => n) (fun b z g hb _ => ⟨z, hk b z (fun q => hF (q ▸ hb)) g, rfl⟩) fun b z g _ _ c => ⟨z.slots, hk b z (c.elim (fun hb q => hF (q ▸ hb)) fun c q => hc (sm_inj (ho.symm.trans (q ▸ g)) ▸ c)) g⟩, I.top, I.gens, I.os⟩

theorem appendL {E : Value → Shared → Prop} {D : Addr} {items : Array Value} {n : Nat} {x : Value} {R : Value → Shared → Prop} (hL : IsL s.heap D items n) (hsz : items.size ≤ sizeLine)
    (k : ∀ h' m, IsL h' D (items.push x) m → Heap.SameBut D s.heap h' → R .none { s with heap := h' }) : wpAny (model T.prog T.w) A (call (.builtin "list.append") [.ref D, x]) R E s := by
  refine call_meets F.slot_list_append ⟨_, hL, rfl⟩ F.entry_list_append (F.args_list_append_2 _ _) (list_append D items n x hsz) ⟨hL, ?_⟩
  refine k _ _ (Heap.get?_update_self _ hL rfl) (Heap.SameBut.update ..)

theorem iterSelf {E : Value → Shared → Prop} {v : V} {It : Addr} {i : Nat} {R : Value → Shared → Prop} (it : ItAt T ι s.heap v It i) (k : R (.ref It) s) : wpAny (model T.prog T.w) A (pyIter (.ref It)) R E s := by
  induction it with
  | asc x t it => exact wpAny_pyIter_striter_ascii it k
  | wide x t it => exact wpAny_pyIter_striter_wide it k
  | tup vs a items n ht hv it => exact wpAny_pyIter_tupleiter it k
  | lst l a d e it => exact wpAny_pyIter_listiter it k
  | rng n it => exact wpAny_pyIter_rangeiter it k
  | rev l n a d hi e it => exact wpAny_pyIter_revIter it k

/-- behind a comprehension's own exception: what its letting go may turn -/
theorem passOn_ok {L : Addr} {ea : Addr} {c : Str} {σ' : Hp} {s' : Shared} {cenv cenv' : Env} {Fc : List Addr} {ρ' : Loc} (hb : T.b0.objs.size ≤ h.objs.size) (f : FlyT T h.objs.size ea c s'.heap) (hn : ea ∉ own ι') (I : Inv T A fs d cenv Fc ρ' ι' σ' s') (e : Ext T [] ι h ι' s'.heap) (x : X c σ')
    (hL : cenv.locals = L) (hs : Heap.SameBut L s'.heap h') (hd : L ∉ frs fs) (hl : h.objs.size ≤ L) (hnf : cenv.frame ≠ some cenv.locals) : wpAny (model T.prog T.w) A (PySem.passOn "comprehension.variables-let-go" (.ref ea) cenv' : Sem Value) (fun _ _ => False) (PostX T [] X ι h) { s' with heap := h' } := by
  subst hL
  obtain ⟨cl, mm, hc, hN, _⟩ := I.frm.ns
  obtain ⟨oL, es, ep, l1, l2, l3, l4, _⟩ := hN
  have hk : ∀ b o, b ≠ cenv.locals → s'.heap.get? b = some o → h'.get? b = some o := fun b o q e => (hs.2 b q).trans e
  have f₀ := f
  obtain ⟨C, oe, vs, v, f1, f2, f3, f4, f5, f6, f7, f8, tb, ot, ts, rfl, t2, t3, t4, t5, t6, t7⟩ := f
  have ne1 : ea ≠ cenv.locals := fun q => by rw [q, l1] at f3; cases f3; rw [l4] at f5; cases f5
  have ne2 : tb ≠ cenv.locals := fun q => by rw [q, l1] at t4; cases t4; rw [l4] at t6; cases t6
  have f' : FlyT T h.objs.size ea c h' := ⟨C, oe, vs, _, f1, f2, hk _ _ ne1 f3, f4, f5, f6, f7, f8, tb, ot, ts, rfl, t2, t3, hk _ _ ne2 t4, t5, t6, t7⟩
  have ap := I.frm.apart _ I.frm.loc
  obtain ⟨o₂, q1, q2, _⟩ := I.frm.there _ I.frm.loc
  rw [l1] at q1; cases q1
  have S : ∀ a ∈ frs fs, a ∉ own ι' ∧ T.b0.objs.size ≤ a ∧ ∃ o, h'.get? a = some o ∧ o.cls = .type "frame" := fun a ha => by
    obtain ⟨a1, a2, o, _, _, a3, a4, _⟩ := I.aok.mem ha
    exact ⟨a1, a2, o, hk a o (fun q => hd (q ▸ ha)) a3, a4⟩
  have hns : ∀ b, b ≠ cenv.locals → h'.get? b = s'.heap.get? b := fun b q => hs.2 b q
  have q := hc.2 hnf
  have m : Mono ι' s'.heap ι' h' := .but hk ⟨_, l1, by simp [loose, l2, q], q2⟩ ι'
  unfold PySem.passOn
  refine wpAny_bind (wpAny_field (s := { s' with heap := h' }) (hk _ _ ne1 f3) f5 f8 ?_)
  rw [if_neg (by simp)]
  refine wpAny_bind (flight_ok (S := frs fs) (s := { s' with heap := h' }) f' fun h'' t f'' => wpAny_throw ?_)
  have R' : Rep T ι' σ' h' := I.rep.keeps m (Nat.le_of_eq hs.1.symm) (fun b z e => hk b z (fun q => absurd (Heap.lt_size e) (Nat.not_lt.mpr (q ▸ ap.2))) (I.rep.base b z e)) fun b hb z e => hk b z (fun q => ap.1 (q ▸ hb)) e
  have e' : Ext T [] ι h ι' h' := e.free hk (Nat.le_of_eq hs.1.symm) hl
  exact ⟨ea, c, σ', ι', rfl, x, f''.fly, hn, R'.touch t S ⟨oe, C, hk _ _ ne1 f3, f4⟩ hn hb f2, e'.touch t (fun a ha => (S a ha).2.2) f2, I.gens, I.os⟩
end
end Mine

namespace Mine
open PySem PySem.Calls PyProof.Rows PySem.SeqAt

section
variable {T : Tp} {A : Around} {fs : List Env} {d : Nat} {env : Env} {F : List Addr} {ι ι' : Inj} {h h' : Heap} {s : Shared} {ρ : Loc} {σ : Hp} {sc : Scope} {X : QX} {Q : QE}

theorem comp_raise {cenv : Env} {Fc : List Addr} {ρ' : Loc} {ι₂ : Inj} {σ₂ : Hp} {s₂ s₃ : Shared} {x acc : Value} {R : Value → Shared → Prop} {use : Option (Value → Sem Unit)} {EE : Value → Shared → Prop} (hE : ∀ x s', PostX T [] X ι h x s' → EE x s') (hb : T.b0.objs.size ≤ h.objs.size) (I₂ : Inv T A fs d cenv Fc ρ' ι₂ σ₂ s₂) (e₂ : Ext T [] ι h ι₂ s₂.heap) (p : PostX T [] X ι₂ s₂.heap x s₃)
    (hd : cenv.locals ∉ frs fs) (hl : h.objs.size ≤ cenv.locals) (hnf : cenv.frame ≠ some cenv.locals) :
    notedBy (model T.prog T.w) A cenv (fun e s' => compPost (model T.prog T.w) A EE use R acc cenv.locals (.error e) s') x s₃ := by
  obtain ⟨ea, c, σ₃, ι₃, rfl, hx, f, n, rp, e', g, o⟩ := p
  have I₃ := I₂.ext e' rp g o
  have e₃ := e₂.trans e'
  have f₃ := f.lo e₂.size
  have hle : h.objs.size ≤ ea := by obtain ⟨_, _, _, _, _, q, _⟩ := f₃; exact q
  unfold notedBy
  refine note_ok I₃ f₃ e₃.size fun h₄ t f₄ => ?_
  have I₄ := I₃.touch t f₃ n hb hle
  have e₄ := e₃.touch t (fun a ha => let ⟨_, _, o, _, _, g, gc, _⟩ := I₃.aok.mem ha; ⟨o, g, gc⟩) hle
  obtain ⟨cl, mm, hc, hN, _⟩ := I₄.frm.ns
  have key : ∃ m, h₄.Ns cenv.locals m ∧ ∀ h', Heap.SameBut cenv.locals h₄ h' → ∀ cenv' : Env, cenv'.locals = cenv.locals → wpAny (model T.prog T.w) A (PySem.passOn "comprehension.variables-let-go" (.ref ea) cenv' : Sem Value) (fun _ _ => False) EE { s₃ with heap := h' } :=
    ⟨mm, hN.ns, fun h₅ hs cenv' _ => wpAny_mono (passOn_ok (s' := { s₃ with heap := h₄ }) hb f₄ n I₄ e₄ hx rfl hs hd hl hnf) (fun _ _ f => f) fun x s' p => hE x s' p⟩
  cases use <;> exact key

theorem ifs_ok {E : Value → Shared → Prop} {cenv : Env} {Fc : List Addr} {ifs : List Expr} {Q' : Bool → Hp → Prop} {R : Bool → Shared → Prop} (hsc : cenv.scope = sc) (I : Inv T A fs d cenv Fc ρ ι σ s) (hi : IfsOk T d sc ρ X ifs Q' σ)
    (k : ∀ b s', PostB T Q' ι s.heap b s' → R b s') (kx : ∀ x s', PostX T [] X ι s.heap x s' → E x s') :
    wpAny (model T.prog T.w) A (forIn ifs true fun c r => if r = true then do let ok ← isTrue c cenv (eval c cenv); pure (ForInStep.yield ok) else pure (ForInStep.yield r)) R E s := by
  rcases ifs with _ | ⟨c, _ | _⟩
  · rw [List.forIn_nil]; exact wpAny_pure (k _ _ ⟨σ, ι, hi, I.rep, .refl .., I.gens, I.os⟩)
  · rw [List.forIn_cons, if_pos rfl]
    refine wpAny_bind (wpAny_bind (wpAny_mono (hi cenv A fs Fc ι s hsc I) (fun b s' p => wpAny_pure ?_) fun x s' p => kx x s' p))
    show wpAny _ _ (forIn [] b _) _ _ _
    rw [List.forIn_nil]; exact wpAny_pure (k _ _ p)
  · exact (show False from hi).elim

theorem upd_upd {ρ ρ' : Loc} {x : Str} {v : Option V} (h : ∀ y, y ≠ x → ρ' y = ρ y) : upd ρ' x v = upd ρ x v := by
  funext y; unfold upd; split
  · rfl
  · rename_i q; exact h y q

/-- what is known of the names of a comprehension at its end -/
structure LetGo (T : Tp) (F : List Addr) (ι : Inj) (h₀ h : Heap) (L : Addr) : Prop where
  no : L ∉ own ι
  nF : L ∉ F
  b : T.b0.objs.size ≤ L
  lo : h₀.objs.size ≤ L
  dict : ∃ m, NsC h L "dict" m

/-- the turns of a comprehension -/
inductive CompOk (T : Tp) (d : Nat) (sc : Scope) (ρ : Loc) (X : QX) (scope : Scope) (x : Str) (ifs : List Expr) (elt : Expr) (Q : QE) (v : V) (σ₁ : Hp) : Prop where
  | mk (items : List V) (J : Nat → List V → Hp → Prop) (h0 : J 0 [] σ₁) (h1 : ∀ i acc σ, J i acc σ → iterV σ v = some items ∧ acc.length ≤ sizeLine) (h2 : ∀ acc σ, J items.length acc σ → Q (.ref σ.length) (σ ++ [.list acc]))
      (h3 : ∀ i y acc σ, J i acc σ → items[i]? = some y → IfsOk T d (relab scope sc) (upd (compLoc scope ρ) x (some y)) X ifs (fun b σ' => if b then EvOk T d (relab scope sc) (upd (compLoc scope ρ) x (some y)) X elt (fun z σ'' => J (i + 1) (acc ++ [z]) σ'') σ' else J (i + 1) acc σ') σ) : CompOk T d sc ρ X scope x ifs elt Q v σ₁
theorem comp_core {elt iter : Expr} {x : Str} {px pos : Pos} {ifs : List Expr} {scope : Scope} {use : Option (Value → Sem Unit)} {RR : Value → Shared → Prop} {EE : Value → Shared → Prop} (I : Inv T A fs d env F ρ ι σ s) (hok : compOk scope env.scope = true) (hx : isStore scope x = true) (hs : noSet iter = true)
    (he : EvOk T d env.scope ρ X iter (fun v σ₁ => (T.hd = false ∨ ∃ n, v = .rng n) ∧ CompOk T d env.scope ρ X scope x ifs elt Q v σ₁) σ)
    (hfin : ∀ v σ₂ ι₂ s₂ D L, Q v σ₂ → Inv T A fs d env F ρ ι₂ σ₂ s₂ → VRel T ι₂ s₂.heap v (.ref D) → Ext T [] ι s.heap ι₂ s₂.heap → LetGo T F ι₂ s.heap s₂.heap L → compPost (model T.prog T.w) A EE use RR (.ref D) L (.ok .next) s₂)
    (hE : ∀ x s', PostX T [] X ι s.heap x s' → EE x s') :
    wpAny (model T.prog T.w) A (comprehension (.ListComp elt [⟨.Name x px, iter, ifs, 0⟩] scope pos) scope env (firstIterPos [⟨.Name x px, iter, ifs, 0⟩] pos) (newList []) (firstAsync [⟨.Name x px, iter, ifs, 0⟩]) (firstIter [⟨.Name x px, iter, ifs, 0⟩] env) use) RR EE s := by
  have hclos := (comp_frame I hok _ rfl).1
  have hok' := hok
  simp only [compOk, Bool.and_eq_true, beq_iff_eq, decide_eq_true_eq] at hok'
  obtain ⟨⟨hkind, hnd⟩, _⟩ := hok'
  refine wpAny_comprehension_free (use := use) (cl := closeFrom env scope.names []) rfl (fun _ => folded_no hs) hclos hkind (fun y hy hl => by obtain ⟨n, k⟩ := y; cases hl; exact lookup_nodup hnd hy) ?_
  show wpAny _ A (eval iter env) _ _ s
  refine wpAny_mono (he env A fs F ι s rfl I) (fun xv s₁ p => ?_) fun _ _ p => hE _ _ p
  obtain ⟨v, σ₁, ι₁, hQ, rv, rp, ex, g, o⟩ := p
  have hRn := hQ.1
  obtain ⟨items, J, j0, jit, jend, jturn⟩ := hQ.2
  have I₁ := I.ext ex rp g o
  refine iter_ok I₁.rep rv (jit 0 [] σ₁ j0).1 fun ob it0 => ?_
  refine wpAny_newList ?_
  dsimp only
  generalize hH2 : s₁.heap.push ob = H2 at it0 ⊢
  have sz2 : H2.objs.size = s₁.heap.objs.size + 1 := by rw [← hH2, Heap.size_push]
  generalize hH3 : H2.push { cls := .type "list", data := .seq ([] : List Value).toArray } = H3
  have sz3 : H3.objs.size = H2.objs.size + 1 := by rw [← hH3, Heap.size_push]
  have l12 : s₁.heap.objs.size < H2.objs.size := sz2 ▸ Nat.lt_succ_self _
  have l23 : H2.objs.size < H3.objs.size := sz3 ▸ Nat.lt_succ_self _
  have l13 := Nat.lt_trans l12 l23
  have k12 : ∀ b o, s₁.heap.get? b = some o → H2.get? b = some o := fun b o e => by rw [← hH2]; exact Heap.get?_push_of_some _ e
  have k23 : ∀ b o, H2.get? b = some o → H3.get? b = some o := fun b o e => by rw [← hH3]; exact Heap.get?_push_of_some _ e
  have hD : IsL H3 H2.objs.size #[] 0 := by rw [← hH3]; exact IsL.new H2 #[]
  have I₃ : Inv T A fs d env F ρ ι₁ σ₁ { s₁ with heap := H3 } := I₁.grown (Nat.le_of_lt l13) fun b o e => k23 b o (k12 b o e)
  have e13 : Ext T [] ι₁ s₁.heap ι₁ H3 := .of_keeps (Nat.le_of_lt l13) fun b o e => k23 b o (k12 b o e)
  simp only [newFunctionEnv, Option.isSome_some, if_true]
  refine wpAny_bind (wpAny_alloc ?_)
  refine wpAny_bind (wpAny_layCells _ (fun name kind cells => by cases hkc : kind == NameKind.cell <;> simp [hkc]) _ _ _ _ ?_)
  refine (comp_frame I₃ hok _ rfl).2.elim fun Fn h => and5 h fun hFn I₄ e34 hcell hLF => ?_
  refine wpAny_bind ?_
  rw [List.forIn_nil]
  refine wpAny_pure (wpAny_pure ?_)
  dsimp only
  rw [show ({ s₁ with heap := H3.push { cls := .type "dict", data := .dict #[] } } : Shared).heap.objs.size = H3.objs.size + 1 from Heap.size_push ..]
  show codeAny _ A (.compStart _ 0 (.ref s₁.heap.objs.size) (.ref H2.objs.size) (cenvOf scope env H3.objs.size)) _ _
  generalize hh4 : pushCells (H3.push { cls := .type "dict", data := .dict #[] }) scope.names = h4 at I₄ e34 ⊢
  have Lc : (cenvOf scope env H3.objs.size).locals = H3.objs.size := rfl
  generalize hce : cenvOf scope env H3.objs.size = cenv at I₄ hcell Lc ⊢
  have cfr : cenv.frame = env.frame := by rw [← hce]; rfl
  have csc : cenv.scope = relab scope env.scope := by rw [← hce]; rfl
  have hb := I.rep.size
  have hb1 := I₁.rep.size
  have hd : cenv.locals ∉ frs fs := fun q => by
    obtain ⟨_, _, ofr, _, _, a3, _⟩ := I₁.aok.mem q
    rw [Lc] at a3
    have z : H3.objs.size < s₁.heap.objs.size := Heap.lt_size a3
    exact Nat.lt_asymm l13 z
  have hnf : cenv.frame ≠ some cenv.locals := fun q => hd (by
    obtain ⟨te, tr, tL, tfs, tf1, tf2⟩ := I₁.top
    rw [cfr, tf2] at q; rw [← Option.some.inj q, tfs]
    unfold frs; rw [List.filterMap_cons, tf1]; exact List.mem_cons_self)
  have hl : s.heap.objs.size ≤ cenv.locals := by rw [Lc]; exact Nat.le_trans ex.size (Nat.le_of_lt l13)
  have hFF : ∀ a ∈ F, a < s₁.heap.objs.size := fun a ha => (I₁.frm.there a ha).lt
  have hItF : s₁.heap.objs.size ∉ Fn ++ F := fun q => by
    rcases List.mem_append.mp q with q | q
    · have z : H3.objs.size ≤ s₁.heap.objs.size := hFn _ q
      exact Nat.not_lt.mpr z l13
    · exact absurd (hFF _ q) (Nat.lt_irrefl _)
  have hDF : H2.objs.size ∉ Fn ++ F := fun q => by
    rcases List.mem_append.mp q with q | q
    · have z : H3.objs.size ≤ H2.objs.size := hFn _ q
      exact Nat.not_lt.mpr z l23
    · have z : H2.objs.size < s₁.heap.objs.size := hFF _ q
      exact Nat.lt_asymm l12 z
  have no1 : ∀ a, s₁.heap.objs.size ≤ a → a ∉ own ι₁ := fun a ha q => absurd (I₁.rep.own_lt q) (Nat.not_lt.mpr ha)
  have k34 : ∀ b o, H3.get? b = some o → h4.get? b = some o := fun b o e => by rw [← hh4]; exact pushCells_keeps _ _ _ _ (Heap.get?_push_of_some _ e)
  have it4 : ItAt T ι₁ h4 v s₁.heap.objs.size 0 := it0.keep ⟨⟨[], by simp⟩, fun a o e _ => ⟨o, k34 a o (k23 a o e), rfl⟩, fun a o e _ => k34 a o (k23 a o e)⟩ fun o e => k34 _ o (k23 _ o e)
  have hD4 : IsL h4 H2.objs.size #[] 0 := k34 _ _ hD
  have e4 : Ext T [] ι s.heap ι₁ h4 := ex.trans (e13.trans e34)
  have hI0 : s.heap.objs.size ≤ s₁.heap.objs.size := ex.size
  have hD0 : s.heap.objs.size ≤ H2.objs.size := Nat.le_trans hI0 (Nat.le_of_lt l12)
  have loop : codeAny (model T.prog T.w) A (.compLoop (.ListComp elt [⟨.Name x px, iter, ifs, 0⟩] scope pos) 0 (.ref s₁.heap.objs.size) (.ref H2.objs.size) cenv)
      (compPost (model T.prog T.w) A EE use RR (.ref H2.objs.size) cenv.locals) { s₁ with heap := h4 } := by
    obtain ⟨JJ, hJJ⟩ : ∃ JJ : Nat → Shared → Prop, ∀ n s', JJ n s' ↔ ∃ i acc σ' ι' ρ' its m, n = items.length - i ∧ i ≤ items.length ∧ J i acc σ' ∧ Inv T A fs d cenv (Fn ++ F) ρ' ι' σ' s' ∧ (∀ y, y ≠ x → ρ' y = compLoc scope ρ y) ∧ Ext T [] ι s.heap ι' s'.heap ∧ Ext T [] ι₁ s₁.heap ι' s'.heap ∧
      ItAt T ι' s'.heap v s₁.heap.objs.size i ∧ s₁.heap.objs.size ∉ own ι' ∧ H2.objs.size ∉ own ι' ∧ IsL s'.heap H2.objs.size its m ∧ VRels T ι' s'.heap acc its.toList := ⟨_, fun _ _ => Iff.rfl⟩
    refine codeAny_loop rfl JJ (fun n s' hJ => ?_) items.length ((hJJ _ _).mpr ⟨0, [], σ₁, ι₁, compLoc scope ρ, #[], 0, rfl, Nat.zero_le _, j0, I₄, fun _ _ => rfl, e4, e13.trans e34, it4, no1 _ (Nat.le_refl _), no1 _ (Nat.le_of_lt l12), hD4, trivial⟩)
    refine ex7 ((hJJ _ _).mp hJ) fun i acc σ' ι' ρ' its m h => and12 h fun hn0 hi j I' hρ e' f' it nI nD hL hv => ?_
    clear h
    subst hn0
    show wpAny _ _ ((compTurn (.ListComp elt [⟨.Name x px, iter, ifs, 0⟩] scope pos) 0 (.ref s₁.heap.objs.size) (.ref H2.objs.size) cenv).onRaise (fun x => do noteFrame x cenv; theTreesLotGoes x)) _ _ s'
    refine wpAny_noted ?_
    rw [compTurn_list]
    have isit := it.iterish
    have ji := jit i acc σ' j
    by_cases hlt : i < items.length
    · have hy : items[i]? = some items[i] := List.getElem?_eq_getElem hlt
      refine wpAny_bind (wpAny_standAt (wpAny_bind (next_ok I'.rep it nI ji.1 hy fun h5 t5 y5 hs5 ry it5 => ?_)))
      have k5 : ∀ b o, b ≠ s₁.heap.objs.size → s'.heap.get? b = some o → h5.get? b = some o := fun b o q e => (hs5.2 b q).trans e
      have I5 : Inv T A fs d cenv (Fn ++ F) ρ' ι' σ' { s' with heap := h5, toks := t5 } := I'.free k5 (Nat.le_of_eq hs5.1.symm) isit nI hb1
      have e5 : Ext T [] ι s.heap ι' h5 := e'.free k5 (Nat.le_of_eq hs5.1.symm) hI0
      have f5 : Ext T [] ι₁ s₁.heap ι' h5 := f'.free k5 (Nat.le_of_eq hs5.1.symm) (Nat.le_refl _)
      have m5 : Mono ι' s'.heap ι' h5 := .free k5 isit ι'
      have hDI : H2.objs.size ≠ s₁.heap.objs.size := by rw [sz2]; exact Nat.succ_ne_self _
      have hL5 : IsL h5 H2.objs.size its m := k5 _ _ hDI hL
      refine wpAny_bind (letOwned_ok (s := { s' with heap := h5, toks := t5 }) it5 ?_)
      refine wpAny_bind (wpAny_assign_Name (store_at I5.rep I5.frm (by rw [csc]; exact isStore_relab hx) ry fun h6 t6 R6 H6 e6 ds6 a6 => ?_))
      have I6 := I5.stored (t := t6) R6 H6 e6 ds6
      rw [upd_upd hρ] at I6
      obtain ⟨a, hs6, ha⟩ := a6
      have aF : a ∈ Fn := by
        rcases ha with rfl | ⟨ka, ca⟩
        · rw [Lc]; exact hLF
        · have hxs : scope.names.lookup x = some .local ∨ scope.names.lookup x = some .cell := by
            exact isStore_out hx
          have hxc : scope.names.lookup x = some .cell := by
            rcases hxs with q | q
            · exfalso
              have : cenv.kindOf x = (scope.names.lookup x).map (relK env.scope x) := by rw [← hce]; exact relab_lookup scope.names x
              rw [ka, q] at this; simp [relK] at this
            · exact q
          exact hcell x a hxs ca hxc
      have aL : H3.objs.size ≤ a := hFn a aF
      have k6 : ∀ b o, b ≠ a → h5.get? b = some o → h6.get? b = some o := fun b o q e => (hs6.2 b q).trans e
      have e6' : Ext T [] ι s.heap ι' h6 := e5.free k6 (Nat.le_of_eq hs6.1.symm) (Nat.le_trans (Nat.le_trans hD0 (Nat.le_of_lt l23)) aL)
      have f6' : Ext T [] ι₁ s₁.heap ι' h6 := f5.free k6 (Nat.le_of_eq hs6.1.symm) (Nat.le_trans (Nat.le_of_lt l13) aL)
      have itne : s₁.heap.objs.size ≠ a := Nat.ne_of_lt (Nat.lt_of_lt_of_le l13 aL)
      have Dne : H2.objs.size ≠ a := Nat.ne_of_lt (Nat.lt_of_lt_of_le l23 aL)
      have it6 : ItAt T ι' h6 v s₁.heap.objs.size (i + 1) := it5.keep e6.mono fun o e => k6 _ o itne e
      have hL6 : IsL h6 H2.objs.size its m := k6 _ _ Dne hL5
      have hv6 : VRels T ι' h6 acc its.toList := (hv.mono m5).mono e6.mono
      have hv' := hv6.length
      simp only [Array.length_toList] at hv'
      have next : ∀ (s7 : Shared) (σ7 : Hp) (ι7 : Inj), J (i + 1) acc σ7 → Inv T A fs d cenv (Fn ++ F) (upd (compLoc scope ρ) x (some items[i])) ι7 σ7 s7 → Ext T [] ι' h6 ι7 s7.heap → ∃ n, n < items.length - i ∧ JJ n s7 := fun s7 σ7 ι7 j7 I7 e7 => by
        obtain ⟨oi, gi, gii⟩ := it6.iterish
        refine ⟨items.length - (i + 1), Nat.sub_lt_sub_left hlt (Nat.lt_succ_self i), (hJJ _ _).mpr ⟨i + 1, acc, σ7, ι7, _, its, m, rfl, hlt, j7, I7, fun y hy => by unfold upd; rw [if_neg hy], e6'.trans e7, f6'.trans e7, it6.keep e7.mono fun o ho => e7.keep _ o ho nI (by simp) fun q => ?_, e7.not_own nI (Heap.lt_size gi), e7.not_own nD (Heap.lt_size hL6), e7.keep _ _ hL6 nD (by simp) (by simp), hv6.mono e7.mono⟩⟩
        rw [gi] at ho; cases ho; simp [iterish, q] at gii
      show wpAny _ _ (forIn ifs true (fun c r => if r = true then do let ok ← isTrue c cenv (eval c cenv); pure (ForInStep.yield ok) else pure (ForInStep.yield r)) >>= _) _ _ _
      refine wpAny_bind (ifs_ok csc I6 (jturn i items[i] acc σ' j hy) (fun b s7 p => ?_) fun z s7 p => comp_raise hE hb I6 e6' p hd hl hnf)
      obtain ⟨σ7, ι7, q7, rp7, e7, g7, o7⟩ := p
      have I7 := I6.ext e7 rp7 g7 o7
      cases b with
      | false => exact wpAny_pure ⟨rfl, next s7 σ7 ι7 q7 I7 e7⟩
      | true =>
        have e67 := e6'.trans e7
        refine wpAny_bind (wpAny_bind (wpAny_mono (q7 cenv A fs (Fn ++ F) ι7 s7 csc I7) (fun z s8 p => ?_) fun z s8 p => comp_raise hE hb I7 e67 p hd hl hnf))
        obtain ⟨zv, σ8, ι8, j8, rz, rp8, e8, g8, o8⟩ := p
        have I8 := I7.ext e8 rp8 g8 o8
        have e78 := e7.trans e8
        have hL8 : IsL s8.heap H2.objs.size its m := e78.keep _ _ hL6 nD (by simp) (by simp)
        have nD8 := e78.not_own nD (Heap.lt_size hL6)
        obtain ⟨oi, gi, gii⟩ := it6.iterish
        have nI8 := e78.not_own nI (Heap.lt_size gi)
        have it8 : ItAt T ι8 s8.heap v s₁.heap.objs.size (i + 1) := it6.keep e78.mono fun o ho => e78.keep _ o ho nI (by simp) fun q => by rw [gi] at ho; cases ho; simp [iterish, q] at gii
        refine wpAny_bind (appendL hL8 (by rw [hv']; exact ji.2) fun h9 m9 hL9 hs9 => wpAny_pure (wpAny_pure ⟨rfl, ?_⟩))
        have I9 : Inv T A fs d cenv (Fn ++ F) (upd (compLoc scope ρ) x (some items[i])) ι8 σ8 { s8 with heap := h9 } := I8.side (t := s8.toks) hs9 hL8 rfl rfl (by simp) nD8 hDF (Nat.le_trans hb1 (Nat.le_of_lt l12))
        have k9 : ∀ b o, b ≠ H2.objs.size → s8.heap.get? b = some o → h9.get? b = some o := fun b o q e => (hs9.2 b q).trans e
        have m9' : Mono ι8 s8.heap ι8 h9 := .but k9 ⟨_, hL8, rfl, rfl⟩ ι8
        refine ⟨items.length - (i + 1), Nat.sub_lt_sub_left hlt (Nat.lt_succ_self i), (hJJ _ _).mpr ⟨i + 1, acc ++ [zv], σ8, ι8, _, its.push z, m9, rfl, hlt, j8, I9, fun y hy => by unfold upd; rw [if_neg hy], (e6'.trans e78).free k9 (Nat.le_of_eq hs9.1.symm) hD0, (f6'.trans e78).free k9 (Nat.le_of_eq hs9.1.symm) (Nat.le_of_lt l12), it8.keep m9' fun o ho => k9 _ o (Ne.symm hDI) ho, nI8, nD8, hL9, ?_⟩⟩
        rw [Array.toList_push]
        refine ((hv6.mono e78.mono).mono m9').append ?_
        exact ⟨rz.mono m9', trivial⟩
    · have : i = items.length := Nat.le_antisymm hi (Nat.not_lt.mp hlt)
      subst this
      refine wpAny_bind (wpAny_standAt (wpAny_bind (end_ok (hRn.imp I'.aok.hd fun q => ⟨I'.aok.hx, q⟩) I'.rep it ji.1 (Nat.le_refl _) fun h5 he5 hz5 => wpAny_pure ?_)))
      have I5 : Inv T A fs d cenv (Fn ++ F) ρ' ι' σ' { s' with heap := h5 } := I'.free (t := s'.toks) (fun b o q e => he5 b o q e) hz5 isit nI hb1
      have m5 : Mono ι' s'.heap ι' h5 := .free (fun b o q e => he5 b o q e) isit ι'
      have e5 : Ext T [] ι s.heap ι' h5 := e'.free (fun b o q e => he5 b o q e) hz5 hI0
      have hDI : H2.objs.size ≠ s₁.heap.objs.size := by rw [sz2]; exact Nat.succ_ne_self _
      have hL5 : IsL h5 H2.objs.size its m := he5 _ _ hDI hL
      have f5 : Ext T [] ι₁ s₁.heap ι' h5 := f'.free (fun b o q e => he5 b o q e) hz5 (Nat.le_refl _)
      obtain ⟨cl, mm, hc, hN, _⟩ := I5.frm.ns
      cases hc.2 hnf
      have mz : Mono ι' h5 (ι' ++ [(H2.objs.size, H2.objs.size)]) h5 := ⟨⟨_, rfl⟩, fun _ o e _ => ⟨o, e, rfl⟩, fun _ _ e _ => e⟩
      have R5 : Rep T (ι' ++ [(H2.objs.size, H2.objs.size)]) (σ' ++ [.list acc]) h5 := I5.rep.more (o := .list acc) (p := (H2.objs.size, H2.objs.size)) ⟨rfl, its.toList, ⟨m, by simpa using hL5⟩, (hv.mono m5).mono mz⟩ (Nat.le_trans hb1 (Nat.le_of_lt l12)) (Nat.le_trans hb1 (Nat.le_of_lt l12)) nD nD
      have moreX : ∀ {ι₀ : Inj} {h₀ : Heap}, Ext T [] ι₀ h₀ ι' h5 → h₀.objs.size ≤ H2.objs.size → Ext T [] ι₀ h₀ (ι' ++ [(H2.objs.size, H2.objs.size)]) h5 := fun e6 hz => by
        obtain ⟨κ, hκ, hκ'⟩ := e6.pre
        exact ⟨⟨κ ++ [(H2.objs.size, H2.objs.size)], by rw [hκ]; simp, fun p hp => by
          rcases List.mem_append.mp hp with hp | hp
          · exact hκ' p hp
          · cases List.mem_singleton.mp hp; exact ⟨hz, hz⟩⟩, e6.size, e6.cls, e6.frz, e6.keep, e6.frm⟩
      have ap := I5.frm.apart _ I5.frm.loc
      have nL : cenv.locals ∉ own (ι' ++ [(H2.objs.size, H2.objs.size)]) := fun q => by
        rw [own_append, List.mem_append] at q
        rcases q with q | q
        · exact ap.1 q
        · have : cenv.locals = H2.objs.size := by simpa [own] using q
          rw [Lc, sz3] at this; exact absurd this (Nat.succ_ne_self _)
      have lF : cenv.locals ∉ F := fun q => by
        have z := hFF _ q
        rw [Lc] at z
        exact Nat.lt_asymm l13 z
      have Iout : Inv T A fs d env F ρ (ι' ++ [(H2.objs.size, H2.objs.size)]) (σ' ++ [.list acc]) { s' with heap := h5 } := I₁.ext (s' := { s' with heap := h5 }) (moreX f5 (Nat.le_of_lt l12)) R5 I'.gens I'.os
      refine hfin (.ref σ'.length) (σ' ++ [.list acc]) (ι' ++ [(H2.objs.size, H2.objs.size)]) { s' with heap := h5 } H2.objs.size cenv.locals (jend acc σ' j) Iout ?_ (moreX e5 hD0) ⟨nL, lF, ap.2, hl, mm, hN⟩
      exact ⟨H2.objs.size, H2.objs.size, rfl, by rw [← I5.rep.len]; simp⟩
  rw [Lc] at loop
  exact codeAny_compStart_list loop (iterSelf it4 loop)

theorem EvOk.compR {elt iter : Expr} {x : Str} {px pos : Pos} {ifs : List Expr} {scope : Scope} (hok : compOk scope sc = true) (hx : isStore scope x = true) (hs : noSet iter = true)
    (he : EvOk T d sc ρ X iter (fun v σ₁ => (T.hd = false ∨ ∃ n, v = .rng n) ∧ CompOk T d sc ρ X scope x ifs elt Q v σ₁) σ) :
    EvOk T d sc ρ X (.ListComp elt [⟨.Name x px, iter, ifs, 0⟩] scope pos) Q σ := by
  intro env A fs F ι s hsc I
  subst hsc
  rw [eval_ListComp]
  refine comp_core I hok hx hs he (fun v σ₂ ι₂ s₂ D L q I₂ rv e₂ lg => ?_) fun _ _ p => p
  obtain ⟨no, nF, hb, lo, m, hN⟩ := lg
  refine ⟨m, hN.ns, fun h' hs' => ?_⟩
  obtain ⟨o, es, ep, g1, g2, _⟩ := hN
  have I₃ : Inv T A fs d env F ρ ι₂ σ₂ { s₂ with heap := h' } := I₂.side (t := s₂.toks) hs' g1 (by simp [loose, g2]) (by simp [frozen, g2]) (by rw [g2]; simp) no nF hb
  have k : ∀ b o, b ≠ L → s₂.heap.get? b = some o → h'.get? b = some o := fun b o q e => (hs'.2 b q).trans e
  exact ⟨v, σ₂, ι₂, q, rv.mono (.but k ⟨o, g1, by simp [loose, g2], by simp [frozen, g2]⟩ ι₂), I₃.rep, e₂.free k (Nat.le_of_eq hs'.1.symm) lo, I₃.gens, I₃.os⟩

theorem EvOk.comp {elt iter : Expr} {x : Str} {px pos : Pos} {ifs : List Expr} {scope : Scope} (hok : compOk scope sc = true) (hx : isStore scope x = true) (hs : noSet iter = true)
    (he : EvOk T d sc ρ X iter (fun v σ₁ => CompOk T d sc ρ X scope x ifs elt Q v σ₁) σ) (hT : T.hd = false := by rfl) :
    EvOk T d sc ρ X (.ListComp elt [⟨.Name x px, iter, ifs, 0⟩] scope pos) Q σ := .compR hok hx hs (he.mono (fun _ _ p => ⟨.inl hT, p⟩) fun _ _ p => p)
end
end Mine

namespace Mine
open PySem PySem.Calls PyProof.Rows PySem.SeqAt

section
variable {T : Tp} {A : Around} {fs : List Env} {d : Nat} {env : Env} {F : List Addr} {ι ι' : Inj} {h h' : Heap} {s : Shared} {ρ : Loc} {σ : Hp} {sc : Scope} {X : XS} {Q : QS}

theorem swaps_yes {elt : Expr} {gens : List Comprehension} {y : Str} {py pos : Pos} {scope : Scope} {l : Nat} (hkind : env.scope.kind = .function) (hy : env.kindOf y = some .local) (hsw : (py.line == pos.line && !(scope.names.any fun (n, k) => n == y && (k == .local || k == .cell))) = true) :
    swapsWith (.ListComp elt gens scope pos) (some (.Name y py)) l env = pure true := by
  have : swapsWith (.ListComp elt gens scope pos) (some (.Name y py)) l env = (pure (env.blockKind == .function && env.kindOf y == some .local && py.line == pos.line && !(scope.names.any fun (n, k) => n == y && (k == .local || k == .cell))) : Sem Bool) := rfl
  rw [this]
  simp only [Bool.and_eq_true] at hsw
  rw [hsw.1, hsw.2, hy, show env.blockKind = .function by unfold Env.blockKind; rw [hkind]; rfl]; rfl

theorem usedComp_ok {RR : Value → Shared → Prop} {EE : Value → Shared → Prop} {y : Str} {py : Pos} {v : V} {σ₂ : Hp} {ι₂ : Inj} {s₂ : Shared} {D L : Addr} (hy : isStore env.scope y = true) (I₂ : Inv T A fs d env F ρ ι₂ σ₂ s₂) (rv : VRel T ι₂ s₂.heap v (.ref D)) (e₂ : Ext T [] ι s.heap ι₂ s₂.heap) (lg : LetGo T F ι₂ s.heap s₂.heap L)
    (k : ∀ s', Inv T A fs d env F (upd ρ y (some v)) ι₂ σ₂ s' → Ext T F ι s.heap ι₂ s'.heap → RR .none s') :
    compPost (model T.prog T.w) A EE (some (assign (.Name y py) env)) RR (.ref D) L (.ok .next) s₂ := by
  obtain ⟨no, nF, hb, lo, m, hN⟩ := lg
  show wpAny _ A (assign (.Name y py) env (.ref D)) _ _ s₂
  refine wpAny_assign_Name (store_at I₂.rep I₂.frm hy rv fun h₃ t₃ R₃ H₃ e₃ ds₃ a₃ => ?_)
  have I₃ := I₂.stored (t := t₃) R₃ H₃ e₃ ds₃
  obtain ⟨a, hs₃, ha⟩ := a₃
  have aF : a ∈ F := by
    rcases ha with rfl | ⟨ka, ca⟩
    · exact I₂.frm.loc
    · exact I₂.frm.cin y a ka ca
  have hLa : L ≠ a := fun q => nF (q ▸ aF)
  have hN₃ := hN.sameBut hs₃ hLa
  refine ⟨m, hN₃.ns, fun h₄ hs₄ => ?_⟩
  obtain ⟨o, es, ep, g1, g2, _⟩ := hN₃
  have I₄ : Inv T A fs d env F _ ι₂ σ₂ { s₂ with heap := h₄, toks := t₃ } := I₃.side (t := t₃) hs₄ g1 (by simp [loose, g2]) (by simp [frozen, g2]) (by rw [g2]; simp) no nF hb
  have kk : ∀ b o, b ≠ L → h₃.get? b = some o → h₄.get? b = some o := fun b o q e => (hs₄.2 b q).trans e
  exact k _ I₄ ((e₂.up.trans e₃).free kk (Nat.le_of_eq hs₄.1.symm) lo)

/-- x = [..], on one line, x a plain local: the model stores ahead of letting the comprehension's names go -/
theorem StOk.assignComp {elt iter : Expr} {y x : Str} {py px pos pos' : Pos} {ifs : List Expr} {scope : Scope} (hok : compOk scope sc = true) (hx : isStore scope x = true) (hs : noSet iter = true) (hy : sc.names.lookup y = some .local)
    (hsw : (py.line == pos.line && !(scope.names.any fun (n, k) => n == y && (k == .local || k == .cell))) = true)
    (he : EvOk T d sc ρ X iter (fun v σ₁ => CompOk T d sc ρ X scope x ifs elt (fun w σ => Q .next (upd ρ y (some w)) σ) v σ₁) σ) (hT : T.hd = false := by rfl) :
    StOk T d sc ρ X (.Assign [.Name y py] (.ListComp elt [⟨.Name x px, iter, ifs, 0⟩] scope pos) pos') Q σ := by
  intro env A fs F ι s hsc I
  subst hsc
  rw [exec_Assign_Name_used _ _ _ _ (swaps_yes I.frm.kind hy hsw)]
  refine wpAny_bind (wpAny_standAt (wpAny_bind ?_))
  show wpAny _ A (do let _ ← comprehension (.ListComp elt [⟨.Name x px, iter, ifs, 0⟩] scope pos) scope env _ (newList []) false (eval iter env) (some (PySem.assign (.Name y py) env))) _ _ s
  have core := comp_core (use := some (PySem.assign (.Name y py) env)) (RR := fun _ s' => PostS T A fs d env F Q ι s.heap .next s') (EE := PostSX T A fs d env F X ι s.heap) (Q := fun v σ₁ => Q .next (upd ρ y (some v)) σ₁) (pos := pos) (px := px) I hok hx hs (he.mono (fun _ _ p => ⟨.inl hT, p⟩) fun _ _ p => p)
    (fun v σ₂ ι₂ s₂ D L q I₂ rv e₂ lg => usedComp_ok (py := py) (by unfold isStore; rw [hy]) I₂ rv e₂ lg fun s' I' e' => ⟨.next, _, σ₂, ι₂, q, .next, I', e'⟩) fun _ _ p => p.sx I fun _ _ k => k
  exact wpAny_bind (wpAny_mono core (fun _ s' hq => wpAny_pure (wpAny_pure hq)) fun _ _ e => e)

/-- x = [..], x a cell: plain -/
theorem StOk.assignCell {x : Str} {pos' pos : Pos} {e : Expr} (q : EvOk T d sc ρ X e (fun v σ' => Q .next (upd ρ x (some v)) σ') σ) (hk : sc.names.lookup x = some .cell) :
    StOk T d sc ρ X (.Assign [.Name x pos'] e pos) Q σ := by
  intro env A fs F ι s hsc I
  subst hsc
  have hsw : swapsWith e (some (.Name x pos')) pos.line env = pure false := by
    have kx : env.kindOf x = some .cell := hk
    cases e <;> first | rfl | skip
    all_goals
      show (pure (env.blockKind == .function && env.kindOf x == some .local && _ && _) : Sem Bool) = pure false
      rw [kx, show (some NameKind.cell == some NameKind.local) = false from rfl, Bool.and_false, Bool.false_and, Bool.false_and]
  refine wpAny_Assign_Name (wpAny_mono (q env A fs F ι s rfl I) (fun y s₁ p => ?_) fun _ _ p => p.sx I fun _ _ k => k) hsw
  obtain ⟨v, σ₁, ι₁, q, rv, rp, ex, g, o⟩ := p
  have I₁ := I.ext ex rp g o
  refine store_ok I₁.rep I₁.frm (by unfold isStore; rw [hk]) rv fun h' t R' H' e' ds => ?_
  exact ⟨.next, _, σ₁, ι₁, q, .next, I₁.stored R' H' e' ds, ex.up.trans e'⟩
end
end Mine

namespace Mine
open PySem PySem.Calls PyProof.Rows PySem.SeqAt

section
variable {T : Tp} {d : Nat} {X : QX} {Q : QE} {σ : Hp} {A : Around} {fs : List Env} {ι : Inj} {s : Shared} {h' : Heap}

theorem VRels.one {v : V} {xs : List Value} {h : Heap} (r : VRels T ι h [v] xs) : ∃ x, xs = [x] ∧ VRel T ι h v x := by
  obtain ⟨x, r', rfl, a, b⟩ := VRels.cons_iff.mp r; cases VRels.nil_iff.mp b; exact ⟨x, rfl, a⟩
theorem VRel.bi_inv {id : String} {x : Value} {h : Heap} (r : VRel T ι h (.bi id) x) : x = .builtin id := r
theorem VRel.type_inv {id : String} {x : Value} {h : Heap} (r : VRel T ι h (.type id) x) : x = .type id := r

/-- a built-in that is called -/
noncomputable def fvV : V → Value
  | .bi id => .builtin id
  | .type n => .type n
  | _ => .none
theorem callee {f : V} {fv : Value} {h : Heap} (hf : callable f = true) (r : VRel T ι h f fv) : fv = fvV f := by
  cases f <;> first | exact (Bool.false_ne_true hf).elim | exact r
theorem CallOk.b1 {f v : V} (hf : callable f = true) (k : ∀ {A fs ι s x}, St T A fs d ι σ s → VRel T ι s.heap v x → wpAny (model T.prog T.w) A (call (fvV f) [x]) (PostE T [] Q ι s.heap) (PostX T [] X ι s.heap) s) : CallOk T d X f [v] Q σ := fun A fs ι s fv xs S rf rxs => by
  obtain ⟨x, rfl, r⟩ := rxs.one
  rw [callee hf rf]; exact k S r
theorem CallOk.b2 {f v w : V} (hf : callable f = true) (k : ∀ {A fs ι s x y}, St T A fs d ι σ s → VRel T ι s.heap v x → VRel T ι s.heap w y → wpAny (model T.prog T.w) A (call (fvV f) [x, y]) (PostE T [] Q ι s.heap) (PostX T [] X ι s.heap) s) : CallOk T d X f [v, w] Q σ := fun A fs ι s fv xs S rf rxs => by
  obtain ⟨x, y, rfl, r, r2⟩ := rxs.two
  rw [callee hf rf]; exact k S r r2
/-- a list of the mini heap, as an argument -/
inductive LstAt (T : Tp) (ι : Inj) (l : Nat) (vs : List V) (h : Heap) (x : Value) : Prop where
  | mk (a dx : Addr) (items : Array Value) (m : Nat) (e : x = .ref a) (hι : ι[l]? = some (a, dx)) (hL : IsL h a items m) (hv : VRels T ι h vs items.toList) (hs : items.size = vs.length) : LstAt T ι l vs h x
theorem Rep.lst {h : Heap} {l : Nat} {vs : List V} {x : Value} (R : Rep T ι σ h) (hl : σ[l]? = some (.list vs)) (r : VRel T ι h (.ref l) x) : LstAt T ι l vs h x := by
  obtain ⟨a, dx, rfl, hι⟩ := r.ref_inv
  obtain ⟨items, m, hL, hv⟩ := R.list_at hl hι
  exact ⟨a, dx, items, m, rfl, hι, hL, hv, size_eq hv⟩
/-- len -/
noncomputable def lenO : Option MObj → Option Nat
  | some (.list vs) => some vs.length
  | some (.sdict kvs) => some kvs.length
  | _ => none
theorem lenO_out {o : Option MObj} {n : Nat} (h : lenO o = some n) : (∃ vs, o = some (.list vs) ∧ vs.length = n) ∨ ∃ kvs, o = some (.sdict kvs) ∧ kvs.length = n := by
  rcases o with _ | o
  · exact (no_some h).elim
  · cases o <;> first | exact .inl ⟨_, rfl, sm_inj h⟩ | exact .inr ⟨_, rfl, sm_inj h⟩ | exact (no_some h).elim
noncomputable def lenV (σ : Hp) : V → Option Nat
  | .tup vs => some vs.length
  | .str x => some x.length
  | .ref l => lenO σ[l]?
  | .scr xs => some xs.length
  | _ => none
theorem len_list {l : Nat} {vs : List V} (h : σ[l]? = some (.list vs)) : lenV σ (.ref l) = some vs.length := congrArg lenO h
theorem n63 {n m : Nat} (hn : n < 2 ^ 62) (e : m = n) : (m : Int) < 2 ^ 63 := by lia
theorem n63' {n m : Nat} (hn : n < 2 ^ 62) (e : m = n) : ¬ (m : Int) ≥ 2 ^ 63 := Int.not_le.mpr (n63 hn e)
theorem CallOk.len {v : V} {n : Nat} (e : lenV σ v = some n) (hn : n < 2 ^ 62) (q : Q (.int n) σ) : CallOk T d X (.bi "len") [v] Q σ := .b1 rfl fun S r => by
  cases v <;> first | exact (no_some e).elim | skip
  · obtain ⟨t, rfl⟩ := r.str_inv
    exact len_str (n63' hn (sm_inj e)) (S.post (sm_inj e ▸ q) .int_mk _)
  · obtain ⟨a, items, m, rfl, ht, hv⟩ := r.tup_inv
    have e := (size_eq hv).trans (sm_inj e)
    exact P.len_tuple ht (n63' hn e) (S.post (e ▸ q) .int_mk _)
  · rcases lenO_out e with ⟨vs, hvs, e⟩ | ⟨kvs, hvs, e⟩
    · obtain ⟨a, dx, items, m, rfl, hι, hL, hv, hs⟩ := S.rep.lst hvs r
      have e := hs.trans e
      exact Calls.call_len_list hL.isList (n63 hn e) (S.post (e ▸ q) .int_mk _)
    · obtain ⟨a, dx, rfl, hι⟩ := r.ref_inv
      obtain ⟨rvs, hd, hv, hs⟩ := S.rep.sdict_at hvs hι
      have e := hv.length.trans e
      exact call_len_dict hs hd (n63 hn e) (S.post (e ▸ q) .int_mk _)
  · obtain ⟨a, ob, items, n, rfl, ho, hc, hd, l, hl, rfl⟩ := r
    have e : items.size = _ := (by rw [← Array.length_toList, hl, List.length_map, List.length_map] : items.size = (l.map (·.1)).length).trans (sm_inj e)
    exact Calls.call_len_list ⟨_, S.rep.base _ _ ho, hc, n, hd⟩ (n63 hn e) (S.post (e ▸ q) .int_mk _)

/-- isinstance with a plain built-in type -/
noncomputable def kindName (σ : Hp) : V → Option String
  | .none => some "NoneType"
  | .bool _ => some "bool"
  | .int _ => some "int"
  | .str _ => some "str"
  | .tup _ => some "tuple"
  | .ref l => atL (fun _ => some "list") σ[l]?
  | _ => none
noncomputable def isiV (σ : Hp) (v : V) (ty : String) : Option Bool := (kindName σ v).bind fun k => if ["list", "str", "tuple"].contains ty then some (k == ty) else none
theorem isi_k {k : String} {ty : String} {b : Bool} (hb : (k == ty) = b) (hty : ty = "list" ∨ ty = "str" ∨ ty = "tuple") {P : String → Bool → Prop} (h1 : P "list" (k == "list")) (h2 : P "str" (k == "str")) (h3 : P "tuple" (k == "tuple")) : P ty b := by
  subst hb
  rcases hty with rfl | rfl | rfl
  · exact h1
  · exact h2
  · exact h3
theorem isi_go {v : V} {ty k : String} {b : Bool} (hty : ty = "list" ∨ ty = "str" ∨ ty = "tuple") (hk : kindName σ v = some k) (hb : (k == ty) = b) (q : Q (.bool b) σ) : CallOk T d X (.bi "isinstance") [v, .type ty] Q σ := .b2 rfl fun {A fs ι s x y} S r r2 => by
  rw [VRel.type_inv r2]
  have go : ∀ {P : String → Bool → Prop}, P "list" (k == "list") → P "str" (k == "str") → P "tuple" (k == "tuple") → P ty b := fun h1 h2 h3 => isi_k hb hty h1 h2 h3
  revert q
  cases v <;> first | exact (no_some hk).elim | skip
  · cases sm_inj hk; cases r.none_inv
    refine go (P := fun ty b => Q (.bool b) σ → wpAny (model T.prog T.w) A (call (.builtin "isinstance") [_, .type ty]) (PostE T [] Q ι s.heap) (PostX T [] X ι s.heap) s) ?_ ?_ ?_
    · exact fun q => IsiPair.NoneType_list (S.post q .bool_mk _)
    · exact fun q => IsiPair.NoneType_str (S.post q .bool_mk _)
    · exact fun q => IsiPair.NoneType_tuple (S.post q .bool_mk _)
  · cases sm_inj hk; cases r.bool_inv
    refine go (P := fun ty b => Q (.bool b) σ → wpAny (model T.prog T.w) A (call (.builtin "isinstance") [_, .type ty]) (PostE T [] Q ι s.heap) (PostX T [] X ι s.heap) s) ?_ ?_ ?_
    · exact fun q => IsiPair.bool_list (S.post q .bool_mk _)
    · exact fun q => IsiPair.bool_str (S.post q .bool_mk _)
    · exact fun q => IsiPair.bool_tuple (S.post q .bool_mk _)
  · cases sm_inj hk; obtain ⟨t, rfl⟩ := r.int_inv
    refine go (P := fun ty b => Q (.bool b) σ → wpAny (model T.prog T.w) A (call (.builtin "isinstance") [_, .type ty]) (PostE T [] Q ι s.heap) (PostX T [] X ι s.heap) s) ?_ ?_ ?_
    · exact fun q => IsiPair.int_list (S.post q .bool_mk _)
    · exact fun q => IsiPair.int_str (S.post q .bool_mk _)
    · exact fun q => IsiPair.int_tuple (S.post q .bool_mk _)
  · cases sm_inj hk; obtain ⟨t, rfl⟩ := r.str_inv
    refine go (P := fun ty b => Q (.bool b) σ → wpAny (model T.prog T.w) A (call (.builtin "isinstance") [_, .type ty]) (PostE T [] Q ι s.heap) (PostX T [] X ι s.heap) s) ?_ ?_ ?_
    · exact fun q => IsiPair.str_list (S.post q .bool_mk _)
    · exact fun q => IsiPair.str_str (S.post0 q .bool_mk)
    · exact fun q => IsiPair.str_tuple (S.post q .bool_mk _)
  · cases sm_inj hk; obtain ⟨a, items, m, rfl, ht, hv⟩ := r.tup_inv
    refine go (P := fun ty b => Q (.bool b) σ → wpAny (model T.prog T.w) A (call (.builtin "isinstance") [_, .type ty]) (PostE T [] Q ι s.heap) (PostX T [] X ι s.heap) s) ?_ ?_ ?_
    · exact fun q => IsiPair.tuple_list ht rfl (S.post q .bool_mk _)
    · exact fun q => IsiPair.tuple_str ht rfl (S.post q .bool_mk _)
    · exact fun q => IsiPair.tuple_tuple ht rfl (S.post0 q .bool_mk)
  · obtain ⟨vs, hvs, hk⟩ := atL_out hk
    cases sm_inj hk
    obtain ⟨a, dx, items, m, rfl, hι, hL, hv, hs⟩ := S.rep.lst hvs r
    refine go (P := fun ty b => Q (.bool b) σ → wpAny (model T.prog T.w) A (call (.builtin "isinstance") [_, .type ty]) (PostE T [] Q ι s.heap) (PostX T [] X ι s.heap) s) ?_ ?_ ?_
    · exact fun q => IsiPair.list_list hL rfl (S.post0 q .bool_mk)
    · exact fun q => IsiPair.list_str hL rfl (S.post q .bool_mk _)
    · exact fun q => IsiPair.list_tuple hL rfl (S.post q .bool_mk _)
theorem CallOk.isi {v : V} {ty : String} {b : Bool} (e : isiV σ v ty = some b) (q : Q (.bool b) σ) : CallOk T d X (.bi "isinstance") [v, .type ty] Q σ := by
  obtain ⟨k, hk, e⟩ := Option.bind_eq_some_iff.mp e
  obtain ⟨hty, e⟩ := ite_some e
  simp only [List.contains_iff_mem, List.mem_cons, List.not_mem_nil, or_false] at hty
  exact isi_go hty hk e q

theorem CallOk.ord {c : Nat} (q : Q (.int c) σ) : CallOk T d X (.bi "ord") [.str ⟨#[c]⟩] Q σ := .b1 rfl fun S r => Exists.elim r fun _ e => e ▸ P.ord_of_char (S.post q .int_mk _)
theorem CallOk.range {n : Int} (q : Q (.rng n) σ) : CallOk T d X (.type "range") [.int n] Q σ := .b1 rfl fun S r => Exists.elim r fun _ e => e ▸ call_range_1 ⟨.rng n, σ, _, q, ⟨_, _, _, _, rfl, Heap.get?_push_size _ rfl⟩, S.rep.push _, .push .., S.gens, S.os⟩

/-- list(x) of a tuple or a list -/
noncomputable def seqV (σ : Hp) : V → Option (List V)
  | .tup vs => some vs
  | .ref l => atL some σ[l]?
  | _ => none
/-- a new list at the heap's end, made by a tree that keeps what stands -/
theorem St.madeList {vs : List V} {items : Array Value} {h' : Heap} {c' t : Nat} (S : St T A fs d ι σ s) (hz : s.heap.objs.size ≤ h'.objs.size) (k : ∀ b o', s.heap.get? b = some o' → h'.get? b = some o') (g : h'.get? s.heap.objs.size = some ⟨.type "list", Option.none, .seq items c', #[]⟩) (hv : VRels T ι s.heap vs items.toList) (q : Q (.ref σ.length) (σ ++ [.list vs])) : PostE T [] Q ι s.heap (.ref s.heap.objs.size) { s with heap := h', toks := t } := by
  have no : s.heap.objs.size ∉ own ι := fun z => absurd (S.rep.own_lt z) (Nat.lt_irrefl _)
  have e0 : Ext T [] ι s.heap ι h' := .of_keeps hz k
  have mz : Mono ι s.heap (ι ++ [(s.heap.objs.size, s.heap.objs.size)]) h' := ⟨⟨_, rfl⟩, e0.cls, e0.frz⟩
  exact ⟨.ref σ.length, _, ι ++ [(s.heap.objs.size, s.heap.objs.size)], q, ⟨s.heap.objs.size, s.heap.objs.size, rfl, by rw [← S.rep.len]; simp⟩, (S.rep.grow hz k).more (o := .list vs) (p := (s.heap.objs.size, s.heap.objs.size)) ⟨rfl, items.toList, ⟨c', g⟩, hv.mono mz⟩ S.rep.size S.rep.size no no, ⟨⟨_, rfl, by simp⟩, e0.size, e0.cls, e0.frz, e0.keep, e0.frm⟩, S.gens, S.os⟩
theorem list_go {vs : List V} {a : Addr} {ty : String} {items : Array Value} {m : Nat} (S : St T A fs d ι σ s) (hn : vs.length ≤ sizeLine) (q : Q (.ref σ.length) (σ ++ [.list vs])) (hty : ty = "list" ∨ ty = "tuple") (ho : s.heap.get? a = some ⟨.type ty, Option.none, .seq items m, #[]⟩) (hv : VRels T ι s.heap vs items.toList) :
    wpAny (model T.prog T.w) A (call (.type "list") [.ref a]) (PostE T [] Q ι s.heap) (PostX T [] X ι s.heap) s := by
  have fin : wpAny (model T.prog T.w) A (call (.type "list") [.ref a]) (fun y s' => y = .ref s.heap.objs.size ∧ ∃ h' c', s' = { s with heap := h' } ∧ (∀ b o', s.heap.get? b = some o' → h'.get? b = some o') ∧ h'.get? s.heap.objs.size = some { cls := .type "list", dict := Option.none, data := .seq items c', slots := #[] }) (PostX T [] X ι s.heap) s :=
    call_list_seq a hty ho rfl rfl (fun h' c' k g => ⟨rfl, h', c', rfl, k, g⟩) (Nat.le_trans (Nat.le_of_eq (size_eq hv)) hn)
  refine wpAny_mono (wpAny_size fin) (fun y s' p => ?_) fun _ _ p => p.1
  obtain ⟨⟨rfl, h', c', rfl, k, g⟩, hz⟩ := p
  exact S.madeList (t := s.toks) hz k g hv q
theorem CallOk.list {v : V} {vs : List V} (e : seqV σ v = some vs) (hn : vs.length ≤ sizeLine) (q : Q (.ref σ.length) (σ ++ [.list vs])) : CallOk T d X (.type "list") [v] Q σ := .b1 rfl fun S r => by
  cases v <;> first | exact (no_some e).elim | skip
  · obtain ⟨a, items, m, rfl, ht, hv⟩ := r.tup_inv
    exact list_go S hn q (.inr rfl) ht (sm_inj e ▸ hv)
  · obtain ⟨vs', hvs, e⟩ := atL_out e
    obtain ⟨a, dx, items, m, rfl, hι, hL, hv, hs⟩ := S.rep.lst hvs r
    exact list_go S hn q (.inl rfl) hL (sm_inj e ▸ hv)

end
end Mine

namespace Mine
open PySem PySem.Calls PyProof.Rows PySem.SeqAt

section
variable {T : Tp} {d : Nat} {X : QX} {Q : QE} {σ : Hp} {A : Around} {fs : List Env} {ι : Inj} {s : Shared} {h' : Heap}

/-- a list of the mini heap has been set anew in place -/
theorem St.setList {l : Nat} {vs vs' : List V} {a dx : Addr} {items : Array Value} {n t : Nat} {g : Array Value → Array Value} {v : V} {x : Value} (S : St T A fs d ι σ s) (hl : σ[l]? = some (.list vs)) (hι : ι[l]? = some (a, dx)) (hL : IsL s.heap a items n) (hv : VRels T ι s.heap vs' (g items).toList)
    (q : Q v (σ.set l (.list vs'))) (r : VRel T ι s.heap v x) : PostE T [] Q ι s.heap x { s with heap := s.heap.update a (Obj.mapSeq g), toks := t } := by
  have h2 : (s.heap.update a (Obj.mapSeq g)).get? a = some ⟨.type "list", Option.none, .seq (g items) (if (g items).size == items.size then n else n + 1), #[]⟩ := Heap.get?_update_self _ hL rfl
  obtain ⟨e1, _⟩ := S.rep.objs l _ _ hl hι
  cases e1
  obtain ⟨S', e⟩ := St.turned (t := t) (o := .list vs') S hι (Heap.SameBut.update ..) (.inl rfl) hL h2 rfl rfl fun m => ⟨rfl, (g items).toList, ⟨_, by simpa using h2⟩, hv.mono m⟩
  exact ⟨v, _, ι, q, r.mono e.mono, S'.rep, e, S.gens, S.os⟩

theorem CallOk.append {l : Nat} {v : V} {vs : List V} (hl : σ[l]? = some (.list vs)) (hn : vs.length ≤ sizeLine) (q : Q .none (σ.set l (.list (vs ++ [v])))) : CallOk T d X (.bi "list.append") [.ref l, v] Q σ := .b2 rfl fun {A fs ι s x y} S r ry => by
  obtain ⟨a, dx, items, m, rfl, hι, hL, hv, hlen⟩ := S.rep.lst hl r
  refine call_meets F.slot_list_append ⟨_, hL, rfl⟩ F.entry_list_append (F.args_list_append_2 _ _) (list_append a items m y (by (clear hι hl; lia))) ⟨hL, ?_⟩
  refine S.setList (g := fun z => z.push y) hl hι hL ?_ q .none_mk
  rw [Array.toList_push]
  exact hv.append (by exact ⟨ry, trivial⟩)

theorem VRels.snoc {h : Heap} : ∀ {vs : List V} {v : V} {xs : List Value}, VRels T ι h (vs ++ [v]) xs → ∃ ys y, xs = ys ++ [y] ∧ VRels T ι h vs ys ∧ VRel T ι h v y
  | [], v, xs, r => by obtain ⟨x, rfl, a⟩ := VRels.one r; exact ⟨[], x, rfl, trivial, a⟩
  | w :: vs, v, xs, r => by
    obtain ⟨x, r', rfl, a, b⟩ := VRels.cons_iff.mp r
    obtain ⟨ys, y, rfl, c, e⟩ := VRels.snoc b
    exact ⟨x :: ys, y, rfl, by exact ⟨a, c⟩, e⟩

theorem CallOk.pop {l : Nat} {v : V} {vs : List V} (hl : σ[l]? = some (.list (vs ++ [v]))) (hn : vs.length < sizeLine) (q : Q v (σ.set l (.list vs))) : CallOk T d X (.bi "list.pop") [.ref l] Q σ := .b1 rfl fun {A fs ι s x} S r => by
  obtain ⟨a, dx, items, m, rfl, hι, hL, hv, hlen0⟩ := S.rep.lst hl r
  obtain ⟨ys, y, hi, hy, ry⟩ := hv.snoc
  have hlen := hv.length
  simp only [Array.length_toList, List.length_append, List.length_cons, List.length_nil] at hlen
  have hsz : items.size - 1 = ys.length := by
    have : items.size = ys.length + 1 := by rw [← Array.length_toList, hi]; simp
    rw [this]; rfl
  have hlast : items[items.size - 1]? = some y := by
    rw [← Array.getElem?_toList, hi, hsz]; simp
  refine call_meets F.slot_list_pop ⟨_, hL, rfl⟩ F.entry_list_pop (F.args_list_pop_1 _) (MeetsSeq.list_pop_last a items m y hlast (by (clear hsz hlast hι hl; lia))) ⟨hL, ?_⟩
  refine S.setList (t := s.toks) (g := fun z => z.eraseIdxIfInBounds (items.size - 1)) hl hι hL ?_ q ry
  have e2 : (items.eraseIdxIfInBounds (items.size - 1)).toList = ys := by
    rw [Array.toList_eraseIdxIfInBounds, hi, hsz]
    simp [List.eraseIdx_append_of_length_le]
  rw [e2]; exact hy


theorem CallOk.extend {l k : Nat} {vs us : List V} (hl : σ[l]? = some (.list vs)) (hk : σ[k]? = some (.list us)) (hn : vs.length + us.length ≤ sizeLine) (q : Q .none (σ.set l (.list (vs ++ us)))) : CallOk T d X (.bi "list.extend") [.ref l, .ref k] Q σ := .b2 rfl fun {A fs ι s x y} S r ry => by
  obtain ⟨a, dx, items, m, rfl, hι, hL, hv, hlen⟩ := S.rep.lst hl r
  obtain ⟨b, dy, items2, m2, rfl, hιb, hL2, hv2, hlen2⟩ := S.rep.lst hk ry
  refine call_meets F.slot_list_extend ⟨_, hL, rfl⟩ F.entry_list_extend (F.args_list_extend_2 _ _) (AutoSeq1.list_extend_list_list_0 a items m b items2 m2 (fun z => by
    rw [Bool.and_eq_true] at z
    have z2 := z.2
    unfold Builtin.List.listTooLong at z2
    rw [decide_eq_true_eq] at z2; (clear z hιb hι hl hk; lia)) (by (clear hlen2 hι hιb hk hl; lia)) (by (clear hι hιb hk hl; lia))) ⟨hL, hL2, ?_⟩
  refine S.setList (g := fun z => z ++ items2) hl hι hL ?_ q .none_mk
  rw [Array.toList_append]; exact hv.append hv2

/-- the truths of a list -/
noncomputable def allB : List V → Option (List Bool)
  | [] => some []
  | .bool b :: r => (allB r).map (b :: ·)
  | _ => Option.none
theorem allB_at {h : Heap} : ∀ {vs : List V} {bs : List Bool} {xs : List Value}, allB vs = some bs → VRels T ι h vs xs → xs = bs.map Value.bool
  | [], _, xs, e, r => by cases e; exact VRels.nil_iff.mp r
  | v :: vs, bs, xs, e, r => by
    obtain ⟨x, r', rfl, a, b⟩ := VRels.cons_iff.mp r
    cases v <;> first | exact (no_some e).elim | skip
    obtain ⟨bs', e', rfl⟩ := Option.map_eq_some_iff.mp e
    cases a.bool_inv
    rw [allB_at e' b]; rfl

theorem truthsOk {prog : Program} {w : World} {A : Around} (bs : List Bool) : TruthOf prog w A (fun i v => ((bs.map Value.bool).toArray)[i]? = some v) (fun i => bs.getD i false) := fun i v s Q E hP hQ => by
  simp only [List.getElem?_toArray, List.getElem?_map, Option.map_eq_some_iff] at hP
  obtain ⟨b, hb, rfl⟩ := hP
  refine wpAny_truthy_bool ?_
  have hQ' : Q (bs.getD i false) s := hQ
  rw [List.getD_eq_getElem?_getD, hb] at hQ'
  exact hQ'
theorem range_all (bs : List Bool) : ((List.range bs.length).all fun i => bs.getD i false) = bs.all id := by
  rw [Bool.eq_iff_iff, List.all_eq_true, List.all_eq_true]
  constructor
  · intro h x hx
    obtain ⟨i, hi, rfl⟩ := List.getElem_of_mem hx
    have := h i (by simpa using hi)
    simpa [List.getD_eq_getElem?_getD, hi] using this
  · intro h i hi
    have hi' : i < bs.length := by simpa using hi
    simpa [List.getD_eq_getElem?_getD, hi'] using h bs[i] (List.getElem_mem hi')
theorem range_any (bs : List Bool) : ((List.range bs.length).any fun i => bs.getD i false) = bs.any id := by
  rw [Bool.eq_iff_iff, List.any_eq_true, List.any_eq_true]
  constructor
  · rintro ⟨i, hi, h⟩
    have hi' : i < bs.length := by simpa using hi
    exact ⟨bs[i], List.getElem_mem hi', by simpa [List.getD_eq_getElem?_getD, hi'] using h⟩
  · rintro ⟨x, hx, h⟩
    obtain ⟨i, hi, rfl⟩ := List.getElem_of_mem hx
    exact ⟨i, by simpa using hi, by simpa [List.getD_eq_getElem?_getD, hi] using h⟩

theorem CallOk.all {l : Nat} {vs : List V} {bs : List Bool} (hl : σ[l]? = some (.list vs)) (hb : allB vs = some bs) (q : Q (.bool (bs.all id)) σ) (hT : T.hd = false := by rfl) : CallOk T d X (.bi "all") [.ref l] Q σ := .b1 rfl fun {A fs ι s x} S r => by
  obtain ⟨a, dx, items, m, rfl, hι, hL, hv, hlen0⟩ := S.rep.lst hl r
  have hitems : items = (bs.map Value.bool).toArray := by rw [← allB_at hb hv]
  subst hitems
  have hne : a ≠ s.heap.objs.size := Nat.ne_of_lt (Heap.lt_size hL)
  have fin : wpAny (model T.prog T.w) A (call (.builtin "all") [.ref a]) (fun y s' => y = .bool (bs.all id) ∧ ∃ h' c', s' = { s with heap := h', toks := c' } ∧ (∀ b o', s.heap.get? b = some o' → h'.get? b = some o')) (PostX T [] X ι s.heap) s := by
    refine call_all_walk (wpAny_pyIter_list hL.isList ?_)
    refine ⟨s.heap.objs.size, _, _, _, _, _, _, rfl, Walks.list (A := A.in1) (S.aok.hd hT) s.heap.objs.size a hne _, ⟨⟨_, Heap.get?_push_size _ rfl, rfl, rfl⟩, hL.isList.push _⟩, truthsOk bs, fun h' tk k => ⟨?_, h', tk, rfl, fun b o hb => k b o (by simpa using Nat.ne_of_lt (Heap.lt_size hb)) (Heap.get?_push_of_some _ hb)⟩⟩
    rw [List.size_toArray, List.length_map, range_all]
  refine wpAny_mono (wpAny_size fin) (fun y s' p => ?_) fun _ _ p => p.1
  obtain ⟨⟨rfl, h', c', rfl, k⟩, hz⟩ := p
  exact S.grown hz k q .bool_mk

theorem CallOk.any {l : Nat} {vs : List V} {bs : List Bool} (hl : σ[l]? = some (.list vs)) (hb : allB vs = some bs) (q : Q (.bool (bs.any id)) σ) (hT : T.hd = false := by rfl) : CallOk T d X (.bi "any") [.ref l] Q σ := .b1 rfl fun {A fs ι s x} S r => by
  obtain ⟨a, dx, items, m, rfl, hι, hL, hv, hlen0⟩ := S.rep.lst hl r
  have hitems : items = (bs.map Value.bool).toArray := by rw [← allB_at hb hv]
  subst hitems
  have hne : a ≠ s.heap.objs.size := Nat.ne_of_lt (Heap.lt_size hL)
  have fin : wpAny (model T.prog T.w) A (call (.builtin "any") [.ref a]) (fun y s' => y = .bool (bs.any id) ∧ ∃ h' c', s' = { s with heap := h', toks := c' } ∧ (∀ b o', s.heap.get? b = some o' → h'.get? b = some o')) (PostX T [] X ι s.heap) s := by
    refine call_any_walk (wpAny_pyIter_list hL.isList ?_)
    refine ⟨s.heap.objs.size, _, _, _, _, _, _, rfl, Walks.list (A := A.in1) (S.aok.hd hT) s.heap.objs.size a hne _, ⟨⟨_, Heap.get?_push_size _ rfl, rfl, rfl⟩, hL.isList.push _⟩, truthsOk bs, fun h' tk k => ⟨?_, h', tk, rfl, fun b o hb => k b o (by simpa using Nat.ne_of_lt (Heap.lt_size hb)) (Heap.get?_push_of_some _ hb)⟩⟩
    rw [List.size_toArray, List.length_map, range_any]
  refine wpAny_mono (wpAny_size fin) (fun y s' p => ?_) fun _ _ p => p.1
  obtain ⟨⟨rfl, h', c', rfl, k⟩, hz⟩ := p
  exact S.grown hz k q .bool_mk

/-- the texts of a list -/
noncomputable def allS : List V → Option (List Str)
  | [] => some []
  | .str b :: r => (allS r).map (b :: ·)
  | _ => Option.none
theorem allS_at {h : Heap} : ∀ {vs : List V} {bs : List Str} {xs : List Value}, allS vs = some bs → VRels T ι h vs xs → ∃ l : List (Str × Tok), xs = strValues l ∧ l.map (·.1) = bs ∧ StrsAre xs bs
  | [], _, xs, e, r => by cases e; cases VRels.nil_iff.mp r; exact ⟨[], rfl, rfl, .nil⟩
  | v :: vs, bs, xs, e, r => by
    obtain ⟨x, r', rfl, a, b⟩ := VRels.cons_iff.mp r
    cases v <;> first | exact (no_some e).elim | skip
    obtain ⟨bs', e', rfl⟩ := Option.map_eq_some_iff.mp e
    obtain ⟨t, rfl⟩ := a.str_inv
    obtain ⟨l, rfl, rfl, k⟩ := allS_at e' b
    exact ⟨(_, t) :: l, rfl, rfl, .cons _ _ k⟩

theorem CallOk.join {sep : Str} {l : Nat} {vs : List V} {bs : List Str} (hl : σ[l]? = some (.list vs)) (hb : allS vs = some bs) (hw : (bs.map (·.length)).sum + bs.length ≤ 1048576) (hs : sep.length ≤ 16) (q : Q (.str (Txt.join sep bs)) σ) : CallOk T d X (.bi "str.join") [.str sep, .ref l] Q σ := .b2 rfl fun {A fs ι s x y} S r ry => by
  obtain ⟨t, rfl⟩ := r.str_inv
  obtain ⟨a, dx, items, m, rfl, hι, hL, hv, hlen0⟩ := S.rep.lst hl ry
  obtain ⟨ll, h1, h2, _⟩ := allS_at hb hv
  have : items = (strValues ll).toArray := by rw [← h1]
  subst this
  exact SC.join hL.isList h2 (joinOk_of_weight hw hs) fun t' k => S.post q .str_mk _

end
end Mine

namespace Mine
open PySem PySem.Calls PyProof.Rows PySem.SeqAt


section
variable {T : Tp} {A : Around} {fs : List Env} {d : Nat} {env : Env} {F : List Addr} {ι : Inj} {s : Shared} {ρ : Loc} {σ : Hp} {sc : Scope} {X : QX} {Q : QE}


end
end Mine

namespace Mine
open PySem PySem.Calls PyProof.Rows PySem.SeqAt

noncomputable def biTab : List (Str × V) := [("len", .bi "len"), ("isinstance", .bi "isinstance"), ("ord", .bi "ord"), ("all", .bi "all"), ("any", .bi "any"), ("min", .bi "min"), ("sorted", .bi "sorted"), ("reversed", .type "reversed"),
  ("list", .type "list"), ("tuple", .type "tuple"), ("str", .type "str"), ("int", .type "int"), ("range", .type "range"), ("bool", .type "bool"), ("ValueError", .type "ValueError")]
noncomputable def gvV (x : Str) : Value → Option V
  | .int i _ => some (.int i)
  | .str s _ => some (.str s)
  | .ref _ => some (.glob x)
  | _ => none
noncomputable def gvO (x : Str) : Option (Option Value) → Option V
  | some (some y) => gvV x y
  | some none => biTab.lookup x
  | none => none
noncomputable def gvOf (K : PySem.W.Frag) (x : Str) : Option V := gvO x (PySem.W.nsIn K mainGlobals x)

theorem biTab_boot : (biTab.all fun p => match p.2 with
    | .bi id => bootBuiltins p.1 == some (.builtin id)
    | .type n => bootBuiltins p.1 == some (.type n)
    | _ => false) = true := by decide +kernel
theorem biTab_name : (biTab.all fun p => !(p.1 == ("__name__" : Str))) = true := by decide +kernel

noncomputable def tpOf (prog : Program) (w : World) (s : Shared) (K : PySem.W.Frag) : Tp := ⟨prog, w, s.heap, s.os, K, gvOf K, false⟩

theorem topOk_of {prog p : Program} {w : World} {s : Shared} {K : PySem.W.Frag} {loose : List Str} {mg mb : Str → Option Value} (TR : PySem.W.TopRead p loose mg mb s.heap) (X : K.In s.heap) : TopOk (tpOf prog w s K) where
  X0 := X
  lim := TR.nolimit
  own := fun x C bmB newId e q => ⟨mg, PySem.W.own_of_in X TR e q⟩
  gl := fun x v e => by
    have e' : gvOf K x = some v := e
    unfold gvOf at e'
    rcases hn : PySem.W.nsIn K mainGlobals x with _ | _ | y <;> rw [hn] at e'
    · cases e'
    rotate_left
    · have hb := PySem.W.mg_of X TR.g hn
      refine ⟨_, mg, mb, TR.g, TR.b, .inl hb, ?_⟩
      cases y <;> first | exact (no_some e').elim | skip
      · cases e'; exact .int_mk
      · cases e'; exact .str_mk
      · cases e'
        show Tp.g _ _ = _; unfold Tp.g
        show (PySem.W.nsIn K mainGlobals x).join = _
        rw [hn]; rfl
    · have hm := mem_of_lookup e'
      have h1 := List.all_eq_true.mp biTab_boot _ hm
      have h2 := List.all_eq_true.mp biTab_name _ hm
      have hx : x ≠ "__name__" := by simpa using h2
      cases v <;> first | (cases h1; done) | skip
      · refine ⟨_, mg, mb, TR.g, TR.b, .inr ⟨PySem.W.mg_none_of X TR.g hn, (TR.builtins x hx).trans (beq_iff_eq.mp h1)⟩, ?_⟩
        rfl
      · refine ⟨_, mg, mb, TR.g, TR.b, .inr ⟨PySem.W.mg_none_of X TR.g hn, (TR.builtins x hx).trans (beq_iff_eq.mp h1)⟩, ?_⟩
        rfl

theorem start {prog p : Program} {w : World} {s : Shared} {K : PySem.W.Frag} {loose : List Str} {mg mb : Str → Option Value} {fa a la : Addr} {xs : List Int} {l : List (Int × Tok)} {o : Obj} {items : Array Value} {n : Nat} {name : Str}
    (TR : PySem.W.TopRead p loose mg mb s.heap) (X : K.In s.heap) (hg : s.gens = #[]) (hb : ∃ b o, K.lookup b = some o ∧ 10 ≤ b) (hmg : mg name = some (.ref fa)) (hK : PySem.W.nsIn K mainGlobals name = some (some (.ref a)))
    (ho : s.heap.get? la = some o) (hc : o.cls = .type "list") (hd : o.data = .seq items n) (hl : items.toList = l.map (fun p => Value.int p.1 p.2)) (hx : l.map (·.1) = xs)
    (h : CallOk (tpOf prog w s K) 690 (fun _ _ => False) (.glob name) [.scr xs] (fun v _ => v = .bool true) []) :
    wpAny (model prog w) callerA (call (.ref fa) [.ref la]) (fun v s' => v = .bool true ∧ (∀ b o, s.heap.get? b = some o → s'.heap.get? b = some o) ∧ s'.os = s.os ∧ s'.gens = #[]) (fun _ _ => False) s := by
  have hfa := PySem.W.mg_of X TR.g hK
  rw [hmg] at hfa; cases hfa
  have hbig : 10 ≤ s.heap.objs.size := by
    obtain ⟨b, o, e, h10⟩ := hb
    exact Nat.le_of_lt (Nat.lt_of_le_of_lt h10 (Heap.lt_size (X _ _ e)))
  have S : St (tpOf prog w s K) callerA [] 690 [] [] s := by
    have R : Rep (tpOf prog w s K) [] [] s.heap := { len := rfl, big := hbig, size := Nat.le_refl _, base := fun _ _ e => e, objs := fun l o p e => by simp at e, fresh := fun p hp => (by cases hp), apart := fun i j p q e => by simp at e }
    exact ⟨R, ⟨rfl, fun e he => (by cases he), by decide, by decide, fun _ => rfl, .none rfl⟩, hg, rfl⟩
  have rf : VRel (tpOf prog w s K) [] s.heap (.glob name) (.ref fa) := by
    show Tp.g _ _ = _; unfold Tp.g
    show (PySem.W.nsIn K mainGlobals name).join = _
    rw [hK]; rfl
  have rx : VRels (tpOf prog w s K) [] s.heap [.scr xs] [.ref la] := by
    refine ⟨?_, trivial⟩
    exact ⟨la, o, items, n, rfl, ho, hc, hd, l, hl, hx⟩
  refine wpAny_mono (h callerA [] [] s (.ref fa) [.ref la] S rf rx) (fun v s' p => ?_) fun e s' p => ?_
  · obtain ⟨v', σ', ι', rfl, rv, rp, ex, g, oo⟩ := p
    cases rv.bool_inv
    exact ⟨rfl, rp.base, oo, g⟩
  · obtain ⟨_, _, _, _, _, f, _⟩ := p
    exact f.elim

theorem finish {M : Model} {A : Around} {t : Sem Value} {c : PySem.W.ClaimW} {cl : Str → Option Addr} {mean : ExcName → Option Value} {args : List PySem.W.WData} {s : Shared} (hn : ∀ cls, c.raises args cls = false) (hp : c.post args (.bool true) args = true)
    (h : wpAny M A t (fun v s' => v = .bool true ∧ (∀ b o, s.heap.get? b = some o → s'.heap.get? b = some o) ∧ s'.os = s.os ∧ s'.gens = #[]) (fun _ _ => False) s) :
    wpAny M A t (fun v s' => PySem.W.GoodWG c cl mean args s (.ok (.ret v)) s') (fun e s' => PySem.W.GoodWG c cl mean args s (.error e) s') s := by
  refine wpAny_mono h (fun v s' p => ?_) fun e s' p => p.elim
  obtain ⟨rfl, k, o, g⟩ := p
  exact PySem.W.GoodW.toG ⟨.inl ⟨_, .bool true, [], rfl, hn, .bool true, hp, fun _ => ⟨List.nodup_nil, fun a ha => by cases ha⟩⟩, k, o, g⟩

theorem ints_pairs {vs : List Value} {xs : List Int} (h : IntsAre vs xs) : ∃ l : List (Int × Tok), vs = l.map (fun p => Value.int p.1 p.2) ∧ l.map (·.1) = xs := by
  induction h with
  | nil => exact ⟨[], rfl, rfl⟩
  | cons n t _ ih => obtain ⟨l, rfl, rfl⟩ := ih; exact ⟨(n, t) :: l, rfl, rfl⟩
end Mine

namespace Mine
open PySem PySem.Calls PyProof.Rows PySem.SeqAt

section
variable {T : Tp} {d : Nat} {sc : Scope} {ρ : Loc} {X : QX} {Q : QE} {σ : Hp} {x y : Int} {a b : V} {s t : Str}
end

end Mine

namespace Mine
open PySem PySem.Calls PyProof.Rows PySem.SeqAt

section
variable {T : Tp} {d : Nat} {X : QX} {Q : QE} {σ : Hp}
theorem m_join : MethFacts "str" "join" "str.join" := ⟨F.plainAttrs_str, F.slot_str_join, F.type_str_join⟩
theorem m_append : MethFacts "list" "append" "list.append" := ⟨F.plainAttrs_list, F.slot_list_append, F.type_list_append⟩
theorem m_pop : MethFacts "list" "pop" "list.pop" := ⟨F.plainAttrs_list, F.slot_list_pop, F.type_list_pop⟩
theorem m_extend : MethFacts "list" "extend" "list.extend" := ⟨F.plainAttrs_list, F.slot_list_extend, F.type_list_extend⟩

end

section
variable {T : Tp} {d : Nat} {sc : Scope} {ρ : Loc} {X : XS} {Q : QS} {σ : Hp}
/-- a, b = (.., ..): the model stores the last first -/
theorem VRel.pair_use {T : Tp} {ι : Inj} {h : Heap} {p q : V} {x : Value} {P : Prop} (r : VRel T ι h (.tup [p, q]) x) (k : ∀ (ad : Addr) (items : Array Value) (n : Nat) (y₁ y₂ : Value), x = .ref ad → IsT h ad items n → items.toList = [y₁, y₂] → VRel T ι h p y₁ → VRel T ι h q y₂ → P) : P := by
  obtain ⟨ad, items, n, hx, hT, hv⟩ := r.tup_inv
  obtain ⟨y₁, r₁, e₁, v₁, hv⟩ := VRels.cons_iff.mp hv
  obtain ⟨y₂, r₂, rfl, v₂, hv⟩ := VRels.cons_iff.mp hv
  cases VRels.nil_iff.mp hv
  exact k _ _ _ _ _ hx hT e₁ v₁ v₂
end
end Mine

namespace Mine
open PySem PySem.Calls PyProof.Rows PySem.SeqAt

section
variable {T : Tp} {d : Nat} {sc : Scope} {ρ : Loc} {X : QX} {Q : QE} {σ : Hp}
theorem EvOk.nm {x : Str} {pos : Pos} {v : V} (hv : ρ x = some v) (hk : isVar sc x = true) (ho : scOk sc = true) (h : Q v σ) : EvOk T d sc ρ X (.Name x pos) Q σ := EvOk.var h hv hk ho
theorem EvOk.ix {value slice : Expr} {pos : Pos} (ns : notSlice slice = true) (h : EvOk T d sc ρ X value (fun o σ₁ => EvOk T d sc ρ X slice (fun i σ₂ => itemVC o i Q σ₂) σ₁) σ) : EvOk T d sc ρ X (.Subscript value slice pos) Q σ := EvOk.item h ns
theorem i_tup {vs : List V} {k : Int} {j : Nat} {v : V} (e1 : seqIndex? k vs.length = some j) (e2 : vs[j]? = some v) (e3 : decide (-(2 ^ 63) ≤ k ∧ k < 2 ^ 63) = true) (q : Q v σ) : itemVC (.tup vs) (.int k) Q σ := ⟨v, .tup _ _ j v e1 e2 (of_decide_eq_true e3 : -(2 ^ 63) ≤ k ∧ k < 2 ^ 63), q⟩
theorem i_list {l : Nat} {vs : List V} {k : Int} {j : Nat} {v : V} (e0 : σ[l]? = some (.list vs)) (e1 : seqIndex? k vs.length = some j) (e2 : vs[j]? = some v) (e3 : sm63 k) (q : Q v σ) : itemVC (.ref l) (.int k) Q σ := ⟨v, .list _ vs _ j v e0 e1 e2 e3, q⟩
end
section
variable {T : Tp} {d : Nat} {sc : Scope} {ρ : Loc} {X : XS} {Q : QS} {σ : Hp}
end
end Mine

namespace Mine
open PySem PySem.Calls PyProof.Rows PySem.SeqAt

/-- the address b lies within the heap and holds nothing -/
noncomputable def Dead (b : Addr) (h : Heap) : Prop := b < h.objs.size ∧ h.get? b = none
theorem Dead.update {b a : Addr} {h : Heap} {f : Obj → Obj} (x : Dead b h) (e : (h.get? a).isSome = true) : Dead b (h.update a f) := by
  refine ⟨by rw [Heap.size_after_update]; exact x.1, ?_⟩
  have : a ≠ b := fun q => by rw [q, x.2] at e; cases e
  rw [Heap.get?_update_other _ _ this]; exact x.2
theorem Dead.push {b : Addr} {h : Heap} {o : Obj} (x : Dead b h) : Dead b (h.push o) := by
  refine ⟨by rw [Heap.size_push]; exact Nat.lt_succ_of_lt x.1, ?_⟩
  rw [Heap.get?_push_ne _ _ _ (Nat.ne_of_lt x.1)]; exact x.2
theorem wpAny_dead {α : Type} {M : Model} {A : Around} {m : Sem α} {Q : α → Shared → Prop} {E : Value → Shared → Prop} {s : Shared} (h : wpAny M A m Q E s) :
    wpAny M A m (fun a s' => Q a s' ∧ ∀ b, Dead b s.heap → Dead b s'.heap) (fun a s' => E a s' ∧ ∀ b, Dead b s.heap → Dead b s'.heap) s :=
  wpAny_keep (P := fun h => ∀ b, Dead b s.heap → Dead b h) ⟨fun _ _ _ e x b hb => (x b hb).update e, fun _ _ x b hb => (x b hb).push⟩ (fun _ hb => hb) h
end Mine

namespace Mine
open PySem PySem.Calls PyProof.Rows PySem.SeqAt

section
variable {T : Tp} {d : Nat} {sc : Scope} {ρ : Loc} {X : XS} {Q : QS} {σ : Hp}
/-- an own exception's class, in the heap -/
inductive ExcO (h : Heap) (C : Addr) : Prop where
  | mk (bm : List Value) (N : Addr) (nm q : Str) (bs : List Value) (hdct : Bool) (sn : List Str) (sub : List Value) (ab : Bool) (col : Option Bool) (dd : Option Addr) (k0 k1 k2 k3 k5 : Option Value) (mN : Str → Option Value) (hC : h.get? C = some (excClassObj nm q C N bs bm hdct sn sub ab col dd k0 k1 k2 k3 k5 "ValueError.__new__")) (hN : h.Ns N mN) (hni : mN "__init__" = none) (tl : OwnTail h [.type "ValueError", .type "Exception", .type "BaseException", .type "object"] bm) : ExcO h C
theorem ExcO.of {h : Heap} {x : Str} {C : Addr} {mg : Str → Option Value} (O : OwnCls x C [.type "ValueError", .type "Exception", .type "BaseException", .type "object"] "ValueError.__new__" mg h) : ExcO h C := by
  obtain ⟨bm, N, nm, q, bs, hdct, sn, sub, ab, col, dd, k0, k1, k2, k3, k5, mN, hC, hN, hni, tl⟩ := O.obj
  exact ⟨bm, N, nm, q, bs, hdct, sn, sub, ab, col, dd, k0, k1, k2, k3, k5, mN, hC, hN, hni, tl⟩
/-- what a raise leaves -/
inductive Made (T : Tp) (C : Addr) (h : Heap) (v : Value) (s' : Shared) : Prop where
  | mk (e : Addr) (vs : List Value) (h0 : v = .ref e) (m : Heap.MadeExcOf h s'.heap e (.ref C) vs) (g : s'.gens = #[]) (o : s'.os = T.os) : Made T C h v s'
/-- raise X(arg), X an own class over ValueError -/
theorem StOk.raise {x txt : Str} {np cpos pos apos : Pos} {kk : Nat} {C : Addr} (TO : TopOk T) (hg : T.gv x = some (.glob x)) (hk : sc.names.lookup x = some .globalImplicit) (ho : scOk sc = true)
    (hn : PySem.W.nsIn T.K mainGlobals x = some (some (.ref C))) (hc : T.c x = some C) (hx : PySem.W.excIn T.K C [.type "ValueError", .type "Exception", .type "BaseException", .type "object"] "ValueError.__new__" = true)
    (hX : X x σ) (hT : T.hd = false := by rfl) : StOk T d sc ρ X (.Raise (some (.Call (.Name x np) [.Constant (.str txt) kk apos] [] cpos)) Option.none pos) Q σ := by
  intro env A fs F ι s hsc I
  have kb := I.rep.base
  have core : wpAny (model T.prog T.w) A (exec (.Raise (some (.Call (.Name x np) [.Constant (.str txt) kk apos] [] cpos)) Option.none pos) env) (PostS T A fs d env F Q ι s.heap) (Made T C s.heap) s := by
    have ns : noStar [Expr.Constant (.str txt) kk apos] = true := rfl
    have NN : ∀ {R : Value → Shared → Prop} {E : Value → Shared → Prop}, R (.ref C) s → wpAny (model T.prog T.w) A (eval (.Name x np) env) R E s := fun {R E} k => by
      obtain ⟨V, mg, mb, n1, n2, hm, r⟩ := TO.gl x _ hg
      rw [← show V = .ref C from sm_inj (r.symm.trans (refO_out hc))] at k
      refine Name_function_global I.frm.kind ((congrArg (fun z => z.names.lookup x) hsc).trans hk) ?_ (not_debug ho hk).1
      have N1 := n1.keeps kb
      rw [← I.frm.glb] at N1
      rcases hm with hm | ⟨hm, hb⟩
      · exact loadGlobal_global N1 hm k
      · have N2 := n2.keeps kb
        rw [← I.frm.blt] at N2
        exact loadGlobal_builtin N1 hm N2 hb k
    obtain ⟨bm, N, nm, q, bs, hdct, sn, sub, ab, col, dd, k0, k1, k2, k3, k5, mN, hC, hN, hni, tl⟩ := Exists.elim (TO.own x C _ _ hn hx) fun _ O => ExcO.of O
    refine wpAny_Raise_call_subT (C := C) (N := N) (nm := nm) (q := q) (bs := bs) (hdct := hdct) (sn := sn) (sub := sub) (ab := ab) (col := col) (dd := dd) (k0 := k0) (k1 := k1) (k2 := k2) (k3 := k3) (k5 := k5) PySem.F.excBase_ValueError (mN := mN) (tl.hasType (by decide +kernel)) (I.aok.hd hT) (by rw [starEach_eq ns]; rfl) hni (NN ⟨rfl, ?_⟩)
    rw [starEach_eq ns]
    refine evalArgs_list (spliced_cons (wpAny_Constant_str ?_))
    exact spliced_nil ⟨rfl, by simp [sizeLine_eq], kb _ _ hC, hN.keeps kb, tl.keeps kb, fun h' e m => ⟨e, _, rfl, m, I.gens, I.os⟩⟩
  refine wpAny_mono (wpAny_dead core) (fun _ _ p => p.1) fun v s' p => ?_
  obtain ⟨⟨e, vs, rfl, m, g, o⟩, dead⟩ := p
  obtain ⟨tt, he, htn, ht⟩ := m.there
  have hge : s.heap.objs.size ≤ e := Nat.not_lt.mp fun hlt => by
    have := (dead e ⟨hlt, m.new⟩).2
    rw [he] at this; cases this
  have hz : s.heap.objs.size ≤ s'.heap.objs.size := Nat.le_trans hge (Nat.le_of_lt (Heap.lt_size he))
  have e0 : Ext T F ι s.heap ι s'.heap := .of_keeps hz m.keeps
  have I₃ := I.grown hz m.keeps
  have hno : e ∉ own ι := fun q => absurd (I.rep.own_lt q) (Nat.not_lt.mpr hge)
  exact ⟨e, x, ρ, σ, ι, rfl, hX, ⟨C, _, _, _, ⟨hT, hc⟩, hge, he, rfl, rfl, by simp, rfl, rfl, .inl rfl⟩, hno, ⟨I₃.rep, I₃.aok, I₃.frm, I₃.top, g, o⟩, e0⟩
end
end Mine

set_option maxRecDepth 100000
namespace Mine
open PySem PySem.Calls PyProof.Rows PySem.SeqAt PySem.W PySem.Spec Builtin Builtin.ObjectAttr Builtin.Getset_descriptor

/-- what the fragment says of an own exception class -/
noncomputable def excK (K : Frag) (C : Addr) : Bool := (clsIn K C).isSome && findIn K (.ref C) "__getattribute__" == some (some (.builtin "BaseException.__getattribute__")) && findIn K (.ref C) "__getattr__" == some none &&
  findIn K (.ref C) "__class__" == some (some (.builtin "object.__class__")) && mroIn K C (.type "BaseException") == some true && mroIn K C (.type "object") == some true

section
variable {prog : Program} {w : World} {A : Around} {E : Value → Shared → Prop} {h : Heap} {g : Array GenState} {d : Drawn} {t : Nat} {os : OsState} {K : Frag} {a C : Addr} {o : Obj}
theorem excK.of (e : excK K C = true) : (clsIn K C).isSome = true ∧ findIn K (.ref C) "__getattribute__" = some (some (.builtin "BaseException.__getattribute__")) ∧ findIn K (.ref C) "__getattr__" = some none ∧
    findIn K (.ref C) "__class__" = some (some (.builtin "object.__class__")) ∧ mroIn K C (.type "BaseException") = some true ∧ mroIn K C (.type "object") = some true := by
  simp only [excK, Bool.and_eq_true, beq_iff_eq] at e
  obtain ⟨⟨⟨⟨⟨a, b⟩, c⟩, d⟩, e⟩, f⟩ := e
  exact ⟨a, b, c, d, e, f⟩
theorem looks_ty {M : Model} (hx : h.get? a = some o) (hc : o.cls = .ref C) : Looks M h (typeOf (.ref a)) (.ref C) := by
  intro A Q E s k q
  unfold typeOf
  refine wpAny_bind (wpAny_loadPart (k _ _ hx) (wpAny_pure ?_))
  rw [hc]; exact q
theorem exc_get {R : Result → Shared → Prop} {tp : Value} (X : K.In h) (hx : h.get? a = some o) (hc : o.cls = .ref C) (hm : mroIn K C (.type "object") = some true) (hq : R (.ok (.ret (.ref C))) ⟨h, g, d, t, os⟩) :
    codeAny (model prog w) A (.call (.builtin "getset_descriptor.__get__") ⟨[.builtin "object.__class__", .ref a, tp], []⟩) R ⟨h, g, d, t, os⟩ := by
  have L0 := looks_ty (M := model prog w) hx hc
  have L1 := looks_mroIn (M := model prog w) X hm
  refine codeAny_call_builtin KF.slot_gs.plain KF.entry_gs (KF.slot_gs.check _ _ _ _ _ _ _ _ KF.type_class (KF.args_gs _ _ _) ?_)
  unfold Builtin.«getset_descriptor.__get__» descrGet
  rw [dga_obj]
  refine wpAny_bind (wpAny_pure ?_)
  unfold descrGetter descrCheckInstance descrNameAndClass isInstance
  simp only [KF.owner_class]
  repeat lk
  refine ⟨Code.quiet_builtin _ (by decide +kernel), codeAny_builtin KF.entry_class ?_⟩
  unfold Builtin.«object.__class__» shownTypeOf
  repeat lk
  exact hq
theorem exc_check {M : Model} {nameV : Value} {Q : Unit → Shared → Prop} (X : K.In h) (e : excK K C = true) (hx : h.get? a = some o) (hc : o.cls = .ref C) (hq : Q () ⟨h, g, d, t, os⟩) :
    wpAny M A (checkBuiltinCall "BaseException.__getattribute__" ⟨[.ref a, nameV], []⟩) Q E ⟨h, g, d, t, os⟩ := by
  have hk : builtinKind "BaseException.__getattribute__" = some .slot := by decide +kernel
  have hsplit : splitId "BaseException.__getattribute__" = some ("BaseException", "__getattribute__") := by decide +kernel
  have L0 := looks_ty (M := M) hx hc
  have L1 := looks_mroIn (M := M) X (excK.of e).2.2.2.2.1
  have ha := F.args_bexc_ga (.ref a) nameV
  simp only [checkBuiltinCall, hk, hsplit]
  refine wpAny_bind ?_
  unfold isInstance
  refine wpAny_bind (L0.at (L1.at ?_))
  repeat (first | assumption | wp_step)
theorem exc_entry {tk : Tok} {Q : Fin → Shared → Prop} (X : K.In h) (e : excK K C = true) (hx : h.get? a = some o) (hc : o.cls = .ref C) (hq : Q (.done (.ret (.ref C))) ⟨h, g, d, t, os⟩) :
    wpAny (model prog w) A (Builtin.«object.__getattribute__» ⟨[.ref a, .str "__class__" tk], []⟩) Q E ⟨h, g, d, t, os⟩ := by
  have hT5 : (⟨h, g, d, t, os⟩ : Shared).TypeIs (.builtin "object.__class__") "getset_descriptor" := F.typeOf_object_class
  have f5 := F.typeOf_object_class
  have f6 := F.slot_gs_get.lookup
  have f7 := F.slot_gs_set.lookup
  have L2 := looks_findIn (M := model prog w) X (excK.of e).2.2.2.1
  repeat (any_goals (first | assumption | (with_reducible refine wpAny_loadPart_at hx ?_; rw [hc]) | with_reducible refine L2.at ?_ | wp_step))
  refine exc_get X hx hc (excK.of e).2.2.2.2.2 ?_
  repeat (any_goals (first | assumption | wp_step))
theorem exc_call {tk : Tok} {R : Result → Shared → Prop} (X : K.In h) (e : excK K C = true) (hx : h.get? a = some o) (hc : o.cls = .ref C) (hq : R (.ok (.ret (.ref C))) ⟨h, g, d, t, os⟩) :
    codeAny (model prog w) A (.call (.builtin "BaseException.__getattribute__") ⟨[.ref a, .str "__class__" tk], []⟩) R ⟨h, g, d, t, os⟩ :=
  codeAny_call_builtin F.attrBase_ValueError.ga.plain F.entry_bexc_ga (exc_check X e hx hc (exc_entry X e hx hc hq))
theorem exc_by {tk : Tok} {Q : Value → Shared → Prop} (X : K.In h) (e : excK K C = true) (hx : h.get? a = some o) (hc : o.cls = .ref C) (hq : Q (.ref C) ⟨h, g, d, t, os⟩) :
    wpAny (model prog w) A (getAttrBy (.ref a) (.str "__class__" tk) false) Q E ⟨h, g, d, t, os⟩ := by
  have f3 := F.attrBase_ValueError.ga.bind (.ref a)
  have hx2 : (Value.builtin "BaseException.__getattribute__" == Value.builtin "object.__getattribute__") = false := by decide +kernel
  have hx1 : (onTheHeap (Value.ref C) && Value.builtin "BaseException.__getattribute__" == Value.builtin "object.__getattribute__") = false := by rw [hx2]; rfl
  have L1 := looks_findIn (M := model prog w) X (excK.of e).2.1
  have L2 := looks_findIn (M := model prog w) X (excK.of e).2.2.1
  repeat (any_goals (first | assumption | (with_reducible refine wpAny_loadPart_at hx ?_; rw [hc]) | with_reducible refine L1.at ?_ | with_reducible refine L2.at ?_ | wp_step))
  refine exc_call X e hx hc ?_
  repeat (any_goals (first | assumption | wp_step))
theorem exc_attr {Q : Option Value → Shared → Prop} (X : K.In h) (e : excK K C = true) (hx : h.get? a = some o) (hc : o.cls = .ref C) (hq : Q (some (.ref C)) ⟨h, g, d, t + 1, os⟩) :
    wpAny (model prog w) A (getAttr? (.ref a) "__class__") Q E ⟨h, g, d, t, os⟩ := by
  unfold getAttr? getAttrBy?
  repeat (any_goals (first | assumption | with_reducible apply exc_by X e hx hc | wp_step))
theorem exc_kit (e : excK K C = true) : KitX K (.ref a) (.ref C) (fun h => ∃ o, h.get? a = some o ∧ o.cls = .ref C) where
  ty := fun _ _ _ p => let ⟨_, hx, hc⟩ := p; looks_ty hx hc
  it := fun _ _ X _ => by
    have hcD := (excK.of e).1
    unfold clsIn at hcD
    split at hcD
    · rename_i c' d' cd' sl' ho
      intro A' Q' E' s' k q
      unfold isType loadHead
      exact wpAny_bind (wpAny_loadPart (k _ _ (X _ _ ho)) (wpAny_pure q))
    · cases hcD
  ne := fun h tp dd its n sl X htp => by
    have hcD := (excK.of e).1
    refine Bool.eq_false_iff.mpr fun q => ?_
    have e : C = tp := Value.ref.inj (beq_iff_eq.mp q)
    subst e
    unfold clsIn at hcD
    split at hcD
    · rename_i c' d' cd' sl' ho
      have z := (X _ _ ho).symm.trans htp
      cases z
    · cases hcD
  ca := fun {_ _ _ _ _ s} X p k => by
    obtain ⟨h, g, d, t, os⟩ := s
    obtain ⟨o, hx, hc⟩ := p
    exact exc_attr X e hx hc k
end

section
variable {T : Tp} {d : Nat} {X : QX} {Q : QE} {σ : Hp}
/-- isinstance of an own exception with an own class -/
theorem CallOk.isiX {c x : Str} {C D : Addr} {b : Bool} (TO : TopOk T) (hc : T.c c = some C) (hx : T.g x = some (.ref D)) (ek : excK T.K C = true) (e : kitOne T.K (.ref C) (.ref D) = some b) (q : Q (.bool b) σ) :
    CallOk T d X (.bi "isinstance") [.exc c, .glob x] Q σ := by
  intro A fs ι s fv xs S rf rxs
  cases rf.bi_inv
  obtain ⟨y, z, rfl, r, r2⟩ := rxs.two
  obtain ⟨a, o, C', rfl, ho, hc', ho'⟩ := r
  rw [hc] at hc'; cases hc'
  cases hx.symm.trans r2
  exact kia_one (exc_kit ek) (TO.X0.keeps S.rep.base) ⟨o, ho, ho'⟩ e (by intro q; cases q) fun tk => S.post q .bool_mk tk
/-- and with a built-in one -/
theorem CallOk.isiXT {c : Str} {C : Addr} {ty : String} {b : Bool} (TO : TopOk T) (hc : T.c c = some C) (ek : excK T.K C = true) (e : kitOne T.K (.ref C) (.type ty) = some b) (q : Q (.bool b) σ) :
    CallOk T d X (.bi "isinstance") [.exc c, .type ty] Q σ := by
  intro A fs ι s fv xs S rf rxs
  cases rf.bi_inv
  obtain ⟨y, z, rfl, r, r2⟩ := rxs.two
  cases r2.type_inv
  obtain ⟨a, o, C', rfl, ho, hc', ho'⟩ := r
  rw [hc] at hc'; cases hc'
  exact kia_one (exc_kit ek) (TO.X0.keeps S.rep.base) ⟨o, ho, ho'⟩ e (by intro q; cases q) fun tk => S.post q .bool_mk tk
end
end Mine

set_option maxRecDepth 100000
namespace Mine
open PySem PySem.Calls PyProof.Rows PySem.SeqAt PySem.W

/-- the same top, in a handler or not -/
noncomputable def Tp.at (T : Tp) (b : Bool) : Tp := { T with hd := b }

section
variable {T : Tp} {b : Bool} {ι ι' : Inj} {h h' : Heap}
theorem VRel.at_eq : VRel (T.at b) = VRel T := by kernel_rfl
theorem ORel.at_eq : ORel (T.at b) = ORel T := by kernel_rfl
theorem ORelV.at_eq : ORelV (T.at b) = ORelV T := by kernel_rfl
theorem VRel.at {v : V} {x : Value} (e : VRel T ι h v x) : VRel (T.at b) ι h v x := by rw [VRel.at_eq]; exact e
theorem ORelV.at {v : Option V} {x : Option Value} (e : ORelV T ι h v x) : ORelV (T.at b) ι h v x := by rw [ORelV.at_eq]; exact e
theorem ORel.at {o : MObj} {p : Addr × Addr} (e : ORel T ι h o p) : ORel (T.at b) ι h o p := by rw [ORel.at_eq]; exact e
theorem Rep.at {σ : Hp} (r : Rep T ι σ h) : Rep (T.at b) ι σ h := ⟨r.len, r.big, r.size, r.base, fun l o p e q => (r.objs l o p e q).at, r.fresh, r.apart⟩
theorem Ext.at {F : List Addr} (x : Ext T F ι h ι' h') : Ext (T.at b) F ι h ι' h' := ⟨x.pre, x.size, x.cls, x.frz, x.keep, x.frm⟩
theorem Frm.at {env : Env} {F : List Addr} {ρ : Loc} (x : Frm T env F ρ ι h) : Frm (T.at b) env F ρ ι h :=
  ⟨x.kind, x.glb, x.blt, (by obtain ⟨c, m, a, b, r⟩ := x.ns; exact ⟨c, m, a, b, fun z hz => (r z hz).at⟩), fun z hz => (by obtain ⟨c, o, v, a1, a2, a3, a4, a5, a6⟩ := x.cells z hz; exact ⟨c, o, v, a1, a2, a3, a4, a5.at, a6⟩), x.inj, x.loc, x.cin, x.apart, x.there⟩
theorem FunAt.at {e : Env} (x : FunAt T ι h e) : FunAt (T.at b) ι h e := x.rec fun k L o es ep f n b g c dd => ⟨k, L, o, es, ep, f, n, b, g, c, dd⟩
theorem TopOk.at (TO : TopOk T) : TopOk (T.at b) := ⟨TO.X0, TO.lim, TO.own, fun x v e => by obtain ⟨V, mg, mb, a1, a2, a3, a4⟩ := TO.gl x v e; exact ⟨V, mg, mb, a1, a2, a3, a4.at⟩⟩
end

/-- a name goes -/
theorem nsDelC {M : Model} {A : Around} {E : Value → Shared → Prop} {s : Shared} {a : Addr} {c : String} {m} {name : Str} {Q : Bool → Shared → Prop} (hn : NsC s.heap a c m) (hs : (m name).isSome = true)
    (hQ : ∀ h', NsC h' a c (fun x => if x = name then none else m x) → Heap.SameBut a s.heap h' → Q true { s with heap := h' }) : wpAny M A (nsDel a name) Q E s := by
  obtain ⟨o, es, ep, ho, hc, hdi, hd, hk, hu, hm⟩ := hn
  have hany : es.any (·.refKey) = false := by
    rw [Array.any_eq_false']; intro e he; obtain ⟨n, t, h⟩ := hk e he; simp [DictEntry.refKey, h]
  have hsome : (m name).isSome = es.any (·.key.isStr name) := by
    rw [← hm name]; simp only [nsFind, findBy, Option.isSome_map]
    rw [Bool.eq_iff_iff]; simp only [Array.find?_isSome, Array.any_eq_true]
    constructor
    · rintro ⟨x, hx, hp⟩; obtain ⟨i, hi, rfl⟩ := Array.mem_iff_getElem.mp hx; exact ⟨i, hi, hp⟩
    · rintro ⟨i, hi, hp⟩; exact ⟨_, Array.getElem_mem hi, hp⟩
  have hhas : nsHas name o = pure true := by
    rw [nsHas_eq]; unfold nsHasByArray; rw [hd]
    show (if (es.any fun x => x.key.isStr name) = true then _ else _) = _
    rw [← hsome, hs]; rfl
  unfold nsDel
  refine wpAny_bind (wpAny_loadPart ho ?_)
  rw [hhas]
  refine wpAny_bind (wpAny_pure (wpAny_bind (wpAny_updatePart ho (wpAny_pure (hQ _ ?_ (Heap.SameBut.update ..))))))
  obtain ⟨cl, d, dt, sl⟩ := o
  subst hd
  cases hi : es.findIdx? (·.key.isStr name) with
  | some i =>
    refine ⟨_, _, ep + 1, Heap.get?_update_self _ ho (by simp only [Obj.dropName_eq, Obj.dropNameByArray, hi] <;> rfl), (by simp only [Obj.dropName_eq, Obj.dropNameByArray, hi]; exact hc), (by simp only [Obj.dropName_eq, Obj.dropNameByArray, hi]; exact hdi), (by simp only [Obj.dropName_eq, Obj.dropNameByArray, hi] <;> rfl), hk.erase i, hu.erase i, fun x => ?_⟩
    rw [nsFind_erase hu hi, hm]
  | none =>
    exfalso
    rw [hs] at hsome
    rw [Array.findIdx?_eq_none_iff] at hi
    obtain ⟨i, hl, hp⟩ := Array.any_eq_true.mp hsome.symm
    rw [hi _ (Array.getElem_mem hl)] at hp; cases hp

section
variable {T : Tp} {A : Around} {fs : List Env} {d : Nat} {env : Env} {F : List Addr} {ι : Inj} {s : Shared} {ρ : Loc} {σ : Hp}
theorem del_at {M : Model} {A' : Around} {E : Value → Shared → Prop} {x : Str} {v : V} {Q : Bool → Shared → Prop} (I : Inv T A fs d env F ρ ι σ s) (hl : env.kindOf x = some .local) (hv : ρ x = some v)
    (k : ∀ h', Inv T A fs d env F (upd ρ x none) ι σ { s with heap := h' } → Ext T F ι s.heap ι h' → Q true { s with heap := h' }) : wpAny M A' (nsDel env.locals x) Q E s := by
  obtain ⟨c, m, hc, hn, hr⟩ := I.frm.ns
  refine nsDelC hn ((hr x hl).isSome.trans (congrArg Option.isSome hv)) fun h' hn' hs => ?_
  obtain ⟨R', H', e, ds⟩ := I.frm.locTurn (v := none) I.rep hl hc hn hn' hs fun z hz mo => by
    by_cases q : z = x
    · rw [q, upd_at, if_pos rfl]; exact .none
    · rw [upd_ne q, if_neg q]; exact (hr z hz).mono mo
  exact k h' (I.stored (t := s.toks) R' H' e ds) e
theorem goes_ok {M : Model} {A' : Around} {E : Value → Shared → Prop} {n : Str} {pos : Pos} {Q : Unit → Shared → Prop} (I : Inv T A fs d env F ρ ι σ s) (hl : env.kindOf n = some .local)
    (k : ∀ h' t ρ', Inv T A fs d env F ρ' ι σ { s with heap := h', toks := t } → Ext T F ι s.heap ι h' → Q () { s with heap := h', toks := t }) :
    wpAny M A' (do bindName env n .none; unbindBehindTheSuite env n pos) Q E s := by
  refine wpAny_bind (wpAny_bindName (storeI (v := .none) I (by unfold isStore; rw [show env.scope.names.lookup n = _ from hl]) .none_mk fun h₁ t₁ I₁ e₁ => ?_))
  unfold unbindBehindTheSuite
  refine wpAny_onRaise ?_
  unfold unbindName
  refine wpAny_bind (wpAny_point (wpAny_bind ?_))
  unfold deleteName
  simp only [hl]
  rw [if_neg (by rw [I.frm.kind]; simp)]
  refine wpAny_bind (del_at (v := .none) I₁ hl (by simp [upd]) fun h₂ I₂ e₂ => ?_)
  simp only [Bool.not_true, Bool.false_eq_true, if_false]
  exact wpAny_pure (wpAny_point (k h₂ t₁ _ I₂ (e₁.trans e₂)))
end
end Mine

set_option maxRecDepth 100000
namespace Mine
open PySem PySem.Calls PyProof.Rows PySem.SeqAt PySem.W

/-- what the fragment says of a class D behind except, met by an exception of the class C -/
noncomputable def matchK (K : Frag) (C D : Addr) (b : Bool) : Bool := (clsIn K D).isSome && typeIn K (.ref D) == some (.type "type") && mroIn K D (.type "BaseException") == some true && mroIn K C (.ref D) == some b
theorem exc_matches {M : Model} {A : Around} {E : Value → Shared → Prop} {h : Heap} {g : Array GenState} {dr : Drawn} {t : Nat} {os : OsState} {K : Frag} {e C D : Addr} {o : Obj} {b : Bool} {Q : Bool → Shared → Prop} (X : K.In h) (k : matchK K C D b = true) (he : h.get? e = some o) (hc : o.cls = .ref C)
    (hq : Q b ⟨h, g, dr, t, os⟩) : wpAny M A (excMatches (.ref e) (.ref D)) Q E ⟨h, g, dr, t, os⟩ := by
  simp only [matchK, Bool.and_eq_true, beq_iff_eq] at k
  obtain ⟨⟨⟨k1, k2⟩, k3⟩, k4⟩ := k
  have L0 := looks_ty (M := M) he hc
  have L1 := looks_typeIn (M := M) X k2
  have L2 := looks_mroIn (M := M) X k3
  have L3 := looks_mroIn (M := M) X k4
  have L4 : Looks M h (isType (.ref D)) true := by
    unfold clsIn at k1
    split at k1
    · rename_i c' d' cd' sl' ho
      intro A' Q' E' s' k q
      unfold isType loadHead
      exact wpAny_bind (wpAny_loadPart (k _ _ (X _ _ ho)) (wpAny_pure q))
    · cases k1
  unfold excMatches
  refine wpAny_bind ?_
  unfold isInstance
  refine wpAny_bind (L1.at ?_)
  rw [tc_notTuple]
  refine wpAny_pure ?_
  rw [if_neg (by decide)]
  dsimp only
  refine wpAny_bind (wpAny_pure ?_)
  simp only [List.forIn_cons, List.forIn_nil]
  refine wpAny_bind (wpAny_bind (wpAny_bind ?_))
  unfold isExcClass
  refine wpAny_bind (L4.at ?_)
  rw [if_pos rfl]
  refine L2.at ?_
  simp only [Bool.not_true, Bool.false_eq_true, if_false]
  refine wpAny_pure (wpAny_pure (wpAny_bind (L0.at ?_)))
  refine wpAny_bind (wpAny_bind (wpAny_bind (L3.at ?_)))
  cases b
  · exact wpAny_pure (wpAny_pure (wpAny_pure hq))
  · exact wpAny_pure (wpAny_pure (wpAny_pure hq))

/-- an exception of the class c, noted, comes to these clauses -/
noncomputable def HandOk (T : Tp) (d : Nat) (sc : Scope) (X : XS) (hs : List ExceptHandler) (c : Str) (Q : QS) (σ : Hp) : Prop :=
  ∀ env A fs F ρ ι s ea ι₀ h₀, env.scope = sc → Inv T A fs d env F ρ ι σ s → FlyT T h₀.objs.size ea c s.heap → ea ∉ own ι → T.b0.objs.size ≤ h₀.objs.size → Ext T F ι₀ h₀ ι s.heap →
    wpAny (model T.prog T.w) A (handleBy (.ref ea) env hs) (PostS T A fs d env F Q ι₀ h₀) (PostSX T A fs d env F X ι₀ h₀) s

section
variable {T : Tp} {d : Nat} {sc : Scope} {ρ : Loc} {X : XS} {Q : QS} {σ : Hp}
theorem StOk.try {body : List Stmt} {h₀ : ExceptHandler} {hs : List ExceptHandler} {pos : Pos} (h : ExOk T d sc ρ (fun c σ' => HandOk T d sc X (h₀ :: hs) c Q σ') body Q σ) : StOk T d sc ρ X (.Try body (h₀ :: hs) [] [] pos) Q σ := by
  intro env A fs F ι s hsc I
  have hb := I.rep.size
  refine wpAny_Try_except (wpAny_mono (h env A fs F ι s hsc I) (fun f s₁ p => ?_) fun x s₁ p => ?_)
  · cases f with
    | next => exact wpAny_execs_nil p
    | _ => exact p
  · refine noted_ok hb p fun ea c ρ' σ' ι' h' hx hX f n I' e' => ?_
    subst hx
    refine flight_ok (S := frs fs) f fun h'' t f' => ?_
    obtain ⟨I₂, e₂⟩ := PostSX.touched (X := fun c σ' => HandOk T d sc X (h₀ :: hs) c Q σ') hX n I' e' f.fly hb t
    exact hX env A fs F ρ' ι' _ ea ι s.heap hsc I₂ f' n hb e₂

theorem hname_at {M : Model} {A' : Around} {E : Value → Shared → Prop} {x : Str} {np : Pos} {D : Addr} {A : Around} {fs : List Env} {env : Env} {F : List Addr} {ι : Inj} {s : Shared} {R : Value → Shared → Prop} (I : Inv T A fs d env F ρ ι σ s) (TO : TopOk T)
    (hg : T.gv x = some (.glob x)) (hk : env.scope.names.lookup x = some .globalImplicit) (ho : scOk env.scope = true) (hc : T.c x = some D) (q : R (.ref D) s) : wpAny M A' (eval (.Name x np) env) R E s := by
  obtain ⟨V, mg, mb, n1, n2, hm, r⟩ := TO.gl x _ hg
  have N1 := n1.keeps I.rep.base
  have N2 := n2.keeps I.rep.base
  have hV : V = .ref D := by
    exact sm_inj (r.symm.trans (refO_out hc))
  subst hV
  refine Name_function_global I.frm.kind hk ?_ (not_debug ho hk).1
  rw [← I.frm.glb] at N1
  rw [← I.frm.blt] at N2
  rcases hm with hm | ⟨hm, hb⟩
  · exact loadGlobal_global N1 hm q
  · exact loadGlobal_builtin N1 hm N2 hb q

theorem Fly.at {T : Tp} {lo : Nat} {ea : Addr} {c : Str} {h : Heap} {C : Addr} {P : Prop} (f : Fly T lo ea c h) (hc : T.c c = some C) (k : ∀ (oe : Obj) (vs : Array Value), T.hd = false → lo ≤ ea → h.get? ea = some oe → oe.cls = .ref C → oe.data = .fields vs → vs[2]? = some .none → P) : P := by
  obtain ⟨C', oe, vs, v, f1, f2, f3, f4, f5, f6, f7, f8, f9⟩ := f
  have e1 := f1.2
  rw [hc] at e1; cases e1
  exact k oe vs f1.1 f2 f3 f4 f5 f7
theorem HandOk.miss {c x : Str} {np pos : Pos} {n : Option Str} {body : List Stmt} {rest : List ExceptHandler} {C D : Addr} (TO : TopOk T) (hg : T.gv x = some (.glob x)) (hk : sc.names.lookup x = some .globalImplicit) (ho : scOk sc = true) (hc : T.c c = some C) (hd : T.c x = some D)
    (hm : matchK T.K C D false = true) (h : HandOk T d sc X rest c Q σ) : HandOk T d sc X (.ExceptHandler (some (.Name x np)) n body pos :: rest) c Q σ := by
  intro env A fs F ρ ι s ea ι₀ h₀ hsc I f hn hb e
  subst hsc
  refine wpAny_handleBy_cons (codeAny_handlers_test (hname_at I TO hg hk ho hd ?_)) (by intro q; cases q)
  refine f.fly.at hc fun oe vs f1 f2 f3 f4 f5 f7 => ?_
  obtain ⟨hh, g, dr, t, os⟩ := s
  refine exc_matches (TO.X0.keeps I.rep.base) hm f3 f4 ?_
  exact h env A fs F ρ ι _ ea ι₀ h₀ rfl I f hn hb e

theorem HandOk.hit {c x n : Str} {np pos : Pos} {b₀ : Stmt} {body : List Stmt} {rest : List ExceptHandler} {C D : Addr} (TO : TopOk T) (hg : T.gv x = some (.glob x)) (hk : sc.names.lookup x = some .globalImplicit) (ho : scOk sc = true) (hc : T.c c = some C) (hd : T.c x = some D)
    (hm : matchK T.K C D true = true) (hl : sc.names.lookup n = some .local) (h : ∀ ρ, ExOk (T.at true) d sc (upd ρ n (some (.exc c))) (fun _ _ => False) (b₀ :: body) (fun fl _ σ' => ∀ ρ', Q fl ρ' σ') σ) :
    HandOk T d sc X (.ExceptHandler (some (.Name x np)) (some n) (b₀ :: body) pos :: rest) c Q σ := by
  intro env A fs F ρ ι s ea ι₀ h₀ hsc I f hn hb e
  subst hsc
  refine wpAny_handleBy_cons (codeAny_handlers_test (hname_at I TO hg hk ho hd ?_)) (by intro q; cases q)
  refine f.fly.at hc fun oe vs f1 f2 f3 f4 f5 f7 => ?_
  obtain ⟨hh, g, dr, t, os⟩ := s
  refine exc_matches (TO.X0.keeps I.rep.base) hm f3 f4 ?_
  refine codeAny_handlers_suite_as ?_
  refine flight_ok (S := frs fs) f fun h'' tt f' => ?_
  have hle : h₀.objs.size ≤ ea := f2
  have I₂ := I.touch tt f.fly hn hb hle
  have e₂ : Ext T F ι₀ h₀ ι h'' := e.touch tt (fun a ha => let ⟨_, _, o, _, _, g, gc, _⟩ := I.aok.mem ha; ⟨o, g, gc⟩) hle
  refine f'.fly.at hc fun oe vs g1 g2 g3 g4 g5 g7 => ?_
  have hx : HandAt (A.mark (some (.ref ea))) ι h'' := fun v q => by
    have : v = .ref ea := (Option.some.inj q).symm
    subst this
    exact ⟨ea, oe, C, vs, rfl, g3, g4, g5, g7, hn⟩
  have I₃ : Inv (T.at true) (A.mark (some (.ref ea))) fs d env F ρ ι σ ⟨h'', g, dr, t, os⟩ := ⟨I₂.rep.at, ⟨I₂.aok.frames, fun e he => (I₂.aok.funs e he).at, I₂.aok.depth, I₂.aok.units, fun q => (by cases q), hx⟩, I₂.frm.at, I₂.top, I₂.gens, I₂.os⟩
  refine storeI (v := .exc c) I₃ (by unfold isStore; rw [hl]) ?_ fun h₃ t₃ I₄ e₃ => ?_
  · exact ⟨ea, oe, C, rfl, g3, hc, g4⟩
  refine wpAny_mono (h ρ env _ fs F ι _ rfl I₄) (fun fl s₅ p => ?_) fun z s₅ p => ?_
  · obtain ⟨fl', ρ', σ', ι', q, r, I₅, e₅⟩ := p
    refine goes_ok (A := A.mark (some (.ref ea))) I₅ hl fun h₆ t₆ ρ₆ I₆ e₆ => ?_
    have hA : A.handled = none := I.aok.hd f1
    have eb : T.at true = T.at true := rfl
    have back : ∀ {P : Tp → Prop}, P ((T.at true).at T.hd) → P T := fun h => h
    have IT : Inv T A fs d env F ρ₆ ι' σ' { s₅ with heap := h₆, toks := t₆ } :=
      ⟨I₆.rep.at (b := T.hd), ⟨I₆.aok.frames, fun e he => (I₆.aok.funs e he).at (b := T.hd), I₆.aok.depth, I₆.aok.units, fun _ => hA, .none hA⟩, I₆.frm.at (b := T.hd), I₆.top, I₆.gens, I₆.os⟩
    exact ⟨fl', ρ₆, σ', ι', q ρ₆, (show FlRel ((T.at true).at T.hd) ι' h₆ fl' fl from r.imp fun _ _ r => (r.mono e₆.mono).at), IT, e₂.trans ((e₃.at (b := T.hd)).trans ((e₅.at (b := T.hd)).trans (e₆.at (b := T.hd))))⟩
  · obtain ⟨_, _, _, _, _, _, q, _⟩ := p
    exact q.elim
end
end Mine

namespace Mine
open PySem PySem.Calls PyProof.Rows PySem.SeqAt

/-! What is left to show of a text, computed from the text: vE, vT, vB see through names, constants, operators, displays, calls; what they can't see through stays as the judgement that it is. -/

/-- the ways part -/
noncomputable def Br (b : Bool) (P R : Prop) : Prop := @Bool.rec (fun _ => Prop) R P b
theorem Br.mk {b : Bool} {P R : Prop} (h1 : b = true → P) (h2 : b = false → R) : Br b P R := by
  cases b
  · exact h2 rfl
  · exact h1 rfl
theorem Br.t {b : Bool} {P R : Prop} (h : b = true) (p : P) : Br b P R := by subst h; exact p
theorem Br.f {b : Bool} {P R : Prop} (h : b = false) (p : R) : Br b P R := by subst h; exact p
/-- the judgements, closed: the unifier does not look into them -/
inductive Cal (T : Tp) (d : Nat) (X : QX) (f : V) (args : List V) (Q : QE) (σ : Hp) : Prop where
  | mk (h : CallOk T d X f args Q σ) : Cal T d X f args Q σ
inductive Evx (T : Tp) (d : Nat) (sc : Scope) (ρ : Loc) (X : QX) (e : Expr) (Q : QE) (σ : Hp) : Prop where
  | mk (h : EvOk T d sc ρ X e Q σ) : Evx T d sc ρ X e Q σ
inductive Tsx (T : Tp) (d : Nat) (sc : Scope) (ρ : Loc) (X : QX) (e : Expr) (B : Bool → Hp → Prop) (σ : Hp) : Prop where
  | mk (h : TsOk T d sc ρ X e B σ) : Tsx T d sc ρ X e B σ
inductive Stx (T : Tp) (d : Nat) (sc : Scope) (ρ : Loc) (X : XS) (st : Stmt) (Q : QS) (σ : Hp) : Prop where
  | mk (h : StOk T d sc ρ X st Q σ) : Stx T d sc ρ X st Q σ
inductive Itm (o i : V) (Q : QE) (σ : Hp) : Prop where
  | mk (h : itemVC o i Q σ) : Itm o i Q σ
inductive Bin (op : Operator) (a b : V) (Q : QE) (σ : Hp) : Prop where
  | mk (h : binVC op a b Q σ) : Bin op a b Q σ
inductive Cmp (op : CmpOp) (a b : V) (Q : QE) (σ : Hp) : Prop where
  | mk (h : cmpVC op a b Q σ) : Cmp op a b Q σ
theorem Cal.out {T : Tp} {d : Nat} {X : QX} {f : V} {args : List V} {Q : QE} {σ : Hp} (h : Cal T d X f args Q σ) : CallOk T d X f args Q σ := by cases h; assumption
theorem Evx.out {T : Tp} {d : Nat} {sc : Scope} {ρ : Loc} {X : QX} {e : Expr} {Q : QE} {σ : Hp} (h : Evx T d sc ρ X e Q σ) : EvOk T d sc ρ X e Q σ := by cases h; assumption
theorem Tsx.out {T : Tp} {d : Nat} {sc : Scope} {ρ : Loc} {X : QX} {e : Expr} {B : Bool → Hp → Prop} {σ : Hp} (h : Tsx T d sc ρ X e B σ) : TsOk T d sc ρ X e B σ := by cases h; assumption
theorem Stx.out {T : Tp} {d : Nat} {sc : Scope} {ρ : Loc} {X : XS} {st : Stmt} {Q : QS} {σ : Hp} (h : Stx T d sc ρ X st Q σ) : StOk T d sc ρ X st Q σ := by cases h; assumption

/-- P, where b is so -/
noncomputable def gd (b : Bool) (P : Prop) : Prop := @Bool.rec (fun _ => Prop) False P b
theorem gd.of {b : Bool} {P : Prop} (h : b = true) (p : P) : gd b P := by subst h; exact p
theorem gd.out {b : Bool} {P : Prop} (h : gd b P) : b = true ∧ P := by
  cases b
  · exact h.elim
  · exact ⟨rfl, h⟩

noncomputable def short : List V → Nat → Bool
  | [], _ => true
  | _ :: r, n + 1 => short r n
  | _ :: _, 0 => false
theorem short_le : ∀ {vs : List V} {n : Nat}, short vs n = true → vs.length ≤ n
  | [], _, _ => Nat.zero_le _
  | _ :: _, _ + 1, h => Nat.succ_le_succ (short_le h)

/-- the truth of a value -/
noncomputable def tvc (v : V) (σ : Hp) (K : Bool → Prop) : Prop := match truthV v σ with | some b => K b | none => False
theorem tvc.of {v : V} {σ : Hp} {K : Bool → Prop} {b : Bool} (h : truthV v σ = some b) (k : K b) : tvc v σ K := by unfold tvc; rw [h]; exact k
theorem tvc.out {v : V} {σ : Hp} {K : Bool → Prop} (h : tvc v σ K) : ∃ b, truthV v σ = some b ∧ K b := by
  unfold tvc at h
  generalize truthV v σ = o at h ⊢
  cases o
  · exact (show False from h).elim
  · exact ⟨_, rfl, h⟩
noncomputable def bvc (v : V) (K : Bool → Prop) : Prop := match v with | .bool b => K b | _ => False
theorem bvc.out {v : V} {K : Bool → Prop} (h : bvc v K) : ∃ b, v = .bool b ∧ K b := by
  cases v <;> first | exact h.elim | exact ⟨_, rfl, h⟩

/-- the operators -/
noncomputable def binG (op : Operator) (a b : V) (Q : QE) (σ : Hp) : Prop := match a, b with
  | .int x, .int y => (match op with
    | .Add => Q (.int (x + y)) σ
    | .Sub => Q (.int (x - y)) σ
    | .FloorDiv => gd (y != 0 && decide (y.natAbs < 1073741824)) (Q (.int (x.fdiv y)) σ)
    | .Mod => gd (y != 0) (Q (.int (x.fmod y)) σ)
    | op => Bin op a b Q σ)
  | a, b => Bin op a b Q σ
theorem binG.out {op : Operator} {a b : V} {Q : QE} {σ : Hp} (h : binG op a b Q σ) : binVC op a b Q σ := by
  have key : Bin op a b Q σ → binVC op a b Q σ := fun h => h.rec id
  cases a <;> first | exact key h | skip
  cases b <;> first | exact key h | skip
  cases op <;> first | exact key h | skip
  · exact ⟨_, _, .add .., h⟩
  · exact ⟨_, _, .sub .., h⟩
  · exact ⟨_, _, .mod _ _ (bne_iff_ne.mp (gd.out h).1), (gd.out h).2⟩
  · exact ⟨_, _, .fdiv _ _ (bne_iff_ne.mp (Bool.and_eq_true_iff.mp (gd.out h).1).1) (of_decide_eq_true (Bool.and_eq_true_iff.mp (gd.out h).1).2), (gd.out h).2⟩
/-- the comparisons -/
noncomputable def cmpG (op : CmpOp) (a b : V) (Q : QE) (σ : Hp) : Prop := match a, b with
  | .int x, .int y => (match op with
    | .Lt => Q (.bool (decide (x < y))) σ
    | .LtE => Q (.bool (decide (x ≤ y))) σ
    | .Gt => Q (.bool (decide (y < x))) σ
    | .GtE => Q (.bool (decide (y ≤ x))) σ
    | .Eq => Q (.bool (x == y)) σ
    | .NotEq => Q (.bool (x != y)) σ
    | op => Cmp op a b Q σ)
  | .str x, .str y => (match op with
    | .Eq => Q (.bool (x == y)) σ
    | .NotEq => Q (.bool (x != y)) σ
    | op => Cmp op a b Q σ)
  | a, b => Cmp op a b Q σ
theorem cmpG.out {op : CmpOp} {a b : V} {Q : QE} {σ : Hp} (h : cmpG op a b Q σ) : cmpVC op a b Q σ := by
  have key : Cmp op a b Q σ → cmpVC op a b Q σ := fun h => h.rec id
  cases a <;> first | exact key h | skip
  · cases b <;> first | exact key h | skip
    cases op <;> first | exact key h | exact ⟨_, .eqi .., h⟩ | exact ⟨_, .nei .., h⟩ | exact ⟨_, .lt .., h⟩ | exact ⟨_, .le .., h⟩ | exact ⟨_, .gt .., h⟩ | exact ⟨_, .ge .., h⟩
  · cases b <;> first | exact key h | skip
    cases op <;> first | exact key h | exact ⟨_, .eqs .., h⟩ | exact ⟨_, .nes .., h⟩

/-- o[i] -/
noncomputable def pick (vs : List V) (k : Int) : Option V := match k with
  | .ofNat n => bif Nat.ble n 1000 then vs[n]? else none
  | .negSucc n => bif Nat.ble n 1000 then (seqIndex? (.negSucc n) vs.length).bind (vs[·]?) else none
theorem pick_out {vs : List V} {k : Int} {v : V} (h : pick vs k = some v) : ∃ j, seqIndex? k vs.length = some j ∧ vs[j]? = some v ∧ decide (-(2 ^ 63) ≤ k ∧ k < 2 ^ 63) = true := by
  unfold pick at h
  split at h
  · rename_i n
    cases hn : Nat.ble n 1000 <;> rw [hn] at h
    · cases h
    · have hl := (List.getElem?_eq_some_iff.mp h).1
      have := Nat.le_of_ble_eq_true hn
      refine ⟨n, ?_, h, decide_eq_true ?_⟩
      · unfold seqIndex?
        simp only [show ¬ ((Int.ofNat n : Int) < 0) by simp, if_false]
        rw [if_pos (by simp only [Bool.and_eq_true, decide_eq_true_eq]; clear h; simp only [Int.ofNat_eq_natCast]; lia)]
        simp
      · clear h; simp only [Int.ofNat_eq_natCast]; lia
  · rename_i n
    cases hn : Nat.ble n 1000 <;> rw [hn] at h
    · cases h
    · obtain ⟨j, h1, h2⟩ := Option.bind_eq_some_iff.mp h
      have := Nat.le_of_ble_eq_true hn
      exact ⟨j, h1, h2, decide_eq_true (by clear h h1 h2; lia)⟩
noncomputable def opP {α : Type} (o : Option α) (P : α → Prop) : Prop := match o with
  | some v => P v
  | none => False
theorem opP_out {α : Type} {o : Option α} {P : α → Prop} (h : opP o P) : ∃ v, o = some v ∧ P v := by
  cases o
  · exact (show False from h).elim
  · exact ⟨_, rfl, h⟩
noncomputable def itemG (o i : V) (Q : QE) (σ : Hp) : Prop := match o, i with
  | .tup vs, .int k => opP (pick vs k) fun v => Q v σ
  | o, i => Itm o i Q σ
theorem itemG.out {o i : V} {Q : QE} {σ : Hp} (h : itemG o i Q σ) : itemVC o i Q σ := by
  have key : Itm o i Q σ → itemVC o i Q σ := fun h => h.rec id
  cases o <;> first | exact key h | skip
  cases i <;> first | exact key h | skip
  rename_i vs k
  obtain ⟨v, hv, h⟩ := opP_out h
  obtain ⟨j, h1, h2, h3⟩ := pick_out hv
  exact i_tup h1 h2 h3 h
theorem itemG.at {vs : List V} {k : Int} {v : V} {Q : QE} {σ : Hp} (h : pick vs k = some v) (q : Q v σ) : itemG (.tup vs) (.int k) Q σ := by
  show opP _ _; rw [h]; exact q

theorem cmpVC_mono {op : CmpOp} {a b : V} {Q Q' : QE} {σ : Hp} (h : cmpVC op a b Q σ) (k : ∀ v σ, Q v σ → Q' v σ) : cmpVC op a b Q' σ := h.rec fun r c q => ⟨r, c, k _ _ q⟩

noncomputable def vL (f : Expr → QE → Hp → Prop) : List Expr → (List V → Hp → Prop) → Hp → Prop
  | [], L, σ => L [] σ
  | e :: r, L, σ => f e (fun v σ₁ => vL f r (fun vs σ₂ => L (v :: vs) σ₂) σ₁) σ
noncomputable def vBo (f : Expr → QE → Hp → Prop) (op : BoolOp) : List Expr → QE → Hp → Prop
  | [], _, _ => False
  | [x], Q, σ => f x Q σ
  | x :: y :: r, Q, σ => f x (fun v σ₁ => tvc v σ₁ fun b => match op with
    | .And => Br b (vBo f op (y :: r) Q σ₁) (Q v σ₁)
    | .Or => Br b (Q v σ₁) (vBo f op (y :: r) Q σ₁)) σ
inductive MethOk (T : Tp) (ov : V) (name : Str) (σ : Hp) (K : V → Prop) : Prop where
  | mk (f : V) (h : Resolves T σ name ov f) (k : K f) : MethOk T ov name σ K
noncomputable def intV (v : V) (K : Int → Prop) : Prop := match v with | .int i => K i | _ => False
theorem intV.out {v : V} {K : Int → Prop} (h : intV v K) : ∃ i, v = .int i ∧ K i := by
  cases v <;> first | exact h.elim | exact ⟨_, rfl, h⟩
/-- a name read -/
noncomputable def nmG (o : Option V) (Q : QE) (σ : Hp) : Prop := @Option.rec V (fun _ => Prop) False (fun v => Q v σ) o
theorem nmG.out {o : Option V} {Q : QE} {σ : Hp} (h : nmG o Q σ) : ∃ v, o = some v ∧ Q v σ := by
  cases o with
  | none => exact h.elim
  | some v => exact ⟨v, rfl, h⟩

/-- a name; the view bears its proof -/
noncomputable def nameView : (e : Expr) → Option { p : Str × Pos // e = .Name p.1 p.2 }
  | .Name x p => some ⟨(x, p), rfl⟩
  | _ => none
/-- for x in iter if .. -/
noncomputable def compOne (c : Comprehension) : Option { p : Str × Pos // c = ⟨.Name p.1 p.2, c.iter, c.ifs, 0⟩ } := match c with
  | ⟨t, it, is, a⟩ => (nameView t).bind fun p => if h : a = 0 then some ⟨p.1, by cases h; exact congrArg (Comprehension.mk · it is 0) p.2⟩ else none
noncomputable def compView : (gs : List Comprehension) → Option { p : Str × Pos × Comprehension // gs = [⟨.Name p.1 p.2.1, p.2.2.iter, p.2.2.ifs, 0⟩] }
  | [c] => (compOne c).map fun p => ⟨(p.1.1, p.1.2, c), congrArg ([·]) p.2⟩
  | _ => none

section
variable (T : Tp) (d : Nat) (sc : Scope) (X : QX) (ρ : Loc)
noncomputable def isGlob (x : Str) : Bool := match sc.names.lookup x with | some .globalImplicit => true | _ => false
noncomputable def keepV (v : V) : Bool := match v with
  | .glob x => (T.g x).any fun v => PySem.W.keepIn T.K v
  | v => callable v
noncomputable def compG (f : Expr → QE → Hp → Prop) (elt : Expr) (gens : List Comprehension) (scope : Scope) (R : Prop) (Q : QE) (σ : Hp) : Prop := match compView gens with
  | some ⟨(x, _, ⟨_, iter, ifs, _⟩), _⟩ => bif compOk scope sc && isStore scope x && noSet iter && !T.hd then f iter (fun v σ₁ => CompOk T d sc ρ X scope x ifs elt Q v σ₁) σ else R
  | none => R
inductive CompR (T : Tp) (d : Nat) (sc : Scope) (X : QX) (ρ : Loc) (f : Expr → QE → Hp → Prop) (elt : Expr) (gens : List Comprehension) (scope : Scope) (R : Prop) (Q : QE) (σ : Hp) : Prop where
  | no (h : R) : CompR T d sc X ρ f elt gens scope R Q σ
  | yes (x : Str) (p : Pos) (iter : Expr) (ifs : List Expr) (e : gens = [⟨.Name x p, iter, ifs, 0⟩]) (h1 : compOk scope sc = true) (h2 : isStore scope x = true) (h3 : noSet iter = true) (h4 : T.hd = false) (h : f iter (fun v σ₁ => CompOk T d sc ρ X scope x ifs elt Q v σ₁) σ) : CompR T d sc X ρ f elt gens scope R Q σ
theorem compG.out {T : Tp} {d : Nat} {sc : Scope} {X : QX} {ρ : Loc} {f : Expr → QE → Hp → Prop} {elt : Expr} {gens : List Comprehension} {scope : Scope} {R : Prop} {Q : QE} {σ : Hp} (h : compG T d sc X ρ f elt gens scope R Q σ) : CompR T d sc X ρ f elt gens scope R Q σ := by
  unfold compG at h
  cases hv : compView gens with
  | none => rw [hv] at h; exact .no h
  | some p =>
    rw [hv] at h
    obtain ⟨⟨x, q, ⟨t, iter, ifs, z⟩⟩, e⟩ := p
    dsimp only at h
    cases hb : (compOk scope sc && isStore scope x && noSet iter && !T.hd) <;> rw [hb] at h
    · exact .no h
    · simp only [Bool.and_eq_true, Bool.not_eq_true'] at hb
      exact .yes _ _ _ _ e hb.1.1.1 hb.1.1.2 hb.1.2 hb.2 h
/-- what is left of an expression -/
noncomputable def vE : Nat → Expr → QE → Hp → Prop
  | 0, e, Q, σ => Evx T d sc ρ X e Q σ
  | n + 1, e, Q, σ => match e with
    | .Constant c _ _ => (match c with
      | .none => Q .none σ
      | .bool b => Q (.bool b) σ
      | .int i => Q (.int i) σ
      | .str t => Q (.str t) σ
      | _ => Evx T d sc ρ X e Q σ)
    | .Name x _ => bif isVar sc x then nmG (ρ x) Q σ else gd (isGlob sc x) (nmG (T.gv x) Q σ)
    | .BinOp l op r _ => vE n l (fun a σ₁ => vE n r (fun b σ₂ => binG op a b Q σ₂) σ₁) σ
    | .Compare l ops rs _ => (match ops, rs with
      | [op], [r] => bif behindInMarks op r then Evx T d sc ρ X e Q σ else vE n l (fun a σ₁ => vE n r (fun b σ₂ => cmpG op a b Q σ₂) σ₁) σ
      | [op, op2], [r, r2] => bif behindInMarks op2 r2 then Evx T d sc ρ X e Q σ else vE n l (fun a σ₁ => vE n r (fun b σ₂ => cmpG op a b (fun v σ₃ => bvc v fun c => Br c (vE n r2 (fun w σ₄ => cmpG op2 b w Q σ₄) σ₃) (Q (.bool false) σ₃)) σ₂) σ₁) σ
      | _, _ => Evx T d sc ρ X e Q σ)
    | .Tuple es _ _ => bif noStar es then vL (vE n) es (fun vs σ₁ => gd (short vs 100) (Q (.tup vs) σ₁)) σ else Evx T d sc ρ X e Q σ
    | .List es _ => bif noStar es then vL (vE n) es (fun vs σ₁ => gd (short vs 100) (Q (.ref σ₁.length) (σ₁ ++ [.list vs]))) σ else Evx T d sc ρ X e Q σ
    | .Dict ks _ _ => (match ks with | [] => (match e with | .Dict [] [] _ => Q (.ref σ.length) (σ ++ [.sdict []]) | _ => Evx T d sc ρ X e Q σ) | _ => Evx T d sc ρ X e Q σ)
    | .Subscript v i _ => bif notSlice i then vE n v (fun o σ₁ => vE n i (fun k σ₂ => itemG o k Q σ₂) σ₁) σ else Evx T d sc ρ X e Q σ
    | .Attribute v a _ => bif plainBase v then vE n v (fun o σ₁ => AttrOk T a Q o σ₁) σ else Evx T d sc ρ X e Q σ
    | .UnaryOp op x _ => (match op with
      | .Not => vE n x (fun v σ₁ => tvc v σ₁ fun b => Q (.bool (!b)) σ₁) σ
      | .USub => vE n x (fun v σ₁ => intV v fun i => Q (.int (-i)) σ₁) σ
      | _ => Evx T d sc ρ X e Q σ)
    | .BoolOp op es _ => vBo (vE n) op es Q σ
    | .Call f args kws pos => (match kws with | _ :: _ => Evx T d sc ρ X e Q σ | [] => match f with
      | .Name x _ => bif noStar args && isGlob sc x then gd (match T.gv x with | some v => keepV T v | none => false) (vL (vE n) args (fun vs σ₂ => nmG (T.gv x) (fun v σ' => Cal T d X v vs Q σ') σ₂) σ) else Evx T d sc ρ X e Q σ
      | .Attribute o name apos => bif plainBase o && noStar args && (apos.endLine == pos.line) && Nat.ble args.length 20 then vE n o (fun ov σ₁ => MethOk T ov name σ₁ fun f => vL (vE n) args (fun vs σ₂ => Cal T d X f (ov :: vs) Q σ₂) σ₁) σ
        else Evx T d sc ρ X e Q σ
      | _ => Evx T d sc ρ X e Q σ)
    | .ListComp elt gens scope _ => compG T d sc X ρ (vE n) elt gens scope (Evx T d sc ρ X e Q σ) Q σ
    | e => Evx T d sc ρ X e Q σ
end

section
variable {T : Tp} {d : Nat} {sc : Scope} {X : QX} {ρ : Loc}
theorem PostB.mono {Q Q' : Bool → Hp → Prop} {ι : Inj} {h : Heap} {b : Bool} {s' : Shared} (p : PostB T Q ι h b s') (k : ∀ b σ, Q b σ → Q' b σ) : PostB T Q' ι h b s' :=
  by obtain ⟨σ', ι', q, rp, e', g, o⟩ := p; exact ⟨σ', ι', k _ _ q, rp, e', g, o⟩
theorem TsOk.mono {e : Expr} {σ : Hp} {B B' : Bool → Hp → Prop} (h : TsOk T d sc ρ X e B σ) (k : ∀ b σ, B b σ → B' b σ) : TsOk T d sc ρ X e B' σ :=
  fun env A fs F ι s hsc I => wpAny_mono (h env A fs F ι s hsc I) (fun _ _ p => p.mono k) fun _ _ p => p
theorem EvsOk.mono {es : List Expr} {σ : Hp} {L L' : List V → Hp → Prop} (h : EvsOk T d sc ρ X es L σ) (k : ∀ vs σ, L vs σ → L' vs σ) : EvsOk T d sc ρ X es L' σ :=
  fun env A fs F ι s hsc I => wpAny_mono (h env A fs F ι s hsc I) (fun _ _ p => by obtain ⟨vs, σ', ι', q, r, rp, e', g, o⟩ := p; exact ⟨vs, σ', ι', k _ _ q, r, rp, e', g, o⟩) fun _ _ p => p
theorem bif_out {b : Bool} {P R : Prop} (h : bif b then P else R) : (b = true ∧ P) ∨ (b = false ∧ R) := by
  cases b
  · exact .inr ⟨rfl, h⟩
  · exact .inl ⟨rfl, h⟩
theorem isGlob_out {x : Str} (h : isGlob sc x = true) : sc.names.lookup x = some .globalImplicit := by
  unfold isGlob at h
  generalize sc.names.lookup x = o at h ⊢
  rcases o with _ | k
  · exact (Bool.false_ne_true h).elim
  · cases k <;> first | exact (Bool.false_ne_true h).elim | rfl
theorem vL_ok {f : Expr → QE → Hp → Prop} (hf : ∀ e Q σ, f e Q σ → EvOk T d sc ρ X e Q σ) : ∀ {es : List Expr} {L : List V → Hp → Prop} {σ : Hp}, vL f es L σ → EvsOk T d sc ρ X es L σ
  | [], _, _, h => EvsOk.nil h
  | _ :: _, _, _, h => EvsOk.cons ((hf _ _ _ h).mono (fun _ _ h => vL_ok hf h) fun _ _ h => h)
theorem vBo_ok {f : Expr → QE → Hp → Prop} {op : BoolOp} (hf : ∀ e Q σ, f e Q σ → EvOk T d sc ρ X e Q σ) : ∀ {es : List Expr} {Q : QE} {σ : Hp}, vBo f op es Q σ → BoolsOk T d sc ρ X op es Q σ
  | [], _, _, h => h.elim
  | [_], _, _, h => BoolsOk.one (hf _ _ _ h)
  | _ :: _ :: _, _, _, h => by
    have h := hf _ _ _ h
    cases op
    · exact BoolsOk.and (h.mono (fun v σ₁ h => let ⟨b, h1, h2⟩ := tvc.out h; ⟨b, h1, by
        cases b
        · exact h2
        · exact vBo_ok hf h2⟩) fun _ _ h => h)
    · exact BoolsOk.or (h.mono (fun v σ₁ h => let ⟨b, h1, h2⟩ := tvc.out h; ⟨b, h1, by
        cases b
        · exact vBo_ok hf h2
        · exact h2⟩) fun _ _ h => h)
theorem vE_ok (TO : TopOk T) (ho : scOk sc = true) : ∀ n e Q σ, vE T d sc X ρ n e Q σ → EvOk T d sc ρ X e Q σ
  | 0, _, _, _, h => Evx.out h
  | n + 1, e, Q, σ, h => by
    have ih := vE_ok TO ho n
    have ih2 : ∀ {es : List Expr} {L : List V → Hp → Prop} {σ : Hp}, vL (vE T d sc X ρ n) es L σ → EvsOk T d sc ρ X es L σ := vL_ok ih
    cases e <;> first | exact h.out | skip
    · exact EvOk.bools (vBo_ok ih h)
    · exact EvOk.bin ((ih _ _ _ h).mono (fun _ _ h => (ih _ _ _ h).mono (fun _ _ h => h.out) fun _ _ h => h) fun _ _ h => h)
    · rename_i op _ _
      cases op <;> first | exact h.out | skip
      · exact EvOk.not ((ih _ _ _ h).mono (fun _ _ h => tvc.out h) fun _ _ h => h)
      · exact EvOk.neg ((ih _ _ _ h).mono (fun _ _ h => intV.out h) fun _ _ h => h)
    · rename_i ks vs _
      cases ks <;> first | exact h.out | skip
      cases vs <;> first | exact h.out | skip
      exact EvOk.dict h
    · rename_i elt gens scope _
      rcases compG.out h with h | ⟨x, p, iter, ifs, e, h1, h2, h3, h4, h⟩
      · exact h.out
      · rw [e]; exact EvOk.comp h1 h2 h3 (ih _ _ _ h) h4
    · rename_i l ops rs _
      rcases ops with _ | ⟨op, _ | ⟨op2, _ | ⟨_, _⟩⟩⟩ <;> rcases rs with _ | ⟨r, _ | ⟨r2, _ | ⟨_, _⟩⟩⟩ <;> first | exact h.out | skip
      · rcases bif_out h with ⟨_, h⟩ | ⟨hb, h⟩
        · exact h.out
        · exact EvOk.cmp ((ih _ _ _ h).mono (fun _ _ h => (ih _ _ _ h).mono (fun _ _ h => h.out) fun _ _ h => h) fun _ _ h => h) hb
      · rcases bif_out h with ⟨_, h⟩ | ⟨hb, h⟩
        · exact h.out
        · exact EvOk.cmp2 ((ih _ _ _ h).mono (fun _ _ h => (ih _ _ _ h).mono (fun _ _ h => cmpVC_mono h.out fun v σ h => let ⟨b, h1, h2⟩ := bvc.out h; ⟨b, h1, by
            cases b
            · exact h2
            · exact (ih _ _ _ h2).mono (fun _ _ h => h.out) fun _ _ h => h⟩) fun _ _ h => h) fun _ _ h => h) hb
    · rename_i f args kws pos
      cases kws <;> first | exact h.out | skip
      cases f <;> first | exact h.out | skip
      · rcases bif_out h with ⟨hb, h⟩ | ⟨_, h⟩
        · simp only [Bool.and_eq_true] at hb
          exact EvOk.meth TO hb.1.1.1 hb.1.1.2 hb.1.2 (Nat.lt_of_le_of_lt (Nat.le_of_ble_eq_true hb.2) (by decide)) ((ih _ _ _ h).mono (fun _ _ h => let ⟨f, h1, h2⟩ := h; ⟨f, h1, (ih2 h2).mono fun _ _ h => h.out⟩) fun _ _ h => h)
        · exact h.out
      · rcases bif_out h with ⟨hb, h⟩ | ⟨_, h⟩
        · simp only [Bool.and_eq_true] at hb
          obtain ⟨h0, h⟩ := gd.out h
          split at h0
          · rename_i x _ _ v hv
            have h4 := (ih2 h).mono (L' := fun vs σ => CallOk T d X v vs Q σ) fun vs σ h => by
              obtain ⟨u, h1, h2⟩ := nmG.out h
              rw [hv] at h1; cases h1; exact h2.out
            clear h
            refine EvOk.call TO hb.1 (EvOk.glob TO ?_ hv (isGlob_out hb.2) ho)
            cases v <;> first | exact ⟨.inl h0, .inl h0, h4⟩ | skip
            rename_i y
            refine ⟨.inr (.inl ⟨y, rfl⟩), .inr fun v hv => ?_, h4⟩
            rcases hv with ⟨y, e, hv⟩ | ⟨c, y, e, _⟩
            · cases e
              have h0 : (T.g y).any (fun v => PySem.W.keepIn T.K v) = true := h0
              rw [hv] at h0; exact h0
            · cases e
          · cases h0
        · exact h.out
    · rename_i c _ _
      cases c <;> first | exact h.out | skip
      · exact EvOk.none h
      · exact EvOk.bool h
      · exact EvOk.int h
      · exact EvOk.str h
    · rcases bif_out h with ⟨hb, h⟩ | ⟨_, h⟩
      · exact EvOk.attr TO hb (ih _ _ _ h)
      · exact h.out
    · rcases bif_out h with ⟨hb, h⟩ | ⟨_, h⟩
      · exact EvOk.ix hb ((ih _ _ _ h).mono (fun _ _ h => (ih _ _ _ h).mono (fun _ _ h => h.out) fun _ _ h => h) fun _ _ h => h)
      · exact h.out
    · rcases bif_out h with ⟨hb, h⟩ | ⟨_, h⟩
      · obtain ⟨v, h1, h2⟩ := nmG.out h
        exact EvOk.nm h1 hb ho h2
      · obtain ⟨h0, h⟩ := gd.out h
        obtain ⟨v, h1, h2⟩ := nmG.out h
        exact EvOk.glob TO h2 h1 (isGlob_out h0) ho
    · rcases bif_out h with ⟨hb, h⟩ | ⟨_, h⟩
      · exact EvOk.list ((ih2 h).mono fun vs σ h => let ⟨h1, h2⟩ := gd.out h; ⟨Nat.le_trans (short_le h1) (by decide), h2⟩) hb
      · exact h.out
    · rcases bif_out h with ⟨hb, h⟩ | ⟨_, h⟩
      · exact EvOk.tup ((ih2 h).mono fun vs σ h => let ⟨h1, h2⟩ := gd.out h; ⟨Nat.le_trans (short_le h1) (by decide), h2⟩) hb
      · exact h.out
end

section
variable (T : Tp) (d : Nat) (sc : Scope) (X : QX) (ρ : Loc)
noncomputable def vAl (f : Expr → (Bool → Hp → Prop) → Hp → Prop) (op : BoolOp) : List Expr → (Bool → Hp → Prop) → Hp → Prop
  | [], B, σ => B (match op with | .And => true | .Or => false) σ
  | x :: r, B, σ => f x (fun b σ₁ => match op with
    | .And => Br b (vAl f op r B σ₁) (B false σ₁)
    | .Or => Br b (B true σ₁) (vAl f op r B σ₁)) σ
/-- what is left of a test -/
noncomputable def vT (m : Nat) : Nat → Expr → (Bool → Hp → Prop) → Hp → Prop
  | 0, e, B, σ => Tsx T d sc ρ X e B σ
  | n + 1, e, B, σ => match e with
    | .Compare l ops rs _ => (match ops, rs with
      | [op], [r] => bif behindInMarks op r then Tsx T d sc ρ X e B σ else vE T d sc X ρ m l (fun a σ₁ => vE T d sc X ρ m r (fun b σ₂ => cmpG op a b (fun v σ₃ => bvc v fun c => B c σ₃) σ₂) σ₁) σ
      | [op, op2], [r, r2] => bif behindInMarks op2 r2 then Tsx T d sc ρ X e B σ else
        vE T d sc X ρ m l (fun a σ₁ => vE T d sc X ρ m r (fun b σ₂ => cmpG op a b (fun v σ₃ => bvc v fun c => Br c (vE T d sc X ρ m r2 (fun w σ₄ => cmpG op2 b w (fun v σ₅ => bvc v fun c => B c σ₅) σ₄) σ₃) (B false σ₃)) σ₂) σ₁) σ
      | _, _ => Tsx T d sc ρ X e B σ)
    | .UnaryOp op x _ => (match op with
      | .Not => vT m n x (fun b σ₁ => B (!b) σ₁) σ
      | _ => Tsx T d sc ρ X e B σ)
    | .BoolOp op es _ => vAl (vT m n) op es B σ
    | .IfExp .. => Tsx T d sc ρ X e B σ
    | e => vE T d sc X ρ m e (fun v σ₁ => tvc v σ₁ fun b => B b σ₁) σ
end
section
variable {T : Tp} {d : Nat} {sc : Scope} {X : QX} {ρ : Loc}
theorem vAl_ok {f : Expr → (Bool → Hp → Prop) → Hp → Prop} {op : BoolOp} (hf : ∀ e B σ, f e B σ → TsOk T d sc ρ X e B σ) : ∀ {es : List Expr} {B : Bool → Hp → Prop} {σ : Hp}, vAl f op es B σ → AllOk T d sc ρ X op es B σ
  | [], _, _, h => by
    cases op
    · exact AllOk.and_nil h
    · exact AllOk.or_nil h
  | _ :: _, _, _, h => by
    have h := hf _ _ _ h
    cases op
    · exact AllOk.and_cons (h.mono fun b σ₁ h => by
        cases b
        · exact h
        · exact vAl_ok hf h)
    · exact AllOk.or_cons (h.mono fun b σ₁ h => by
        cases b
        · exact vAl_ok hf h
        · exact h)
theorem vT_ok (TO : TopOk T) (ho : scOk sc = true) (m : Nat) : ∀ n e B σ, vT T d sc X ρ m n e B σ → TsOk T d sc ρ X e B σ
  | 0, _, _, _, h => Tsx.out h
  | n + 1, e, B, σ, h => by
    have ih := vT_ok TO ho m n
    have ie := vE_ok (d := d) (X := X) (ρ := ρ) TO ho m
    have val : ∀ {e : Expr} {B : Bool → Hp → Prop} {σ : Hp}, vE T d sc X ρ m e (fun v σ₁ => tvc v σ₁ fun b => B b σ₁) σ → plainTest e = true → TsOk T d sc ρ X e B σ := fun h hp => TsOk.val ((ie _ _ _ h).mono (fun _ _ h => tvc.out h) fun _ _ h => h) hp
    cases e <;> first | exact val h rfl | exact h.out | skip
    · exact TsOk.bool (vAl_ok ih h)
    · rename_i op _ _
      cases op <;> first | exact h.out | skip
      exact TsOk.not (ih _ _ _ h)
    · rename_i l ops rs _
      rcases ops with _ | ⟨op, _ | ⟨op2, _ | ⟨_, _⟩⟩⟩ <;> rcases rs with _ | ⟨r, _ | ⟨r2, _ | ⟨_, _⟩⟩⟩ <;> first | exact h.out | skip
      · rcases bif_out h with ⟨_, h⟩ | ⟨hb, h⟩
        · exact h.out
        · exact TsOk.cmp ((ie _ _ _ h).mono (fun _ _ h => (ie _ _ _ h).mono (fun _ _ h => cmpVC_mono h.out fun v σ h => bvc.out h) fun _ _ h => h) fun _ _ h => h) hb
      · rcases bif_out h with ⟨_, h⟩ | ⟨hb, h⟩
        · exact h.out
        · exact TsOk.cmp2 ((ie _ _ _ h).mono (fun _ _ h => (ie _ _ _ h).mono (fun _ _ h => cmpVC_mono h.out fun v σ h => let ⟨b, h1, h2⟩ := bvc.out h; ⟨b, h1, by
            cases b
            · exact h2
            · exact (ie _ _ _ h2).mono (fun _ _ h => cmpVC_mono h.out fun v σ h => bvc.out h) fun _ _ h => h⟩) fun _ _ h => h) fun _ _ h => h) hb
end

/-- reversed(xs) -/
noncomputable def callView : (e : Expr) → Option { p : (Str × Pos) × Expr × Pos // e = .Call (.Name p.1.1 p.1.2) [p.2.1] [] p.2.2 }
  | .Call f [a] [] q => (nameView f).map fun p => ⟨(p.1, a, q), congrArg (Expr.Call · [a] [] q) p.2⟩
  | _ => none
/-- reversed, and what it takes -/
noncomputable def revIs (sc : Scope) (x : Str) (a : Expr) : Bool := x == ("reversed" : Str) && (isGlob sc x && noStar [a])
noncomputable def isRevT : Option V → Bool
  | some (.type n) => n == "reversed"
  | _ => false
theorem isRevT_out {o : Option V} (h : isRevT o = true) : o = some (.type "reversed") := by
  rcases o with _ | v
  · exact (Bool.false_ne_true h).elim
  · cases v <;> first | exact (Bool.false_ne_true h).elim | exact congrArg (some <| V.type ·) (eq_of_beq h)
inductive RevOk (K : V → Hp → Prop) (v : V) (σ : Hp) : Prop where
  | mk (l : Nat) (vs : List V) (h : v = .ref l) (h1 : σ[l]? = some (.list vs)) (k : K (.rev l vs.length) σ) : RevOk K v σ
/-- what a loop walks -/
noncomputable def itG (T : Tp) (sc : Scope) (f : Expr → QE → Hp → Prop) (iter : Expr) (K : V → Hp → Prop) (σ : Hp) : Prop := match callView iter with
  | some ⟨((x, _), a, _), _⟩ => bif revIs sc x a then gd (isRevT (T.gv x)) (f a (fun v σ₁ => RevOk K v σ₁) σ) else f iter K σ
  | none => f iter K σ
theorem itG_ok {T : Tp} {d : Nat} {sc : Scope} {X : QX} {ρ : Loc} {f : Expr → QE → Hp → Prop} {iter : Expr} {K : V → Hp → Prop} {σ : Hp} (TO : TopOk T) (ho : scOk sc = true) (hf : ∀ e Q σ, f e Q σ → EvOk T d sc ρ X e Q σ) (h : itG T sc f iter K σ) : ItOk T d sc ρ X iter K σ := by
  unfold itG at h
  cases hv : callView iter with
  | none => rw [hv] at h; exact (hf _ _ _ h).it
  | some p =>
    rw [hv] at h
    obtain ⟨⟨⟨x, px⟩, a, q⟩, e⟩ := p
    rcases bif_out h with ⟨hb, h⟩ | ⟨_, h⟩
    · rw [e]
      have hb := (Bool.and_eq_true_iff.mp hb).2
      have hb := Bool.and_eq_true_iff.mp hb
      obtain ⟨h0, h⟩ := gd.out h
      exact ItOk.reversed TO (EvOk.glob TO ⟨rfl, rfl⟩ (isRevT_out h0) (isGlob_out hb.1) ho) hb.2 ((hf _ _ _ h).mono (fun _ _ h => h.rec fun l vs a b c => ⟨l, vs, a, b, c⟩) fun _ _ k => k)
    · exact (hf _ _ _ h).it
section
variable (T : Tp) (d : Nat) (sc : Scope) (X : XS)
/-- two names -/
noncomputable def twoView : (e : Expr) → Option { p : (Str × Pos) × (Str × Pos) // ∃ k q, e = .Tuple [.Name p.1.1 p.1.2, .Name p.2.1 p.2.2] k q }
  | .Tuple [a, b] k q => (nameView a).bind fun x => (nameView b).map fun y => ⟨(x.1, y.1), k, q, by rw [← x.2, ← y.2]⟩
  | _ => none
/-- what is left of a for loop's head, by its target -/
noncomputable def forG (f : Expr → QE → Hp → Prop) (t iter : Expr) (body : List Stmt) (R : Prop) (K : QS) (ρ : Loc) (σ : Hp) : Prop := match nameView t with
  | some ⟨(x, _), _⟩ => bif isStore sc x && noSet iter && !T.hd then itG T sc f iter (fun v σ₁ => ForOk T d sc X (nx1 x) body K v ρ σ₁) σ else R
  | none => (match twoView t with
    | some ⟨((a, _), (b, _)), _⟩ => bif isStore sc a && isStore sc b && noSet iter && !T.hd then itG T sc f iter (fun v σ₁ => ForOk T d sc X (nx2 a b) body K v ρ σ₁) σ else R
    | none => R)
noncomputable def asgG (f : Expr → QE → Hp → Prop) (t value : Expr) (R : Prop) (K : QS) (ρ : Loc) (σ : Hp) : Prop := match t with
  | .Name x _ => bif isStore sc x then f value (fun v σ' => K .next (upd ρ x (some v)) σ') σ else R
  | .Attribute o a _ => f value (fun v σ₁ => f o (fun ov σ₂ => SetAttrOk T a ρ K v ov σ₂) σ₁) σ
  | .Subscript o i _ => f value (fun v σ₁ => f o (fun ov σ₂ => f i (fun iv σ₃ => SetItemOk ρ K v ov iv σ₃) σ₂) σ₁) σ
  | _ => R
noncomputable def isCell (x : Str) : Bool := match sc.names.lookup x with | some .cell => true | _ => false
noncomputable def isLocal (x : Str) : Bool := match sc.names.lookup x with | some .local => true | _ => false
/-- [..] -/
noncomputable def listView : (e : Expr) → Option { p : (Expr × List Comprehension) × Scope × Pos // e = .ListComp p.1.1 p.1.2 p.2.1 p.2.2 }
  | .ListComp elt gens scope pos => some ⟨((elt, gens), scope, pos), rfl⟩
  | _ => none
/-- x = [..] -/
noncomputable def asgC (f : Expr → QE → Hp → Prop) (t value : Expr) (R : Prop) (K : QS) (ρ : Loc) (σ : Hp) : Prop := match nameView t with
  | some ⟨(y, py), _⟩ => bif isCell sc y then f value (fun v σ' => K .next (upd ρ y (some v)) σ') σ else
    match listView value with
    | some ⟨((elt, gens), scope, pos), _⟩ => bif isLocal sc y && (py.line == pos.line && !(scope.names.any fun (n, k) => n == y && (k == .local || k == .cell))) then compG T d sc X ρ f elt gens scope R (fun w σ => K .next (upd ρ y (some w)) σ) σ else R
    | none => R
  | none => R
/-- what is left of statements -/
noncomputable def vB : Nat → List Stmt → QS → Loc → Hp → Prop
  | 0, ss, Q, ρ, σ => ExOk T d sc ρ X ss Q σ
  | n + 1, ss, Q, ρ, σ => match ss with
    | [] => Q .next ρ σ
    | st :: r => (fun K : QS => match st with
      | .Assign [t] value _ => bif noComp value then asgG T sc (vE T d sc X ρ 40) t value (Stx T d sc ρ X st K σ) K ρ σ else asgC T d sc X (vE T d sc X ρ 40) t value (Stx T d sc ρ X st K σ) K ρ σ
      | .If e b o _ => vT T d sc X ρ 40 10 e (fun t σ' => Br t (vB n b K ρ σ') (vB n o K ρ σ')) σ
      | .Return (some e) _ => vE T d sc X ρ 40 e (fun v σ' => Q (.ret v) ρ σ') σ
      | .Return none _ => Q (.ret .none) ρ σ
      | .Expr e _ => bif noComp e then vE T d sc X ρ 40 e (fun _ σ' => K .next ρ σ') σ else Stx T d sc ρ X st K σ
      | .Pass _ => K .next ρ σ
      | .Break _ => Q .brk ρ σ
      | .Continue _ => Q .cont ρ σ
      | .For t iter body [] _ => forG T d sc X (vE T d sc X ρ 40) t iter body (Stx T d sc ρ X st K σ) K ρ σ
      | st => Stx T d sc ρ X st K σ) fun fl ρ' σ' => match fl with | .next => vB n r Q ρ' σ' | fl => Q fl ρ' σ'
end
section
variable {T : Tp} {d : Nat} {sc : Scope} {X : XS}
theorem asgG_ok {f : Expr → QE → Hp → Prop} {t value : Expr} {pos : Pos} {K : QS} {ρ : Loc} {σ : Hp} (TO : TopOk T) (hf : ∀ e Q σ, f e Q σ → EvOk T d sc ρ X e Q σ) (hc : noComp value = true)
    (h : asgG T sc f t value (Stx T d sc ρ X (.Assign [t] value pos) K σ) K ρ σ) : StOk T d sc ρ X (.Assign [t] value pos) K σ := by
  cases t <;> first | exact h.out | skip
  · exact StOk.setAttr TO ((hf _ _ _ h).mono (fun _ _ h => hf _ _ _ h) fun _ _ h => h) hc
  · exact StOk.setItem ((hf _ _ _ h).mono (fun _ _ h => (hf _ _ _ h).mono (fun _ _ h => hf _ _ _ h) fun _ _ h => h) fun _ _ h => h) hc
  · rcases bif_out h with ⟨hb, h⟩ | ⟨_, h⟩
    · exact StOk.assign (hf _ _ _ h) hc hb
    · exact h.out
theorem isCell_out {x : Str} (h : isCell sc x = true) : sc.names.lookup x = some .cell := by
  unfold isCell at h
  generalize sc.names.lookup x = o at h ⊢
  rcases o with _ | k
  · exact (Bool.false_ne_true h).elim
  · cases k <;> first | exact (Bool.false_ne_true h).elim | rfl
theorem isLocal_out {x : Str} (h : isLocal sc x = true) : sc.names.lookup x = some .local := by
  unfold isLocal at h
  generalize sc.names.lookup x = o at h ⊢
  rcases o with _ | k
  · exact (Bool.false_ne_true h).elim
  · cases k <;> first | exact (Bool.false_ne_true h).elim | rfl
theorem asgC_ok {f : Expr → QE → Hp → Prop} {t value : Expr} {pos : Pos} {K : QS} {ρ : Loc} {σ : Hp} (hf : ∀ e Q σ, f e Q σ → EvOk T d sc ρ X e Q σ)
    (h : asgC T d sc X f t value (Stx T d sc ρ X (.Assign [t] value pos) K σ) K ρ σ) : StOk T d sc ρ X (.Assign [t] value pos) K σ := by
  unfold asgC at h
  cases hv : nameView t with
  | none => rw [hv] at h; exact h.out
  | some y =>
    rw [hv] at h
    obtain ⟨⟨y, py⟩, ey⟩ := y
    rcases bif_out h with ⟨hb, h⟩ | ⟨_, h⟩
    · rw [ey]; exact StOk.assignCell (hf _ _ _ h) (isCell_out hb)
    cases hl : listView value with
    | none => rw [hl] at h; exact h.out
    | some p =>
      rw [hl] at h
      obtain ⟨⟨⟨elt, gens⟩, scope, ps⟩, ep⟩ := p
      rcases bif_out h with ⟨hb, h⟩ | ⟨_, h⟩
      · rw [Bool.and_eq_true] at hb
        rcases compG.out h with h | ⟨x, q, iter, ifs, e, h1, h2, h3, h4, h⟩
        · exact h.out
        · rw [ey, ep, e]; exact StOk.assignComp h1 h2 h3 (isLocal_out hb.1) hb.2 (hf _ _ _ h) h4
      · exact h.out
theorem forG_ok {f : Expr → QE → Hp → Prop} {t iter : Expr} {body : List Stmt} {pos : Pos} {K : QS} {ρ : Loc} {σ : Hp} (TO : TopOk T) (ho : scOk sc = true) (hf : ∀ e Q σ, f e Q σ → EvOk T d sc ρ X e Q σ)
    (h : forG T d sc X f t iter body (Stx T d sc ρ X (.For t iter body [] pos) K σ) K ρ σ) : StOk T d sc ρ X (.For t iter body [] pos) K σ := by
  unfold forG at h
  cases hv : nameView t with
  | some x =>
    rw [hv] at h
    obtain ⟨⟨x, px⟩, ex⟩ := x
    rcases bif_out h with ⟨hb, h⟩ | ⟨_, h⟩
    · simp only [Bool.and_eq_true, Bool.not_eq_true'] at hb
      rw [ex]; exact StOk.forG (itG_ok TO ho hf h) (asg_nm hb.1.1) hb.1.2 hb.2
    · exact h.out
  | none =>
    rw [hv] at h
    dsimp only at h
    cases hw : twoView t with
    | none => rw [hw] at h; exact h.out
    | some p =>
      rw [hw] at h
      obtain ⟨⟨⟨a, pa⟩, ⟨b, pb⟩⟩, k, q, e⟩ := p
      rcases bif_out h with ⟨hb, h⟩ | ⟨_, h⟩
      · simp only [Bool.and_eq_true, Bool.not_eq_true'] at hb
        rw [e]; exact StOk.forG (itG_ok TO ho hf h) (asg_two hb.2 hb.1.1.1 hb.1.1.2) hb.1.2 hb.2
      · exact h.out
theorem vB_ok (TO : TopOk T) (ho : scOk sc = true) : ∀ n ss Q ρ σ, vB T d sc X n ss Q ρ σ → ExOk T d sc ρ X ss Q σ
  | 0, _, _, _, _, h => h
  | n + 1, ss, Q, ρ, σ, h => by
    have ie := fun ρ => vE_ok (d := d) (X := X) (ρ := ρ) TO ho 40
    have it := fun ρ => vT_ok (d := d) (X := X) (ρ := ρ) TO ho 40 10
    have ih := vB_ok TO ho n
    cases ss with
    | nil => exact ExOk.nil h
    | cons st r =>
      refine ExOk.cons (StOk.mono (Q := fun fl ρ' σ' => match fl with | .next => vB T d sc X n r Q ρ' σ' | fl => Q fl ρ' σ') ?_ (fun fl ρ' σ' h => ?_) fun _ _ h => h)
      rotate_left
      · cases fl <;> first | exact h | exact ih _ _ _ _ h
      cases st <;> first | exact h.out | skip
      · rename_i e _
        cases e
        · exact StOk.retNone h
        · exact StOk.ret (ie _ _ _ _ h)
      · rename_i ts value _
        rcases ts with _ | ⟨t, _ | ⟨_, _⟩⟩ <;> first | exact h.out | skip
        rcases bif_out h with ⟨hc, h⟩ | ⟨_, h⟩
        · exact asgG_ok TO (ie ρ) hc h
        · exact asgC_ok (ie ρ) h
      · rename_i t iter body orelse _
        cases orelse <;> first | exact h.out | skip
        exact forG_ok TO ho (ie ρ) h
      · exact StOk.ite ((it _ _ _ _ h).mono fun b σ h => by
          cases b
          · exact ih _ _ _ _ h
          · exact ih _ _ _ _ h)
      · rcases bif_out h with ⟨hc, h⟩ | ⟨_, h⟩
        · exact StOk.expr (ie _ _ _ _ h) hc
        · exact h.out
      · exact StOk.pass h
      · exact StOk.brk h
      · exact StOk.cont h
end
end Mine

namespace Mine
open PySem PySem.Calls PyProof.Rows PySem.SeqAt

/-- what is known of the names -/
noncomputable def Has (ρ : Loc) : List (Str × V) → Prop
  | [] => True
  | (k, v) :: r => ρ k = some v ∧ Has ρ r
noncomputable def locs (ρ : Loc) : List (Str × V) → Loc
  | [] => ρ
  | (k, v) :: r => upd (locs ρ r) k (some v)
theorem Has.eq {ρ : Loc} : ∀ {kvs : List (Str × V)}, Has ρ kvs → locs ρ kvs = ρ
  | [], _ => rfl
  | (k, v) :: r, h => by
    show upd (locs ρ r) k (some v) = ρ
    rw [Has.eq h.2]
    funext y
    unfold upd
    split
    · next e => rw [e]; exact h.1.symm
    · rfl
theorem ite_no {c : Prop} [Decidable c] {A B : Prop} (h : ¬ c) (q : B) : ite c A B := by rw [if_neg h]; exact q
theorem ite_yes {c : Prop} [Decidable c] {A B : Prop} (h : c) (q : A) : ite c A B := by rw [if_pos h]; exact q
theorem Has.use {ρ : Loc} {kvs : List (Str × V)} (h : Has ρ kvs) : ∃ r, ρ = locs r kvs := ⟨ρ, h.eq.symm⟩

section
variable {T : Tp} {d : Nat} {sc : Scope} {X : QX} {Q : QE} {σ : Hp}
/-- a function of the program, called -/
theorem CallOk.go {x : Str} {ps : List Str} {body : List Stmt} {args : List V} (TO : TopOk T) (e : (T.g x).bind (fnIn T.K) = some (ps, body, sc)) (hl : args.length = ps.length)
    (hb : vB T d sc X 60 body (retQ Q) (bindLoc (fun _ => none) ps args) σ) : CallOk T (d + 1) X (.glob x) args Q σ := Exists.elim (Option.bind_eq_some_iff.mp e) fun _ e => CallOk.fn TO (FnV.glob e.1 (fnIn_out e.2).1) hl (vB_ok TO (fnIn_out e.2).2 _ _ _ _ _ hb)
/-- a method of the program, called -/
theorem CodeOk.goM {c x : Str} {ps : List Str} {body : List Stmt} {args : List V} (TO : TopOk T) (e : (T.m c x).bind (fnIn T.K) = some (ps, body, sc)) (hl : args.length = ps.length)
    (hb : vB T d sc X 60 body (retQ Q) (bindLoc (fun _ => none) ps args) σ) : CodeOk T (d + 1) X (.mth c x) args Q σ := Exists.elim (Option.bind_eq_some_iff.mp e) fun _ e => CodeOk.fn TO (FnV.mth e.1 (fnIn_out e.2).1) hl (vB_ok TO (fnIn_out e.2).2 _ _ _ _ _ hb)
theorem CallOk.goM {c x : Str} {ps : List Str} {body : List Stmt} {args : List V} (TO : TopOk T) (e : (T.m c x).bind (fnIn T.K) = some (ps, body, sc)) (hl : args.length = ps.length)
    (hb : vB T d sc X 60 body (retQ Q) (bindLoc (fun _ => none) ps args) σ) : CallOk T (d + 1) X (.mth c x) args Q σ := (CodeOk.goM TO e hl hb).call
theorem CallOk.goX {x : Str} {ps : List Str} {body : List Stmt} {args : List V} (TO : TopOk T) (e : (T.g x).bind (fnIn T.K) = some (ps, body, sc)) (hl : args.length = ps.length)
    (hb : ExOk T d sc (bindLoc (fun _ => none) ps args) X body (retQ Q) σ) : CallOk T (d + 1) X (.glob x) args Q σ := Exists.elim (Option.bind_eq_some_iff.mp e) fun _ e => CallOk.fn TO (FnV.glob e.1 (fnIn_out e.2).1) hl hb

/-- the calls of built-ins, closed -/
theorem Cal.len {v : V} {n : Nat} (e : lenV σ v = some n) (hn : n < 2 ^ 62) (q : Q (.int n) σ) : Cal T d X (.bi "len") [v] Q σ := ⟨CallOk.len e hn q⟩
theorem Cal.lenT {vs : List V} (h : short vs 100 = true) (q : Q (.int vs.length) σ) : Cal T d X (.bi "len") [.tup vs] Q σ := .len rfl (Nat.lt_of_le_of_lt (short_le h) (by decide)) q
theorem Cal.isi {v : V} {ty : String} {b : Bool} (e : isiV σ v ty = some b) (q : Q (.bool b) σ) : Cal T d X (.bi "isinstance") [v, .type ty] Q σ := ⟨CallOk.isi e q⟩
theorem Cal.ord {c : Nat} (q : Q (.int c) σ) : Cal T d X (.bi "ord") [.str ⟨#[c]⟩] Q σ := ⟨CallOk.ord q⟩
theorem Cal.range {n : Int} (q : Q (.rng n) σ) : Cal T d X (.type "range") [.int n] Q σ := ⟨CallOk.range q⟩
theorem Cal.list {v : V} {vs : List V} (e : seqV σ v = some vs) (hn : vs.length ≤ sizeLine) (q : Q (.ref σ.length) (σ ++ [.list vs])) : Cal T d X (.type "list") [v] Q σ := ⟨CallOk.list e hn q⟩

/-- what is read of a list's place, as lemmas -/
theorem iter_list {l : Nat} {vs : List V} (h : σ[l]? = some (.list vs)) : iterV σ (.ref l) = some vs := atL_of h
theorem iter_rev {l : Nat} {vs : List V} (h : σ[l]? = some (.list vs)) : iterV σ (.rev l vs.length) = some vs.reverse := (atL_of h).trans (if_pos rfl)
theorem seq_list {l : Nat} {vs : List V} (h : σ[l]? = some (.list vs)) : seqV σ (.ref l) = some vs := atL_of h
theorem kn_list {l : Nat} {vs : List V} (h : σ[l]? = some (.list vs)) : kindName σ (.ref l) = some "list" := atL_of h
theorem isi_list {l : Nat} {vs : List V} (h : σ[l]? = some (.list vs)) : isiV σ (.ref l) "list" = some true := by unfold isiV; rw [kn_list h]; rfl
theorem truth_list {l : Nat} {vs : List V} (h : σ[l]? = some (.list vs)) (hl : vs.length < 1000000000) : truthV (.ref l) σ = some (!vs.isEmpty) := (atL_of h).trans (if_pos hl)
theorem truth_cons {l : Nat} {vs : List V} (h : σ[l]? = some (.list vs)) (hl : vs.length < 1000000000) (h0 : vs.isEmpty = false) : truthV (.ref l) σ = some true := (truth_list h hl).trans (congrArg (fun b => some (!b)) h0)
theorem len_tup {vs : List V} {n : Nat} (h : vs.length = n) : lenV σ (.tup vs) = some n := congrArg some h
theorem len_str_ {x : Str} {n : Nat} (h : x.length = n) : lenV σ (.str x) = some n := congrArg some h
theorem len_at {l n : Nat} {vs : List V} (h : σ[l]? = some (.list vs)) (hn : vs.length = n) : lenV σ (.ref l) = some n := (len_list h).trans (congrArg some hn)

/-- the methods of lists -/
theorem kind_list {l : Nat} {vs : List V} (h : σ[l]? = some (.list vs)) : kindV σ (.ref l) = some "list" := congrArg kindO h
theorem MethOk.bi {ov : V} {name : Str} {id ty : String} {K : V → Prop} (h1 : kindV σ ov = some ty) (h2 : MethFacts ty name id) (k : K (.bi id)) : MethOk T ov name σ K := ⟨.bi id, .bi h1 h2, k⟩
theorem MethOk.append {l : Nat} {vs : List V} {K : V → Prop} (h : σ[l]? = some (.list vs)) (k : K (.bi "list.append")) : MethOk T (.ref l) "append" σ K := .bi (kind_list h) m_append k
theorem MethOk.pop {l : Nat} {vs : List V} {K : V → Prop} (h : σ[l]? = some (.list vs)) (k : K (.bi "list.pop")) : MethOk T (.ref l) "pop" σ K := .bi (kind_list h) m_pop k
theorem MethOk.extend {l : Nat} {vs : List V} {K : V → Prop} (h : σ[l]? = some (.list vs)) (k : K (.bi "list.extend")) : MethOk T (.ref l) "extend" σ K := .bi (kind_list h) m_extend k
theorem MethOk.join {x : Str} {K : V → Prop} (k : K (.bi "str.join")) : MethOk T (.str x) "join" σ K := .bi (ty := "str") rfl m_join k
theorem Itm.list {l : Nat} {vs : List V} {k : Int} {j : Nat} {v : V} (e0 : σ[l]? = some (.list vs)) (e1 : seqIndex? k vs.length = some j) (e2 : vs[j]? = some v) (e3 : sm63 k) (q : Q v σ) : Itm (.ref l) (.int k) Q σ := ⟨i_list e0 e1 e2 e3 q⟩
theorem Cmp.inR {neg r : Bool} {a b : V} (h : InR σ a b r) (q : Q (.bool (neg != r)) σ) : Cmp (if neg then .NotIn else .In) a b Q σ := by
  cases neg
  · exact ⟨r, .isin _ _ _ h, Bool.false_bne r ▸ q⟩
  · exact ⟨!r, .nin _ _ _ h, Bool.true_bne r ▸ q⟩
theorem Cmp.inD {k : Str} {l : Nat} {kvs : List (Str × V)} {r : Bool} (h : σ[l]? = some (.sdict kvs)) (e : (kvs.any fun kv => kv.1 = k) = r) (q : Q (.bool r) σ) : Cmp .In (.str k) (.ref l) Q σ := ⟨r, .isin _ _ _ (e ▸ .dict _ _ _ h), q⟩
theorem Cmp.ninD {k : Str} {l : Nat} {kvs : List (Str × V)} {r : Bool} (h : σ[l]? = some (.sdict kvs)) (e : (kvs.any fun kv => kv.1 = k) = r) (q : Q (.bool (!r)) σ) : Cmp .NotIn (.str k) (.ref l) Q σ := ⟨_, .nin _ _ _ (e ▸ .dict _ _ _ h), q⟩
theorem Cmp.eqR {a b : V} {da db : PyData} {r : Bool} (h1 : Deep σ da a) (h2 : Deep σ db b) (h3 : da.depth ≤ 40) (e : PyData.eqv da db = r) (q : Q (.bool r) σ) : Cmp .Eq a b Q σ := ⟨r, e ▸ .eq _ _ _ _ h1 h2 h3, q⟩
theorem Cmp.neR {a b : V} {da db : PyData} {r : Bool} (h1 : Deep σ da a) (h2 : Deep σ db b) (h3 : da.depth ≤ 40) (e : PyData.eqv da db = r) (q : Q (.bool (!r)) σ) : Cmp .NotEq a b Q σ := ⟨_, .ne _ _ _ _ h1 h2 h3, e ▸ q⟩
theorem Cmp.isN {v : V} {r : Bool} (h : isNoneV v = some r) (q : Q (.bool r) σ) : Cmp .Is v .none Q σ := ⟨r, .isN _ _ h, q⟩
theorem Cmp.notN {v : V} {r : Bool} (h : isNoneV v = some r) (q : Q (.bool (!r)) σ) : Cmp .IsNot v .none Q σ := ⟨_, .notN _ _ h, q⟩
theorem Bin.cat {s t : Str} (k : s.length + t.length ≤ sizeLine) (h : Q (.str (s ++ t)) σ) : Bin .Add (.str s) (.str t) Q σ := ⟨_, _, .cat _ _ k, h⟩
theorem Bin.mull {x y : Int} (k : decide (-(2 ^ 64) < x ∧ x < 2 ^ 64) = true) (h : Q (.int (x * y)) σ) : Bin .Mult (.int x) (.int y) Q σ := ⟨_, _, .mul _ _ (.inl (of_decide_eq_true k : -(2 ^ 64) < x ∧ x < 2 ^ 64)), h⟩
theorem Bin.lists {l m : Nat} {xs ys : List V} (h1 : σ[l]? = some (.list xs)) (h2 : σ[m]? = some (.list ys)) (h3 : xs.length + ys.length ≤ sizeLine) (h : Q (.ref σ.length) (σ ++ [.list (xs ++ ys)])) : Bin .Add (.ref l) (.ref m) Q σ := ⟨_, _, .lists _ _ _ _ h1 h2 h3, h⟩
end
end Mine

set_option maxRecDepth 100000
namespace Mine
open PySem PySem.Calls PyProof.Rows PySem.SeqAt

section
variable {T : Tp} {d : Nat} {sc : Scope} {ρ : Loc} {X : QX} {Q : QE} {σ : Hp}
end

/-- a block in two -/
theorem execs_append (env : Env) (r : List Stmt) : ∀ ss : List Stmt, execs (ss ++ r) env = (execs ss env >>= fun f => match f with | .next => execs r env | f => pure f)
  | [] => by
    rw [List.nil_append, show execs [] env = pure Flow.next from rfl, pure_bind]
  | st :: ss => by
    rw [List.cons_append, execs_cons, execs_cons, bind_assoc]
    congr 1
    funext f
    cases f
    · exact execs_append env r ss
    · exact (pure_bind _ _).symm
    · exact (pure_bind _ _).symm
    · exact (pure_bind _ _).symm
theorem ExOk.cutAt {T : Tp} {d : Nat} {sc : Scope} {ρ : Loc} {X : XS} {Q : QS} {σ : Hp} {ss : List Stmt} (k : Nat) (P : Loc → Hp → Prop) (h1 : ExOk T d sc ρ X (ss.take k) (fun fl ρ' σ' => match fl with | .next => P ρ' σ' | fl => Q fl ρ' σ') σ) (h2 : ∀ ρ' σ', P ρ' σ' → ExOk T d sc ρ' X (ss.drop k) Q σ') : ExOk T d sc ρ X ss Q σ := by
  intro env A fs F ι s hsc I
  rw [← List.take_append_drop k ss, execs_append]
  refine wpAny_bind (wpAny_mono (h1 env A fs F ι s hsc I) (fun f s₁ p => ?_) fun _ _ p => p)
  obtain ⟨fl, ρ', σ', ι', q, r, i, e⟩ := p
  induction r with
  | next => exact wpAny_mono (h2 _ _ q env A fs F ι' s₁ hsc i) (fun _ _ p => p.trans e) fun _ _ p => p.trans e
  | brk => exact wpAny_pure ⟨_, ρ', σ', ι', q, .brk, i, e⟩
  | cont => exact wpAny_pure ⟨_, ρ', σ', ι', q, .cont, i, e⟩
  | ret r => exact wpAny_pure ⟨_, ρ', σ', ι', q, .ret r, i, e⟩
end Mine

namespace Mine
open PySem PySem.Calls PyProof.Rows PySem.SeqAt

/-- an empty dict: its keys may be pairs as well -/
theorem Rep.retag {T : Tp} {ι : Inj} {σ : Hp} {h : Heap} (r : Rep T ι σ h) {k : Nat} (hk : σ[k]? = some (.sdict [])) : Rep T ι (σ.set k (.tdict [])) h where
  len := by simp [r.len]
  big := r.big
  size := r.size
  base := r.base
  objs := fun l o p e q => by
    by_cases hl : k = l
    · subst hl
      rw [List.getElem?_set_self (List.getElem?_eq_some_iff.mp hk).1] at e
      cases e
      obtain ⟨h0, rvs, ⟨o, es, ep, h1, h2, h3, _, h5, _⟩, h7⟩ := r.objs k _ p hk q
      cases rvs with
      | cons => cases h7
      | nil =>
        refine ⟨h0, [], ⟨o, es, ep, h1, h2, h3, ?_, fun _ hx => by simp at hx, List.nodup_nil⟩, .nil⟩
        cases hs : es.toList with
        | nil => rfl
        | cons => rw [hs] at h5; cases h5
    · rw [List.getElem?_set_ne hl] at e
      exact r.objs l o p e q
  fresh := r.fresh
  apart := r.apart
theorem CallOk.retag {T : Tp} {d : Nat} {X : QX} {f : V} {args : List V} {Q : QE} {σ : Hp} (h : CallOk T d X f args (fun v σ' => ∃ k, σ'[k]? = some (.sdict []) ∧ Q v (σ'.set k (.tdict []))) σ) : CallOk T d X f args Q σ := by
  intro A fs ι s fv xs S rf rxs
  refine wpAny_mono (h A fs ι s fv xs S rf rxs) (fun x s' p => ?_) fun _ _ p => p
  obtain ⟨v, σ', ι', ⟨k, hk, q⟩, rv, rp, ex, g, o⟩ := p
  exact ⟨v, _, ι', q, rv, rp.retag hk, ex, g, o⟩

section
variable {T : Tp} {d : Nat} {X : QX} {Q : QE} {σ : Hp}
theorem Cmp.pairs {neg : Bool} {k : Str × Int} {l : Nat} {kvs : List ((Str × Int) × V)} (hl : σ[l]? = some (.tdict kvs)) (q : Q (.bool (neg != kvs.any fun kv => kv.1 = k)) σ) : Cmp (if neg then .NotIn else .In) (.tup [.str k.1, .int k.2]) (.ref l) Q σ := .inR (.tdict _ _ _ hl) q
theorem Itm.pair {l : Nat} {k : Str × Int} {kvs : List ((Str × Int) × V)} {v : V} (h1 : σ[l]? = some (.tdict kvs)) (h2 : (kvs.find? fun kv => kv.1 = k).map (·.2) = some v) (q : Q v σ) : Itm (.ref l) (.tup [.str k.1, .int k.2]) Q σ := ⟨⟨v, .tdict _ _ _ _ h1 h2, q⟩⟩
theorem SetItemOk.pair {l : Nat} {k : Str × Int} {kvs : List ((Str × Int) × V)} {v : V} {ρ : Loc} {K : QS} (h1 : σ[l]? = some (.tdict kvs)) (h2 : kvs.length ≤ sizeLine) (q : K .next ρ (σ.set l (.tdict (setTK kvs k v)))) : SetItemOk ρ K v (.ref l) (.tup [.str k.1, .int k.2]) σ := .pr l k kvs rfl rfl h1 h2 q
end
end Mine

section

namespace Mine
open PySem PySem.Calls PyProof.Rows PySem.SeqAt

/-- what is asked of a value, on the mini level -/
noncomputable def isSignC (c : Nat) : Bool := c == 10 || c == 9 || (decide (32 ≤ c) && decide (c ≤ 126) && c != 37)
noncomputable def isSignV : V → Bool
  | .str x => (match x.cps.toList with | [c] => isSignC c | _ => false)
  | _ => false
noncomputable def shortV : V → Prop
  | .str x => x.length < 2 ^ 62
  | .tup vs => vs.length < 2 ^ 62
  | _ => True
theorem sz (n : Nat) (h : Nat.ble n 1000 = true) : n ≤ sizeLine := Nat.le_trans (Nat.le_of_ble_eq_true h) (by decide)
theorem szo {n : Nat} (h : n ≤ 16777216) : n ≤ sizeLine := sizeLine_eq ▸ h
theorem len1 {α : Type} {l : List α} (h : l.length = 1) : ∃ a, l = [a] := by
  cases l with
  | nil => cases h
  | cons a r => cases r with
    | nil => exact ⟨a, rfl⟩
    | cons b r => cases h
theorem str_one {x : Str} (h : x.length = 1) : ∃ c, x = ⟨#[c]⟩ := by
  obtain ⟨a⟩ := x
  have : a.size = 1 := h
  match hl : a.toList, (by rw [← Array.length_toList] at this; exact this : a.toList.length = 1) with
  | [c], _ => exact ⟨c, by congr 1; exact Array.toList_inj.mp (by rw [hl])⟩
theorem beq_ch {a b : Nat} : ((⟨#[a]⟩ : Str) == ⟨#[b]⟩) = (a == b) := by
  by_cases e : a = b
  · subst e; simp
  · have e2 : (⟨#[a]⟩ : Str) ≠ ⟨#[b]⟩ := fun q => e (by injection q with q; simpa using q)
    rw [beq_eq_false_iff_ne.mpr e2, beq_eq_false_iff_ne.mpr e]
theorem isSignV_one {c : Nat} : isSignV (.str ⟨#[c]⟩) = isSignC c := rfl
theorem isSignV_long {x : Str} (h : x.length ≠ 1) : isSignV (.str x) = false := by
  show (match x.cps.toList with | [c] => isSignC c | _ => false) = false
  split
  · rename_i c hc
    exact absurd (show x.cps.size = 1 by rw [← Array.length_toList, hc]; rfl) h
  · rfl
end Mine

set_option genSizeOf false
set_option genInjectivity false
namespace Mine
open PySem PySem.Calls PyProof.Rows PySem.SeqAt

/-- the parts of a grammar -/
inductive Pt where
  | sign (c : Nat)
  | span (a b : Nat)
  | any
  | rule (n : Str)
  | row (ps : List Pt)
  | alt (ps : List Pt)
  | many (p : Pt)
  | nt (p : Pt)

mutual
noncomputable def Pt.v : Pt → V
  | .sign c => .tup [.str "sign", .str ⟨#[c]⟩]
  | .span a b => .tup [.str "span", .str ⟨#[a]⟩, .str ⟨#[b]⟩]
  | .any => .tup [.str "any"]
  | .rule n => .tup [.str "rule", .str n]
  | .row ps => .tup [.str "row", .tup (Pt.vs ps)]
  | .alt ps => .tup [.str "or", .tup (Pt.vs ps)]
  | .many p => .tup [.str "many", p.v]
  | .nt p => .tup [.str "not", p.v]
noncomputable def Pt.vs : List Pt → List V
  | [] => []
  | p :: r => p.v :: Pt.vs r
end
theorem Pt.vs_map : ∀ ps : List Pt, Pt.vs ps = ps.map Pt.v
  | [] => by simp [Pt.vs]
  | p :: r => by simp [Pt.vs, Pt.vs_map r]

noncomputable def Pt.kids : Pt → List Pt
  | .row ps | .alt ps => ps
  | .many p | .nt p => [p]
  | .sign _ | .span _ _ | .any | .rule _ => []
noncomputable def Pt.word : Pt → Str
  | .sign _ => "sign" | .span _ _ => "span" | .any => "any" | .rule _ => "rule" | .row _ => "row" | .alt _ => "or" | .many _ => "many" | .nt _ => "not"
mutual
noncomputable def Pt.deep : Pt → Nat
  | .row ps | .alt ps => Pt.deeps ps + 1
  | .many p | .nt p => p.deep + 1
  | .sign _ | .span _ _ | .any | .rule _ => 1
noncomputable def Pt.deeps : List Pt → Nat
  | [] => 0
  | p :: r => max p.deep (Pt.deeps r)
end
mutual
noncomputable def Pt.size : Pt → Nat
  | .row ps | .alt ps => Pt.sizes ps + 1
  | .many p | .nt p => p.size + 1
  | .sign _ | .span _ _ | .any | .rule _ => 1
noncomputable def Pt.sizes : List Pt → Nat
  | [] => 0
  | p :: r => p.size + Pt.sizes r
end
mutual
/-- good parts: what is_part takes -/
noncomputable def Pt.good : Pt → Bool
  | .sign c => isSignC c
  | .span a b => isSignC a && isSignC b && decide (a ≤ b)
  | .any => true
  | .rule _ => true
  | .row ps => Pt.goods ps
  | .alt ps => !ps.isEmpty && Pt.goods ps
  | .many p | .nt p => p.good
noncomputable def Pt.goods : List Pt → Bool
  | [] => true
  | p :: r => p.good && Pt.goods r
end
end Mine

namespace Mine
open PySem PySem.Calls PyProof.Rows PySem.SeqAt

section
variable {σ r : Hp} {a b a' : MObj}
theorem get0 : (σ ++ a :: r)[σ.length]? = some a := by simp
theorem set0 : (σ ++ a :: r).set σ.length a' = σ ++ a' :: r := by simp
theorem get1 : (σ ++ a :: b :: r)[σ.length + 1]? = some b := by
  rw [List.getElem?_append_right (by exact Nat.le_of_lt (Nat.lt_succ_self (List.length σ)))]; simp
theorem set1 : (σ ++ a :: b :: r).set (σ.length + 1) a' = σ ++ a :: a' :: r := by
  rw [List.set_append_right _ _ (by exact Nat.le_of_lt (Nat.lt_succ_self (List.length σ)))]; simp
end

/-- the rules that a part asks -/
inductive Pt.Asks : Pt → Str → Prop where
  | here {n : Str} : Pt.Asks (.rule n) n
  | deep {p q : Pt} {n : Str} : q ∈ p.kids → Pt.Asks q n → Pt.Asks p n

theorem Pt.size_pos (p : Pt) : 1 ≤ p.size := by cases p <;> simp [Pt.size]
theorem Pt.sizes_append : ∀ a b : List Pt, Pt.sizes (a ++ b) = Pt.sizes a + Pt.sizes b
  | [], b => by simp [Pt.sizes]
  | p :: r, b => by simp [Pt.sizes, Pt.sizes_append r b]; lia
theorem Pt.kids_size (p : Pt) : Pt.sizes p.kids + 1 ≤ p.size := by
  cases p <;> simp [Pt.kids, Pt.size, Pt.sizes]
theorem Pt.deep_pos (p : Pt) : 1 ≤ p.deep := by cases p <;> simp [Pt.deep]
theorem Pt.deeps_mem {ps : List Pt} {p : Pt} (h : p ∈ ps) : p.deep ≤ Pt.deeps ps := by
  induction ps with
  | nil => cases h
  | cons a r ih =>
    rw [Pt.deeps]
    rcases List.mem_cons.mp h with rfl | h
    · exact Nat.le_max_left ..
    · exact Nat.le_trans (ih h) (Nat.le_max_right ..)
theorem Pt.goods_mem {ps : List Pt} {p : Pt} (hg : Pt.goods ps = true) (h : p ∈ ps) : p.good = true := by
  induction ps with
  | nil => cases h
  | cons a r ih =>
    rw [Pt.goods, Bool.and_eq_true] at hg
    rcases List.mem_cons.mp h with rfl | h
    · exact hg.1
    · exact ih hg.2 h
theorem Pt.kids_deep {p q : Pt} (h : q ∈ p.kids) : q.deep + 1 ≤ p.deep := by
  cases p <;> simp only [Pt.kids, List.not_mem_nil, List.mem_singleton] at h
  · rw [Pt.deep]; exact Nat.succ_le_succ (Pt.deeps_mem h)
  · rw [Pt.deep]; exact Nat.succ_le_succ (Pt.deeps_mem h)
  · subst h; rw [Pt.deep]; exact Nat.le_refl _
  · subst h; rw [Pt.deep]; exact Nat.le_refl _

/-- no row or choice of more parts than this -/
noncomputable def Pt.few : Pt → Prop := fun p => p.kids.length < 1000

inductive Pt.All (P : Pt → Prop) : Pt → Prop where
  | mk {p : Pt} : P p → (∀ q ∈ p.kids, Pt.All P q) → Pt.All P p

noncomputable def Pt.rest : Pt → List V
  | .sign c => [.str ⟨#[c]⟩] | .span a b => [.str ⟨#[a]⟩, .str ⟨#[b]⟩] | .any => [] | .rule n => [.str n] | .row ps => [.tup (Pt.vs ps)] | .alt ps => [.tup (Pt.vs ps)] | .many p => [p.v] | .nt p => [p.v]
theorem Pt.head (p : Pt) : p.v = .tup (.str p.word :: p.rest) := by
  cases p <;> simp only [Pt.v, Pt.word, Pt.rest]
theorem Pt.word_rule {p : Pt} (h : p.word = "rule") : ∃ n, p = .rule n := by
  cases p <;> first | exact ⟨_, rfl⟩ | (have h' := h; simp only [Pt.word] at h'; exact absurd h' (by decide +kernel))

noncomputable def isLetter (c : Nat) : Bool := decide (97 ≤ c) && decide (c ≤ 122)
theorem letters_in : ((List.range 123).all fun c => !isLetter c || strIn ⟨#[c]⟩ (Str.ofString "abcdefghijklmnopqrstuvwxyz")) = true := by decide +kernel
theorem letter_in {c : Nat} (h : isLetter c = true) : strIn ⟨#[c]⟩ (Str.ofString "abcdefghijklmnopqrstuvwxyz") = true := by
  have hc : c < 123 := by simp [isLetter] at h; lia
  have := List.all_eq_true.mp letters_in c (by simpa using hc)
  simpa [h] using this

noncomputable def isName (x : Str) : Bool := decide (1 ≤ x.length) && decide (x.length ≤ 12) && x.cps.toList.all isLetter

noncomputable abbrev ruleV (r : Str × Pt) : V := .tup [.str r.1, r.2.v]
structure GoodRule (names : List Str) (r : Str × Pt) : Prop where
  name : isName r.1 = true
  good : r.2.good = true
  deep : r.2.deep ≤ 12
  few : Pt.All Pt.few r.2
  size : r.2.size < 100000
  asks : ∀ n, r.2.Asks n → n ∈ names
structure GoodRules (rs : List (Str × Pt)) : Prop where
  one : 1 ≤ rs.length
  most : rs.length ≤ 40
  nodup : (rs.map (·.1)).Nodup
  all : ∀ r ∈ rs, GoodRule (rs.map (·.1)) r
noncomputable def metKV (ns : List Str) : List (Str × V) := ns.map fun n => (n, .bool true)
theorem metKV_any {ns : List Str} {n : Str} : ((metKV ns).any fun kv => decide (kv.1 = n)) = decide (n ∈ ns) := by
  rw [Bool.eq_iff_iff]; simp [metKV]
theorem metKV_set {ns : List Str} {n : Str} (h : n ∉ ns) : setKV (metKV ns) n (.bool true) = metKV (ns ++ [n]) := by
  unfold setKV; rw [metKV_any, if_neg (by simpa using h)]; simp [metKV]

theorem nodup_take {α : Type} {rs : List α} {f : α → Str} {i : Nat} {r : α} (h : (rs.map f).Nodup) (hr : rs[i]? = some r) : f r ∉ (rs.take i).map f := fun hmem => by
  obtain ⟨r', hr', e⟩ := List.mem_map.mp hmem
  obtain ⟨j, hj, e2⟩ := List.getElem_of_mem hr'
  simp only [List.length_take] at hj
  rw [List.getElem_take] at e2
  obtain ⟨hi1, hi2⟩ := List.getElem?_eq_some_iff.mp hr
  have := List.pairwise_iff_getElem.mp h j i (by simp; (clear hi1 hi2 hr e2; lia)) (by simpa using hi1) (by (clear hi1 hi2 hr e2; lia))
  simp [e2, hi2, e] at this
theorem take_next {α : Type} {rs : List α} {i : Nat} {r : α} (hr : rs[i]? = some r) : rs.take (i + 1) = rs.take i ++ [r] := by
  rw [List.take_add_one, hr]; rfl

end Mine

namespace Mine
open PySem PySem.Calls PyProof.Rows PySem.SeqAt
mutual
noncomputable def Pt.may (B : Str → Bool) : Pt → Bool
  | .many _ | .nt _ => true
  | .rule n => B n
  | .row ps => Pt.mayAll B ps
  | .alt ps => Pt.mayAny B ps
  | .sign _ | .span _ _ | .any => false
noncomputable def Pt.mayAll (B : Str → Bool) : List Pt → Bool
  | [] => true
  | p :: r => p.may B && Pt.mayAll B r
noncomputable def Pt.mayAny (B : Str → Bool) : List Pt → Bool
  | [] => false
  | p :: r => p.may B || Pt.mayAny B r
end
theorem Pt.mayAll_eq (B : Str → Bool) : ∀ ps, Pt.mayAll B ps = ps.all (Pt.may B)
  | [] => by simp [Pt.mayAll]
  | p :: r => by simp [Pt.mayAll, Pt.mayAll_eq B r]
theorem Pt.mayAny_eq (B : Str → Bool) : ∀ ps, Pt.mayAny B ps = ps.any (Pt.may B)
  | [] => by simp [Pt.mayAny]
  | p :: r => by simp [Pt.mayAny, Pt.mayAny_eq B r]

mutual
theorem Pt.may_mono {B C : Str → Bool} (h : ∀ x, B x = true → C x = true) : ∀ p : Pt, p.may B = true → p.may C = true
  | .sign _, q | .span _ _, q | .any, q => by simp [Pt.may] at q
  | .rule n, q => by simp only [Pt.may] at q ⊢; exact h n q
  | .row ps, q => by simp only [Pt.may] at q ⊢; exact Pt.mayAll_mono h ps q
  | .alt ps, q => by simp only [Pt.may] at q ⊢; exact Pt.mayAny_mono h ps q
  | .many _, _ | .nt _, _ => by simp [Pt.may]
theorem Pt.mayAll_mono {B C : Str → Bool} (h : ∀ x, B x = true → C x = true) : ∀ ps : List Pt, Pt.mayAll B ps = true → Pt.mayAll C ps = true
  | [], _ => by simp [Pt.mayAll]
  | p :: r, q => by
    simp only [Pt.mayAll, Bool.and_eq_true] at q ⊢
    exact ⟨Pt.may_mono h p q.1, Pt.mayAll_mono h r q.2⟩
theorem Pt.mayAny_mono {B C : Str → Bool} (h : ∀ x, B x = true → C x = true) : ∀ ps : List Pt, Pt.mayAny B ps = true → Pt.mayAny C ps = true
  | [], q => by simp [Pt.mayAny] at q
  | p :: r, q => by
    simp only [Pt.mayAny, Bool.or_eq_true] at q ⊢
    rcases q with q | q
    · exact .inl (Pt.may_mono h p q)
    · exact .inr (Pt.mayAny_mono h r q)
end

noncomputable def inB (bs : List Str) : Str → Bool := fun x => decide (x ∈ bs)
theorem inB_iff {bs : List Str} {x : Str} : inB bs x = true ↔ x ∈ bs := by simp [inB]

/-- the names of the rules that may be empty, by one turn -/
noncomputable def turnE (rs : List (Str × Pt)) (E : List Str) : List Str := (rs.filter fun r => r.2.may (inB E)).map (·.1)
noncomputable def turnsE (rs : List (Str × Pt)) : Nat → List Str
  | 0 => []
  | n + 1 => turnE rs (turnsE rs n)

/-- what the bare rules of a grammar are: closed, and under each closed set -/
structure Bare (rs : List (Str × Pt)) (bs : List Str) : Prop where
  sub : ∀ x ∈ bs, x ∈ rs.map (·.1)
  closed : ∀ r ∈ rs, r.2.may (inB bs) = true → r.1 ∈ bs
  least : ∀ S : Str → Bool, (∀ r ∈ rs, r.2.may S = true → S r.1 = true) → ∀ x ∈ bs, S x = true

section
variable {rs : List (Str × Pt)}
theorem mem_turnE {E : List Str} {x : Str} : x ∈ turnE rs E ↔ ∃ r ∈ rs, r.2.may (inB E) = true ∧ r.1 = x := by
  simp only [turnE, List.mem_map, List.mem_filter]
  constructor
  · rintro ⟨r, ⟨h1, h2⟩, h3⟩; exact ⟨r, h1, h2, h3⟩
  · rintro ⟨r, h1, h2, h3⟩; exact ⟨r, ⟨h1, h2⟩, h3⟩
theorem turnE_mono {E F : List Str} (h : ∀ x ∈ E, x ∈ F) : ∀ x ∈ turnE rs E, x ∈ turnE rs F := fun x hx => by
  rw [mem_turnE] at hx ⊢
  obtain ⟨r, h1, h2, h3⟩ := hx
  exact ⟨r, h1, Pt.may_mono (fun y hy => inB_iff.mpr (h y (inB_iff.mp hy))) _ h2, h3⟩
theorem turnsE_up : ∀ n, ∀ x ∈ turnsE rs n, x ∈ turnsE rs (n + 1)
  | 0, x, hx => by cases hx
  | n + 1, x, hx => turnE_mono (turnsE_up n) x hx
theorem turnE_sub {E F : List Str} (h : ∀ x ∈ E, x ∈ F) : (turnE rs E).Sublist (turnE rs F) := by
  unfold turnE
  refine List.Sublist.map _ ?_
  induction rs with
  | nil => simp
  | cons r t ih =>
    simp only [List.filter_cons]
    by_cases h1 : r.2.may (inB E) = true
    · have h2 := Pt.may_mono (fun y hy => inB_iff.mpr (h y (inB_iff.mp hy))) _ h1
      rw [if_pos h1, if_pos h2]; exact ih.cons_cons _
    · rw [if_neg h1]
      split
      · exact ih.cons _
      · exact ih
theorem turnsE_grow : ∀ n, turnsE rs (n + 1) = turnsE rs n ∨ (turnsE rs n).length + 1 ≤ (turnsE rs (n + 1)).length := fun n => by
  have hs : (turnsE rs n).Sublist (turnsE rs (n + 1)) := by
    cases n with
    | zero => exact List.nil_sublist _
    | succ n => exact turnE_sub (turnsE_up n)
  rcases Nat.lt_or_ge (turnsE rs n).length (turnsE rs (n + 1)).length with h | h
  · exact .inr h
  · exact .inl (hs.eq_of_length_le h).symm
theorem turnsE_fix : ∀ n, turnsE rs (n + 1) = turnsE rs n ∨ n + 1 ≤ (turnsE rs (n + 1)).length
  | 0 => by
    rcases turnsE_grow (rs := rs) 0 with h | h
    · exact .inl h
    · exact .inr (by exact h)
  | n + 1 => by
    rcases turnsE_fix n with h | h
    · left; show turnE rs (turnsE rs (n + 1)) = turnE rs (turnsE rs n); rw [h]
    · rcases turnsE_grow (rs := rs) (n + 1) with g | g
      · exact .inl g
      · exact .inr (by lia)
theorem turnsE_end : turnE rs (turnsE rs rs.length) = turnsE rs rs.length := by
  rcases turnsE_fix (rs := rs) rs.length with h | h
  · exact h
  · have : (turnE rs (turnsE rs rs.length)).length ≤ rs.length := by
      unfold turnE; rw [List.length_map]; exact List.length_filter_le ..
    exact absurd h (by show ¬ (rs.length + 1 ≤ (turnE rs (turnsE rs rs.length)).length); (clear h; lia))
end
end Mine

namespace Mine
open PySem PySem.Calls PyProof.Rows PySem.SeqAt
mutual
noncomputable def Pt.ahd (B : Str → Bool) : Pt → List Str
  | .rule n => [n]
  | .row ps => Pt.ahdRow B ps
  | .alt ps => Pt.ahdAlt B ps
  | .many p | .nt p => p.ahd B
  | .sign _ | .span _ _ | .any => []
noncomputable def Pt.ahdRow (B : Str → Bool) : List Pt → List Str
  | [] => []
  | p :: r => p.ahd B ++ if p.may B then Pt.ahdRow B r else []
noncomputable def Pt.ahdAlt (B : Str → Bool) : List Pt → List Str
  | [] => []
  | p :: r => p.ahd B ++ Pt.ahdAlt B r
end
mutual
theorem Pt.ahd_size (B : Str → Bool) : ∀ p : Pt, (p.ahd B).length ≤ p.size
  | .sign _ | .span _ _ | .any | .rule _ => by simp [Pt.ahd, Pt.size]
  | .row ps => by have := Pt.ahdRow_size B ps; simp only [Pt.ahd, Pt.size]; exact Nat.le_succ_of_le this
  | .alt ps => by have := Pt.ahdAlt_size B ps; simp only [Pt.ahd, Pt.size]; exact Nat.le_succ_of_le this
  | .many p | .nt p => by have := Pt.ahd_size B p; simp only [Pt.ahd, Pt.size]; exact Nat.le_succ_of_le this
theorem Pt.ahdRow_size (B : Str → Bool) : ∀ ps : List Pt, (Pt.ahdRow B ps).length ≤ Pt.sizes ps
  | [] => by simp [Pt.ahdRow]
  | p :: r => by
    have h1 := Pt.ahd_size B p
    have h2 := Pt.ahdRow_size B r
    simp only [Pt.ahdRow, Pt.sizes, List.length_append]
    split
    · lia
    · simp; (clear h2; lia)
theorem Pt.ahdAlt_size (B : Str → Bool) : ∀ ps : List Pt, (Pt.ahdAlt B ps).length ≤ Pt.sizes ps
  | [] => by simp [Pt.ahdAlt]
  | p :: r => by
    have h1 := Pt.ahd_size B p
    have h2 := Pt.ahdAlt_size B r
    simp only [Pt.ahdAlt, Pt.sizes, List.length_append]; lia
end

mutual
noncomputable def Pt.ok (P : Str → Prop) : Pt → Prop
  | .sign c => isSignC c = true
  | .span a b => isSignC a = true ∧ isSignC b = true ∧ a ≤ b
  | .any => True
  | .rule n => P n
  | .row ps => ps.length < 1000 ∧ Pt.oks P ps
  | .alt ps => ps ≠ [] ∧ ps.length < 1000 ∧ Pt.oks P ps
  | .many p | .nt p => p.ok P
noncomputable def Pt.oks (P : Str → Prop) : List Pt → Prop
  | [] => True
  | p :: r => p.ok P ∧ Pt.oks P r
end
theorem Pt.oks_mem {P : Str → Prop} {ps : List Pt} (h : Pt.oks P ps) : ∀ q ∈ ps, q.ok P := by
  induction ps with
  | nil => intro q hq; cases hq
  | cons a r ih =>
    intro q hq
    rw [Pt.oks] at h
    rcases List.mem_cons.mp hq with rfl | hq
    · exact h.1
    · exact ih h.2 q hq
theorem Pt.ok_kids {P : Str → Prop} {p : Pt} (h : p.ok P) : ∀ q ∈ p.kids, q.ok P := by
  intro q hq
  cases p <;> simp only [Pt.kids, List.not_mem_nil, List.mem_singleton] at hq
  · rw [Pt.ok] at h; exact Pt.oks_mem h.2 q hq
  · rw [Pt.ok] at h; exact Pt.oks_mem h.2.2 q hq
  · subst hq; rw [Pt.ok] at h; exact h
  · subst hq; rw [Pt.ok] at h; exact h

/-- one rule leads to another; by some steps -/
noncomputable def Lead (rs : List (Str × Pt)) (B : Str → Bool) (x y : Str) : Prop := ∃ r ∈ rs, r.1 = x ∧ y ∈ r.2.ahd B
inductive Rch (rs : List (Str × Pt)) (B : Str → Bool) (x : Str) : Str → Prop where
  | one {y : Str} : Lead rs B x y → Rch rs B x y
  | more {y z : Str} : Rch rs B x y → Lead rs B y z → Rch rs B x z

/-- each rule leads to later ones alone -/
noncomputable def Later (rs : List (Str × Pt)) : Prop := ∀ (i : Nat) (r : Str × Pt), rs[i]? = some r → ∀ (B : Str → Bool), ∀ y ∈ r.2.ahd B, ∃ (j : Nat) (r' : Str × Pt), i < j ∧ rs[j]? = some r' ∧ r'.1 = y
theorem name_at {rs : List (Str × Pt)} (hn : (rs.map (·.1)).Nodup) {i j : Nat} {r r' : Str × Pt} (h : rs[i]? = some r) (h' : rs[j]? = some r') (e : r.1 = r'.1) : i = j := by
  obtain ⟨h1, rfl⟩ := List.getElem?_eq_some_iff.mp h
  obtain ⟨h2, rfl⟩ := List.getElem?_eq_some_iff.mp h'
  rcases Nat.lt_trichotomy i j with g | g | g
  · have := List.pairwise_iff_getElem.mp hn i j (by simpa using h1) (by simpa using h2) g
    simp [e] at this
  · exact g
  · have := List.pairwise_iff_getElem.mp hn j i (by simpa using h2) (by simpa using h1) g
    simp [e] at this
theorem Later.rch {rs : List (Str × Pt)} (hl : Later rs) (hn : (rs.map (·.1)).Nodup) {B : Str → Bool} {x y : Str} (h : Rch rs B x y) : ∀ (i : Nat) (r : Str × Pt), rs[i]? = some r → r.1 = x → ∃ (j : Nat) (r' : Str × Pt), i < j ∧ rs[j]? = some r' ∧ r'.1 = y := by
  have lead : ∀ {a b : Str} {i : Nat} {r : Str × Pt}, rs[i]? = some r → r.1 = a → Lead rs B a b → ∃ (j : Nat) (r' : Str × Pt), i < j ∧ rs[j]? = some r' ∧ r'.1 = b := by
    intro a b i r h1 h2 ⟨r', h3, h4, h5⟩
    obtain ⟨k, h6⟩ := List.mem_iff_getElem?.mp h3
    have e := name_at hn h1 h6 (by rw [h2, h4])
    subst e
    exact hl i r' h6 B _ h5
  induction h with
  | one h => exact fun i r h1 h2 => lead h1 h2 h
  | more _ h ih =>
    intro i r h1 h2
    obtain ⟨j, r', g1, g2, g3⟩ := ih i r h1 h2
    obtain ⟨k, r'', f1, f2, f3⟩ := lead g2 g3 h
    exact ⟨k, r'', by (clear f2 g2 lead ih h1; exact Nat.le_of_lt (Nat.lt_of_le_of_lt g1 f1)), f2, f3⟩
theorem Later.no {rs : List (Str × Pt)} (hl : Later rs) (hn : (rs.map (·.1)).Nodup) {B : Str → Bool} {r : Str × Pt} (hr : r ∈ rs) : ¬ Rch rs B r.1 r.1 := fun h => by
  obtain ⟨i, hi⟩ := List.mem_iff_getElem?.mp hr
  obtain ⟨j, r', g1, g2, g3⟩ := hl.rch hn h i r hi rfl
  have := name_at hn hi g2 g3.symm
  (clear g2 hi; exact Nat.ne_of_gt g1 (id (Eq.symm this)))
end Mine

namespace Mine
open PySem PySem.Calls PyProof.Rows PySem.SeqAt


section
variable {n m k : Nat} {p : Pt} {ps : List Pt}
end

section
variable {P : Str → Prop} {n s : Nat} {p a b : Pt}
end

set_option linter.unusedSimpArgs false in

/-! the names -/
end Mine

namespace Mine
open PySem PySem.Calls PyProof.Rows PySem.SeqAt
/-! the words of parts, and heaps that grow -/
section
variable {p : Pt} {B : Str → Bool}
/-- the rules ahead, over the kids -/
noncomputable def ahdK (B : Str → Bool) (row : Bool) : List Pt → List Str
  | [] => []
  | p :: r => p.ahd B ++ if row && !p.may B then [] else ahdK B row r
theorem ahdK_row : ∀ ps : List Pt, Pt.ahdRow B ps = ahdK B true ps
  | [] => by simp [Pt.ahdRow, ahdK]
  | p :: r => by
    rw [Pt.ahdRow, ahdK, ahdK_row r]
    cases p.may B <;> simp
theorem ahdK_alt : ∀ ps : List Pt, Pt.ahdAlt B ps = ahdK B false ps
  | [] => by simp [Pt.ahdAlt, ahdK]
  | p :: r => by rw [Pt.ahdAlt, ahdK, ahdK_alt r]; simp
theorem Pt.ahd_kids (h : p.word ≠ "rule") : p.ahd B = ahdK B (p.word == "row") p.kids := by
  have e1 : ((Str.ofString "row" : Str) == "row") = true := by decide +kernel
  have e2 : ((Str.ofString "or" : Str) == "row") = false := by decide +kernel
  have e3 : ((Str.ofString "many" : Str) == "row") = false := by decide +kernel
  have e4 : ((Str.ofString "not" : Str) == "row") = false := by decide +kernel
  cases p with
  | rule n => exact absurd rfl h
  | row ps => simp only [Pt.ahd, Pt.kids, Pt.word, e1, ahdK_row]
  | alt ps => simp only [Pt.ahd, Pt.kids, Pt.word, e2, ahdK_alt]
  | many q => simp only [Pt.ahd, Pt.kids, Pt.word, e3, ahdK]; simp
  | nt q => simp only [Pt.ahd, Pt.kids, Pt.word, e4, ahdK]; simp
  | sign _ => simp only [Pt.ahd, Pt.kids, ahdK]
  | span _ _ => simp only [Pt.ahd, Pt.kids, ahdK]
  | any => simp only [Pt.ahd, Pt.kids, ahdK]
end
theorem allB_map {α : Type} (f : α → Bool) : ∀ l : List α, allB (l.map fun k => V.bool (f k)) = some (l.map f)
  | [] => rfl
  | a :: r => by simp [allB, allB_map f r]
theorem Pt.size_mem {p q : Pt} (h : q ∈ p.kids) : q.size < p.size := by
  have h1 := Pt.kids_size p
  have : ∀ ps : List Pt, q ∈ ps → q.size ≤ Pt.sizes ps := by
    intro ps
    induction ps with
    | nil => intro h; cases h
    | cons a r ih =>
      intro h
      rw [Pt.sizes]
      rcases List.mem_cons.mp h with rfl | h
      · (clear h1 ih; exact Nat.le_add_right q.size (sizes r))
      · have := ih h; (clear ih h1; lia)
  have := this _ h
  lia
noncomputable def hasK (kvs : List (Str × V)) (x : Str) : Bool := kvs.any fun kv => decide (kv.1 = x)
theorem hasK_met {bs : List Str} : hasK (metKV bs) = inB bs := by
  funext x; exact metKV_any

section
variable {σ : Hp} {a b : Nat} {o o' : MObj} {junk : Hp}
theorem get_up (h : σ[a]? = some o) : (σ ++ junk)[a]? = some o := by
  rw [List.getElem?_append_left (List.getElem?_eq_some_iff.mp h).1]; exact h
theorem get_lt (h : σ[a]? = some o) : a < σ.length := (List.getElem?_eq_some_iff.mp h).1
theorem get_set (h : σ[a]? = some o) : (σ.set a o')[a]? = some o' := by
  rw [List.getElem?_set_self (get_lt h)]
theorem get_set_ne (hn : b ≠ a) : (σ.set b o')[a]? = σ[a]? := List.getElem?_set_ne hn
theorem get_new : (σ ++ [o])[σ.length]? = some o := by simp
theorem set_up (h : σ.length ≤ a) : ∃ jk, (σ ++ junk).set a o = σ ++ jk := ⟨_, List.set_append_right _ _ h⟩
end
end Mine

namespace Mine
open PySem PySem.Calls PyProof.Rows PySem.SeqAt
mutual
theorem Pt.ahd_asks {B : Str → Bool} {n : Str} : ∀ p : Pt, n ∈ p.ahd B → p.Asks n
  | .sign _, h | .span _ _, h | .any, h => by simp [Pt.ahd] at h
  | .rule m, h => by simp only [Pt.ahd, List.mem_singleton] at h; subst h; exact .here
  | .row ps, h => by
    simp only [Pt.ahd] at h
    obtain ⟨q, hq, ha⟩ := Pt.ahdRow_asks ps h
    exact .deep (p := .row ps) hq ha
  | .alt ps, h => by
    simp only [Pt.ahd] at h
    obtain ⟨q, hq, ha⟩ := Pt.ahdAlt_asks ps h
    exact .deep (p := .alt ps) hq ha
  | .many p, h => by simp only [Pt.ahd] at h; exact .deep (p := .many p) (List.mem_singleton.mpr rfl) (Pt.ahd_asks p h)
  | .nt p, h => by simp only [Pt.ahd] at h; exact .deep (p := .nt p) (List.mem_singleton.mpr rfl) (Pt.ahd_asks p h)
theorem Pt.ahdRow_asks {B : Str → Bool} {n : Str} : ∀ ps : List Pt, n ∈ Pt.ahdRow B ps → ∃ q ∈ ps, q.Asks n
  | [], h => by simp [Pt.ahdRow] at h
  | p :: r, h => by
    simp only [Pt.ahdRow, List.mem_append] at h
    rcases h with h | h
    · exact ⟨p, by simp, Pt.ahd_asks p h⟩
    · split at h
      · obtain ⟨q, hq, ha⟩ := Pt.ahdRow_asks r h
        exact ⟨q, List.mem_cons_of_mem _ hq, ha⟩
      · cases h
theorem Pt.ahdAlt_asks {B : Str → Bool} {n : Str} : ∀ ps : List Pt, n ∈ Pt.ahdAlt B ps → ∃ q ∈ ps, q.Asks n
  | [], h => by simp [Pt.ahdAlt] at h
  | p :: r, h => by
    simp only [Pt.ahdAlt, List.mem_append] at h
    rcases h with h | h
    · exact ⟨p, by simp, Pt.ahd_asks p h⟩
    · obtain ⟨q, hq, ha⟩ := Pt.ahdAlt_asks r h
      exact ⟨q, List.mem_cons_of_mem _ hq, ha⟩
end

noncomputable def getKV (kvs : List (Str × V)) (x : Str) : Option V := (kvs.find? fun kv => decide (kv.1 = x)).map (·.2)
theorem getKV_lookup : ∀ (kvs : List (Str × V)) (x : Str), getKV kvs x = kvs.lookup x
  | [], _ => rfl
  | (k, v) :: r, x => by
    unfold getKV
    rw [List.find?_cons, List.lookup_cons]
    by_cases e : k = x
    · subst e; simp
    · have e2 : ¬ x = k := fun q => e q.symm
      simp only [e, decide_false, beq_eq_false_iff_ne.mpr e2]
      exact getKV_lookup r x
theorem getKV_set (kvs : List (Str × V)) (k x : Str) (v : V) : getKV (setKV kvs k v) x = if x = k then some v else getKV kvs x := by
  rw [getKV_lookup, getKV_lookup, setKV_lookup]

noncomputable def tabKV (rs : List (Str × Pt)) : List (Str × V) := rs.map fun r => (r.1, r.2.v)
theorem tabKV_any {rs : List (Str × Pt)} {n : Str} : ((tabKV rs).any fun kv => decide (kv.1 = n)) = decide (n ∈ rs.map (·.1)) := by
  rw [Bool.eq_iff_iff]; simp [tabKV]
theorem tabKV_set {rs : List (Str × Pt)} {r : Str × Pt} (h : r.1 ∉ rs.map (·.1)) : setKV (tabKV rs) r.1 r.2.v = tabKV (rs ++ [r]) := by
  unfold setKV; rw [tabKV_any, if_neg (by simpa using h)]; simp [tabKV]
theorem tabKV_get {rs : List (Str × Pt)} (hn : (rs.map (·.1)).Nodup) {r : Str × Pt} (hr : r ∈ rs) : getKV (tabKV rs) r.1 = some r.2.v := by
  induction rs with
  | nil => cases hr
  | cons a t ih =>
    rw [List.map_cons, List.nodup_cons] at hn
    unfold getKV tabKV
    rw [List.map_cons, List.find?_cons]
    rcases List.mem_cons.mp hr with rfl | hr
    · simp
    · have : ¬ a.1 = r.1 := fun e => hn.1 (e ▸ List.mem_map.mpr ⟨r, hr, rfl⟩)
      simp only [this, decide_false]
      exact ih hn.2 hr

/-- the lists that the rules lead to, in the heap, behind lo -/
noncomputable def LeadsAt (rs : List (Str × Pt)) (B : Str → Bool) (kl : List (Str × V)) (lo : Nat) (σ : Hp) : Prop := ∀ r ∈ rs, ∃ j, lo < j ∧ getKV kl r.1 = some (.ref j) ∧ σ[j]? = some (.list ((r.2.ahd B).map V.str))
theorem LeadsAt.up {rs : List (Str × Pt)} {B : Str → Bool} {kl : List (Str × V)} {lo : Nat} {σ junk : Hp} (h : LeadsAt rs B kl lo σ) : LeadsAt rs B kl lo (σ ++ junk) := fun r hr => by
  obtain ⟨j, h0, h1, h2⟩ := h r hr
  exact ⟨j, h0, h1, get_up h2⟩
/-- a grammar in the heap -/
inductive GrAt (rs : List (Str × Pt)) (bs : List Str) (g : Nat) (σ : Hp) : Prop where
  | mk (a b c e : Nat) (kl : List (Str × V)) (h0 : g < a) (h1 : a < b) (h2 : b < c) (h3 : c < e) (h4 : σ[g]? = some (.inst "Grammar" [("pairs", .ref a), ("table", .ref b), ("bare", .ref c), ("leads", .ref e)])) (h5 : σ[a]? = some (.list (rs.map ruleV))) (h6 : σ[b]? = some (.sdict (tabKV rs))) (h7 : σ[c]? = some (.sdict (metKV bs))) (h8 : σ[e]? = some (.sdict kl)) (h9 : LeadsAt rs (inB bs) kl g σ) : GrAt rs bs g σ
theorem GrAt.up {rs : List (Str × Pt)} {bs : List Str} {g : Nat} {σ junk : Hp} (h : GrAt rs bs g σ) : GrAt rs bs g (σ ++ junk) := by
  obtain ⟨a, b, c, e, kl, h1, h2, h3, h4, h5, h6, h7, h8, h9, h10⟩ := h
  exact ⟨a, b, c, e, kl, h1, h2, h3, h4, get_up h5, get_up h6, get_up h7, get_up h8, get_up h9, h10.up⟩

/-- the reach of a rule, as the search finds it -/
structure Seek (rs : List (Str × Pt)) (B : Str → Bool) (x : Str) (ms ws : List Str) : Prop where
  nodup : ms.Nodup
  mr : ∀ y ∈ ms, Rch rs B x y
  wr : ∀ y ∈ ws, Rch rs B x y
  x0 : ∀ y, Lead rs B x y → y ∈ ms ∨ y ∈ ws
  cl : ∀ y ∈ ms, ∀ z, Lead rs B y z → z ∈ ms ∨ z ∈ ws
theorem Seek.end {rs : List (Str × Pt)} {B : Str → Bool} {x : Str} {ms : List Str} (h : Seek rs B x ms []) : decide (x ∈ ms) = true ↔ Rch rs B x x := by
  rw [decide_eq_true_iff]
  refine ⟨h.mr x, fun hr => ?_⟩
  have : ∀ y, Rch rs B x y → y ∈ ms := by
    intro y hy
    induction hy with
    | one h1 => exact (h.x0 _ h1).resolve_right (by simp)
    | more _ h1 ih => exact (h.cl _ ih _ h1).resolve_right (by simp)
  exact this x hr
theorem Seek.old {rs : List (Str × Pt)} {B : Str → Bool} {x y : Str} {ms ws : List Str} (h : Seek rs B x ms (ws ++ [y])) (hy : y ∈ ms) : Seek rs B x ms ws where
  nodup := h.nodup
  mr := h.mr
  wr := fun z hz => h.wr z (List.mem_append_left _ hz)
  x0 := fun z hz => by
    rcases h.x0 z hz with g | g
    · exact .inl g
    · rcases List.mem_append.mp g with g | g
      · exact .inr g
      · cases List.mem_singleton.mp g; exact .inl hy
  cl := fun a ha z hz => by
    rcases h.cl a ha z hz with g | g
    · exact .inl g
    · rcases List.mem_append.mp g with g | g
      · exact .inr g
      · cases List.mem_singleton.mp g; exact .inl hy
theorem Lead.uniq {rs : List (Str × Pt)} {B : Str → Bool} (hn : (rs.map (·.1)).Nodup) {r : Str × Pt} (hr : r ∈ rs) {z : Str} (h : Lead rs B r.1 z) : z ∈ r.2.ahd B := by
  obtain ⟨r', hr', e, hz⟩ := h
  obtain ⟨i, hi⟩ := List.mem_iff_getElem?.mp hr
  obtain ⟨j, hj⟩ := List.mem_iff_getElem?.mp hr'
  have := name_at hn hi hj e.symm
  subst this
  rw [hi] at hj; cases hj; exact hz
theorem Seek.new {rs : List (Str × Pt)} {B : Str → Bool} {x : Str} {ms ws : List Str} {r : Str × Pt} (hn : (rs.map (·.1)).Nodup) (hr : r ∈ rs) (h : Seek rs B x ms (ws ++ [r.1])) (hy : r.1 ∉ ms) : Seek rs B x (ms ++ [r.1]) (ws ++ r.2.ahd B) where
  nodup := by
    rw [List.nodup_append]
    exact ⟨h.nodup, by simp, fun a ha b hb => by cases List.mem_singleton.mp hb; exact fun e => hy (e ▸ ha)⟩
  mr := fun z hz => by
    rcases List.mem_append.mp hz with g | g
    · exact h.mr z g
    · cases List.mem_singleton.mp g; exact h.wr _ (by simp)
  wr := fun z hz => by
    rcases List.mem_append.mp hz with g | g
    · exact h.wr z (List.mem_append_left _ g)
    · exact .more (h.wr r.1 (by simp)) ⟨r, hr, rfl, g⟩
  x0 := fun z hz => by
    rcases h.x0 z hz with g | g
    · exact .inl (List.mem_append_left _ g)
    · rcases List.mem_append.mp g with g | g
      · exact .inr (List.mem_append_left _ g)
      · exact .inl (List.mem_append_right _ g)
  cl := fun a ha z hz => by
    rcases List.mem_append.mp ha with g | g
    · rcases h.cl a g z hz with g | g
      · exact .inl (List.mem_append_left _ g)
      · rcases List.mem_append.mp g with g | g
        · exact .inr (List.mem_append_left _ g)
        · exact .inl (List.mem_append_right _ g)
    · cases List.mem_singleton.mp g
      exact .inr (List.mem_append_right _ (Lead.uniq hn hr hz))
theorem Rch.last {rs : List (Str × Pt)} {B : Str → Bool} {x y : Str} (h : Rch rs B x y) : ∃ r ∈ rs, y ∈ r.2.ahd B := by
  cases h with
  | one h => obtain ⟨r, h1, _, h2⟩ := h; exact ⟨r, h1, h2⟩
  | more _ h => obtain ⟨r, h1, _, h2⟩ := h; exact ⟨r, h1, h2⟩
theorem GoodRules.lead {rs : List (Str × Pt)} (hg : GoodRules rs) {B : Str → Bool} {x y : Str} (h : Rch rs B x y) : ∃ r ∈ rs, r.1 = y := by
  obtain ⟨r, h1, h2⟩ := h.last
  have := (hg.all r h1).asks y (Pt.ahd_asks _ h2)
  obtain ⟨r', h3, h4⟩ := List.mem_map.mp this
  exact ⟨r', h3, h4⟩
theorem len_sub {α : Type} [BEq α] [LawfulBEq α] {ms ns : List α} (h : ms.Nodup) (hs : ∀ x ∈ ms, x ∈ ns) : ms.length ≤ ns.length := by
  induction ms generalizing ns with
  | nil => simp
  | cons a r ih =>
    rw [List.nodup_cons] at h
    have ha := hs a (by simp)
    have := ih (ns := ns.erase a) h.2 fun x hx => by
      have hne : x ≠ a := fun e => h.1 (e ▸ hx)
      exact (List.mem_erase_of_ne hne).mpr (hs x (List.mem_cons_of_mem _ hx))
    rw [List.length_erase_of_mem ha] at this
    have := List.length_pos_of_mem ha
    simp only [List.length_cons]
    (clear ih; lia)
end Mine

namespace Mine
open PySem PySem.Calls PyProof.Rows PySem.SeqAt
/-- while a grammar is made: its object at the heap's end so far -/
structure Mk (σ : Hp) (l : Nat) (fs : List (Str × V)) (ρ' : Loc) (σ' : Hp) : Prop where
  self : ρ' "self" = some (.ref σ.length)
  ru : ρ' "rules" = some (.ref l)
  pre : ∃ junk, σ' = σ ++ junk
  obj : σ'[σ.length]? = some (.inst "Grammar" fs)
section
variable {σ σ' : Hp} {l : Nat} {fs fs' : List (Str × V)} {ρ' : Loc} {o o' : MObj} {a : Nat}
theorem Mk.up {jk : Hp} (h : Mk σ l fs ρ' σ') : Mk σ l fs ρ' (σ' ++ jk) := by
  obtain ⟨h1, h2, ⟨junk, rfl⟩, h4⟩ := h
  exact ⟨h1, h2, ⟨junk ++ jk, by rw [List.append_assoc]⟩, get_up h4⟩
theorem Mk.put (h : Mk σ l fs ρ' σ') (ha : σ.length < a) : Mk σ l fs ρ' (σ'.set a o) := by
  obtain ⟨h1, h2, ⟨junk, rfl⟩, h4⟩ := h
  exact ⟨h1, h2, set_up (by (clear h4; exact Nat.le_of_lt ha)), by rw [get_set_ne (by (clear h4; exact Nat.ne_of_gt ha))]; exact h4⟩
theorem Mk.field (h : Mk σ l fs ρ' σ') : Mk σ l fs' ρ' ((σ' ++ [o]).set σ.length (.inst "Grammar" fs')) ∧ ((σ' ++ [o]).set σ.length (.inst "Grammar" fs'))[σ'.length]? = some o ∧ σ.length < σ'.length ∧ ∀ a o', a ≠ σ.length → σ'[a]? = some o' → ((σ' ++ [o]).set σ.length (.inst "Grammar" fs'))[a]? = some o' := by
  obtain ⟨h1, h2, ⟨junk, rfl⟩, h4⟩ := h
  have hlt := get_lt h4
  refine ⟨⟨h1, h2, ?_, get_set (get_up h4)⟩, ?_, hlt, fun a o' hn e => ?_⟩
  · rw [List.append_assoc]; exact set_up (Nat.le_refl _)
  · rw [get_set_ne (by (clear h4; exact Nat.ne_of_lt hlt))]; exact get_new
  · rw [get_set_ne (Ne.symm hn)]; exact get_up e
theorem Mk.rules {rs : List (Str × Pt)} (h : Mk σ l fs ρ' σ') (hl : σ[l]? = some (.list (rs.map ruleV))) : σ'[l]? = some (.list (rs.map ruleV)) := by
  obtain ⟨h1, h2, ⟨junk, rfl⟩, h4⟩ := h
  exact get_up hl
end
/-- the bare rules, while they grow -/
structure Grow (rs : List (Str × Pt)) (bs : List Str) : Prop where
  nodup : bs.Nodup
  sub : ∀ x ∈ bs, x ∈ rs.map (·.1)
  least : ∀ S : Str → Bool, (∀ r ∈ rs, r.2.may S = true → S r.1 = true) → ∀ x ∈ bs, S x = true
theorem Grow.nil (rs : List (Str × Pt)) : Grow rs [] := ⟨by simp, by simp, fun _ _ _ h => by cases h⟩
theorem Grow.len {rs : List (Str × Pt)} {bs : List Str} (h : Grow rs bs) : bs.length ≤ rs.length := by
  simpa using len_sub h.nodup h.sub
theorem Grow.add {rs : List (Str × Pt)} {bs : List Str} {r : Str × Pt} (h : Grow rs bs) (hr : r ∈ rs) (hn : r.1 ∉ bs) (hm : r.2.may (inB bs) = true) : Grow rs (bs ++ [r.1]) where
  nodup := by
    rw [List.nodup_append]
    exact ⟨h.nodup, by simp, fun a ha b hb => by cases List.mem_singleton.mp hb; exact fun e => hn (e ▸ ha)⟩
  sub := fun x hx => by
    rcases List.mem_append.mp hx with g | g
    · exact h.sub x g
    · cases List.mem_singleton.mp g; exact List.mem_map.mpr ⟨r, hr, rfl⟩
  least := fun S hS x hx => by
    rcases List.mem_append.mp hx with g | g
    · exact h.least S hS x g
    · cases List.mem_singleton.mp g
      exact hS r hr (Pt.may_mono (fun y hy => h.least S hS y (inB_iff.mp hy)) _ hm)
theorem Grow.bare {rs : List (Str × Pt)} {bs : List Str} (h : Grow rs bs) (hc : ∀ r ∈ rs, r.2.may (inB bs) = true → r.1 ∈ bs) : Bare rs bs := ⟨h.sub, hc, h.least⟩
theorem LeadsAt.snoc {rs : List (Str × Pt)} {B : Str → Bool} {kl : List (Str × V)} {σ σ' : Hp} {r : Str × Pt} {j lo : Nat} (h : LeadsAt rs B kl lo σ) (hn : r.1 ∉ rs.map (·.1)) (hk : ∀ (a : Nat) (vs : List V), σ[a]? = some (.list vs) → σ'[a]? = some (.list vs)) (hlo : lo < j) (hj : σ'[j]? = some (.list ((r.2.ahd B).map V.str))) : LeadsAt (rs ++ [r]) B (setKV kl r.1 (.ref j)) lo σ' := fun r' hr' => by
  rcases List.mem_append.mp hr' with g | g
  · obtain ⟨i, h0, h1, h2⟩ := h r' g
    refine ⟨i, h0, ?_, hk _ _ h2⟩
    rw [getKV_set, if_neg (fun e : r'.1 = r.1 => hn (e ▸ List.mem_map.mpr ⟨r', g, rfl⟩))]
    exact h1
  · cases List.mem_singleton.mp g
    exact ⟨j, hlo, by rw [getKV_set, if_pos rfl], hj⟩
end Mine

namespace Mine
open PySem PySem.Calls PyProof.Rows PySem.SeqAt PySem.Builtin PySem.Builtin.Str
/-- a text by its signs -/
noncomputable def S (l : List Nat) : Str := ⟨l.toArray⟩
theorem S_app (a b : List Nat) : S a ++ S b = S (a ++ b) := by
  show (⟨a.toArray ++ b.toArray⟩ : Str) = ⟨(a ++ b).toArray⟩
  rw [List.append_toArray]
theorem S_length (a : List Nat) : (S a).length = a.length := by simp [S, Str.length]
theorem S_join : ∀ l : List Nat, Txt.join (S []) (l.map fun c => S [c]) = S l := by
  intro l
  show glued _ _ = _
  rw [StrLaws.glued_eq_join]
  induction l with
  | nil => rfl
  | cons a r ih =>
    cases r with
    | nil => rfl
    | cons b t =>
      show S [a] ++ S [] ++ Str.join (S []) ((b :: t).map fun c => S [c]) = _
      rw [ih, S_app, S_app]; rfl
end Mine

namespace Mine
open PySem PySem.Calls PyProof.Rows PySem.SeqAt
/-- texts that can be laid -/
noncomputable def sOk (n : Str) : Prop := PyData.strOk n = true
theorem Pt.oks_of {P : Str → Prop} : ∀ ps : List Pt, (∀ q ∈ ps, q.ok P) → Pt.oks P ps
  | [], _ => by simp [Pt.oks]
  | p :: r, h => by rw [Pt.oks]; exact ⟨h p (by simp), Pt.oks_of r fun q hq => h q (List.mem_cons_of_mem _ hq)⟩
theorem Pt.ok_of {P : Str → Prop} : ∀ (n : Nat) (p : Pt), p.deep ≤ n → p.good = true → Pt.All Pt.few p → (∀ m, p.Asks m → P m) → p.ok P := by
  intro n
  induction n with
  | zero => intro p hn; exact absurd (Pt.deep_pos p) (by lia)
  | succ n ih =>
    intro p hn hg hf ha
    obtain ⟨hfk, hfc⟩ := hf
    have kids : (∀ q ∈ p.kids, q.good = true) → ∀ q ∈ p.kids, q.ok P := fun hgk q hq => ih q (by have := Pt.kids_deep hq; (clear ih; lia)) (hgk q hq) (hfc q hq) fun m hm => ha m (.deep hq hm)
    cases p with
    | sign c => simpa only [Pt.ok, Pt.good] using hg
    | span a b =>
      simp only [Pt.good, Bool.and_eq_true, decide_eq_true_eq] at hg
      rw [Pt.ok]; exact ⟨hg.1.1, hg.1.2, hg.2⟩
    | any => simp [Pt.ok]
    | rule m => rw [Pt.ok]; exact ha m .here
    | row ps => rw [Pt.ok]; rw [Pt.good] at hg; exact ⟨hfk, Pt.oks_of ps (kids fun q hq => Pt.goods_mem hg hq)⟩
    | alt ps =>
      rw [Pt.good, Bool.and_eq_true] at hg
      rw [Pt.ok]; exact ⟨by simpa using hg.1, hfk, Pt.oks_of ps (kids fun q hq => Pt.goods_mem hg.2 hq)⟩
    | many q => rw [Pt.ok]; rw [Pt.good] at hg; exact kids (fun q' hq => by cases List.mem_singleton.mp hq; exact hg) q (List.mem_singleton.mpr rfl)
    | nt q => rw [Pt.ok]; rw [Pt.good] at hg; exact kids (fun q' hq => by cases List.mem_singleton.mp hq; exact hg) q (List.mem_singleton.mpr rfl)
theorem strs_deep (σ : Hp) : ∀ ns : List Str, (∀ n ∈ ns, sOk n) → Deeps σ (ns.map PyData.str) (ns.map V.str)
  | [], _ => by simp [Deeps]
  | r :: t, h => by
    have h2 := strs_deep σ t fun x hx => h x (List.mem_cons_of_mem _ hx)
    simp only [List.map_cons, Deeps, Deep]
    exact ⟨_, _, rfl, ⟨rfl, h r (by simp)⟩, h2⟩
theorem strs_depth : ∀ ns : List Str, PyData.depthAll (ns.map PyData.str) ≤ 1
  | [] => by simp [PyData.depthAll]
  | r :: t => by
    have h2 := strs_depth t
    simp [PyData.depthAll, PyData.depth]; lia
theorem strs_any {x : Str} : ∀ ns : List Str, ((ns.map PyData.str).any fun y => PyData.eqv y (.str x)) = decide (x ∈ ns)
  | [] => by simp
  | r :: t => by
    have h2 := strs_any (x := x) t
    rw [List.map_cons, List.any_cons, h2]
    have : PyData.eqv (.str r) (.str x) = decide (x = r) := by
      simp only [PyData.eqv]
      by_cases e : r = x
      · subst e; simp
      · have e2 : ¬ x = r := fun q => e q.symm
        simp [e, e2]
    rw [this]
    by_cases e : x = r <;> simp [e]
theorem in_strs {x : Str} {l : Nat} {ns : List Str} {σ : Hp} (hx : sOk x) (hns : ∀ n ∈ ns, sOk n) (hl : σ[l]? = some (.list (ns.map V.str))) : InR σ (.str x) (.ref l) (decide (x ∈ ns)) :=
  strs_any (ns := ns) (x := x) ▸ .list _ _ _ _ (.str x) hl (strs_deep σ ns hns) ⟨rfl, hx⟩ (Nat.le_trans (strs_depth ns) (by decide))
end Mine

namespace Mine
open PySem PySem.Calls PyProof.Rows PySem.SeqAt

/-! the reading machine, with no program in sight -/
structure Fr (κ : Type) where
  piece : Pt
  place : Nat
  turn : Nat
  here : Nat
  kids : List κ
noncomputable abbrev An (κ : Type) := Option Nat × List κ
/-- what a book does: look, known, begin, ended (what it is then, what it tells) -/
structure Bk (β κ : Type) where
  look : β → Option β
  known : β → Str → Nat → Option (An κ)
  begun : β → Str → Nat → Option β
  ended : β → Str → Nat → An κ → β
  told : β → Str → Nat → An κ → An κ
  few : β → Prop
inductive Out (β κ : Type) where
  | push (f : Fr κ) (p : Pt) (i : Nat) (b : β)
  | pop (a : An κ) (b : β)
  | stop
structure Ms (β κ : Type) where
  fr : List (Fr κ)
  an : Option (An κ)
  bk : β

noncomputable def Pt.takesC : Pt → Nat → Bool
  | .any, _ => true
  | .sign a, c => a == c
  | .span a b, c => decide (a ≤ c) && decide (c ≤ b)
  | .rule _, _ | .row _, _ | .alt _, _ | .many _, _ | .nt _, _ => false

section
variable {β κ : Type} (G : Str → Pt) (txt : List Nat) (B : Bk β κ)

noncomputable def Fr.new (p : Pt) (i : Nat) : Fr κ := ⟨p, i, 0, i, []⟩
noncomputable def Fr.on (f : Fr κ) (e : Nat) (ks : List κ) : Fr κ := ⟨f.piece, f.place, f.turn, e, f.kids ++ ks⟩
noncomputable def Fr.nxt (f : Fr κ) : Fr κ := ⟨f.piece, f.place, f.turn + 1, f.here, f.kids⟩
noncomputable def rowOut (ps : List Pt) (f : Fr κ) (b : β) : Out β κ := match ps[f.turn]? with
  | some p => .push f p f.here b
  | none => .pop (some f.here, f.kids) b
noncomputable def altOut (ps : List Pt) (f : Fr κ) (b : β) : Out β κ := match ps[f.turn]? with
  | some p => .push f p f.place b
  | none => .pop (none, []) b
noncomputable def leafOut (p : Pt) (f : Fr κ) (b : β) : Out β κ := match B.look b with
  | some b' => (match txt[f.place]? with
    | some c => if p.takesC c then .pop (some (f.place + 1), []) b' else .pop (none, []) b'
    | none => .pop (none, []) b')
  | none => .stop
noncomputable def stepOf (f : Fr κ) (a : Option (An κ)) (b : β) : Out β κ := match f.piece with
  | .row ps => (match a with
    | some (some e, ks) => rowOut ps (f.on e ks).nxt b
    | some (none, _) => .pop (none, []) b
    | none => rowOut ps f b)
  | .alt ps => (match a with
    | some (some e, ks) => .pop (some e, ks) b
    | some (none, _) => altOut ps f.nxt b
    | none => altOut ps f b)
  | .many p => (match a with
    | some (some e, ks) => if e = f.here then .pop (some f.here, f.kids) b else .push (f.on e ks) p e b
    | some (none, _) => .pop (some f.here, f.kids) b
    | none => .push f p f.here b)
  | .nt p => (match a with
    | some (some _, _) => .pop (none, []) b
    | some (none, _) => .pop (some f.place, []) b
    | none => .push f p f.place b)
  | .rule n => (match a with
    | some a => .pop (B.told b n f.place a) (B.ended b n f.place a)
    | none => (match B.known b n f.place with
      | some a => .pop a b
      | none => (match B.begun b n f.place with
        | some b' => .push f (G n) f.place b'
        | none => .stop)))
  | p => leafOut txt B p f b

/-- nothing is too long for a list or a dict -/
noncomputable def FewS (f : Fr κ) (a : Option (An κ)) (b : β) : Prop := f.kids.length ≤ 5000000 ∧ (∀ x, a = some x → x.2.length ≤ 5000000) ∧ B.few b

/-- the machine ends in n turns, and what it answers (none: the book stopped it) is as told -/
inductive Fin (P : Option (An κ × β) → Prop) : Nat → Ms β κ → Prop where
  | done {a : An κ} {b : β} : P (some (a, b)) → Fin P 0 ⟨[], some a, b⟩
  | stop {f : Fr κ} {r : List (Fr κ)} {a : Option (An κ)} {b : β} {n : Nat} : r.length ≤ 5000000 → FewS B f a b → stepOf G txt B f a b = .stop → P none → Fin P n ⟨f :: r, a, b⟩
  | push {f f' : Fr κ} {r : List (Fr κ)} {a : Option (An κ)} {b b' : β} {p : Pt} {i n : Nat} : r.length ≤ 5000000 → FewS B f a b → stepOf G txt B f a b = .push f' p i b' → Fin P n ⟨.new p i :: f' :: r, none, b'⟩ → Fin P (n + 1) ⟨f :: r, a, b⟩
  | pop {f : Fr κ} {r : List (Fr κ)} {a : Option (An κ)} {a' : An κ} {b b' : β} {n : Nat} : r.length ≤ 5000000 → FewS B f a b → stepOf G txt B f a b = .pop a' b' → Fin P n ⟨r, some a', b'⟩ → Fin P (n + 1) ⟨f :: r, a, b⟩

variable {G txt B} {b : β} {p : Pt} {i : Nat}
theorem Fin.mono {P P' : Option (An κ × β) → Prop} (k : ∀ o, P o → P' o) {n : Nat} {st : Ms β κ} (h : Fin G txt B P n st) : Fin G txt B P' n st := by
  induction h with
  | done h => exact .done (k _ h)
  | stop a b c h => exact .stop a b c (k _ h)
  | push a b c _ ih => exact .push a b c ih
  | pop a b c _ ih => exact .pop a b c ih
/-- what is so of a machine that ends -/
noncomputable def FinO (G : Str → Pt) (txt : List Nat) (B : Bk β κ) (P : Option (An κ × β) → Prop) (n : Nat) (r : List (Fr κ)) : Out β κ → Prop
  | .stop => P none
  | .push f' p i b' => ∃ m, m < n ∧ Fin G txt B P m ⟨.new p i :: f' :: r, none, b'⟩
  | .pop a' b' => ∃ m, m < n ∧ Fin G txt B P m ⟨r, some a', b'⟩
noncomputable def FinS (G : Str → Pt) (txt : List Nat) (B : Bk β κ) (P : Option (An κ × β) → Prop) (n : Nat) (st : Ms β κ) : Prop := match st.fr with
  | [] => ∃ a, st.an = some a ∧ P (some (a, st.bk))
  | f :: r => r.length ≤ 5000000 ∧ FewS B f st.an st.bk ∧ FinO G txt B P n r (stepOf G txt B f st.an st.bk)
theorem Fin.inv {P : Option (An κ × β) → Prop} {n : Nat} {st : Ms β κ} (h : Fin G txt B P n st) : FinS G txt B P n st := by
  cases h with
  | done h => exact ⟨_, rfl, h⟩
  | stop h1 h2 h3 h => exact ⟨h1, h2, by rw [h3]; exact h⟩
  | push h1 h2 h3 h => exact ⟨h1, h2, by rw [h3]; exact ⟨_, Nat.lt_succ_self _, h⟩⟩
  | pop h1 h2 h3 h => exact ⟨h1, h2, by rw [h3]; exact ⟨_, Nat.lt_succ_self _, h⟩⟩
theorem FewS.new (w : B.few b) : FewS B (.new p i : Fr κ) none b := ⟨Nat.zero_le _, ⟨(fun _ e => by cases e), w⟩⟩
end
end Mine

namespace Mine
open PySem PySem.Calls PyProof.Rows PySem.SeqAt

/-! how the machine stands in the mini heap; A: the places that may still change (live frames, the book) -/
noncomputable def endV : Option Nat → V
  | none => .none
  | some e => .int e
/-- how a kid stands -/
structure KRep (κ : Type) where
  r : Hp → List Nat → κ → V → Prop
  keep : ∀ {σ σ' : Hp} {A A' : List Nat} {x : κ} {v : V}, r σ A x v → (∀ l o, σ[l]? = some o → l ∉ A → σ'[l]? = some o) → (∀ l ∈ A', l < σ.length → l ∈ A) → r σ' A' x v

/-- the heap goes on: all but A stays, and what may change now is new or was in A -/
structure On (σ : Hp) (A : List Nat) (σ' : Hp) (A' : List Nat) : Prop where
  keep : ∀ l o, σ[l]? = some o → l ∉ A → σ'[l]? = some o
  live : ∀ l ∈ A', l < σ.length → l ∈ A
theorem On.refl {σ : Hp} {A : List Nat} : On σ A σ A := ⟨fun _ _ e _ => e, fun _ h _ => h⟩
theorem On.up {σ jk : Hp} {A : List Nat} : On σ A (σ ++ jk) A := ⟨fun _ _ e _ => get_up e, fun _ h _ => h⟩
theorem On.less {σ : Hp} {A A' : List Nat} (h : ∀ l ∈ A', l ∈ A) : On σ A σ A' := ⟨fun _ _ e _ => e, fun l x _ => h l x⟩
theorem On.put {σ : Hp} {A : List Nat} {i : Nat} {o : MObj} (h : i ∈ A) : On σ A (σ.set i o) A := ⟨fun l x e hl => by
  have hne : i ≠ l := fun q => hl (q ▸ h)
  rw [List.getElem?_set_ne hne]; exact e, fun _ h _ => h⟩
theorem On.trans {σ σ₁ σ₂ : Hp} {A A₁ A₂ : List Nat} (x : On σ A σ₁ A₁) (y : On σ₁ A₁ σ₂ A₂) (hl : σ.length ≤ σ₁.length) : On σ A σ₂ A₂ :=
  ⟨fun l o e h => y.keep l o (x.keep l o e h) fun q => h (x.live l q (List.getElem?_eq_some_iff.mp e).1), fun l h q => x.live l (y.live l h (Nat.lt_of_lt_of_le q hl)) q⟩

section
variable {κ β : Type} (K : KRep κ)
noncomputable def KRs (σ : Hp) (A : List Nat) : List κ → List V → Prop
  | [], vs => vs = []
  | x :: xs, vs => ∃ v r, vs = v :: r ∧ K.r σ A x v ∧ KRs σ A xs r
/-- an answer -/
noncomputable def AnAt (σ : Hp) (A : List Nat) (a : An κ) (v : V) : Prop := ∃ l vs, v = .tup [endV a.1, .ref l] ∧ l ∉ A ∧ σ[l]? = some (.list vs) ∧ KRs K σ A a.2 vs
noncomputable def AnO (σ : Hp) (A : List Nat) : Option (An κ) → V → Prop
  | none, v => v = .none
  | some a, v => AnAt K σ A a v
/-- a frame at l, its kids at k -/
inductive FrAt (σ : Hp) (A : List Nat) (f : Fr κ) (l k : Nat) : Prop where
  | mk (vs : List V) (h1 : σ[l]? = some (.inst "Frame" [("piece", f.piece.v), ("place", .int f.place), ("turn", .int f.turn), ("here", .int f.here), ("kids", .ref k)])) (h2 : σ[k]? = some (.list vs)) (h3 : KRs K σ A f.kids vs) : FrAt σ A f l k
variable {K}
theorem KRs.keep {σ σ' : Hp} {A A' : List Nat} (o : On σ A σ' A') : ∀ {xs : List κ} {vs : List V}, KRs K σ A xs vs → KRs K σ' A' xs vs
  | [], _, h => h
  | _ :: _, _, h => by
    obtain ⟨v, r, e, h1, h2⟩ := h
    exact ⟨v, r, e, K.keep h1 o.keep o.live, KRs.keep o h2⟩
theorem KRs.append {σ : Hp} {A : List Nat} : ∀ {xs ys : List κ} {vs us : List V}, KRs K σ A xs vs → KRs K σ A ys us → KRs K σ A (xs ++ ys) (vs ++ us)
  | [], _, _, _, h, h' => by cases h; exact h'
  | _ :: _, _, _, _, h, h' => by
    obtain ⟨v, r, rfl, h1, h2⟩ := h
    exact ⟨v, _, rfl, h1, KRs.append h2 h'⟩
theorem KRs.length {σ : Hp} {A : List Nat} : ∀ {xs : List κ} {vs : List V}, KRs K σ A xs vs → vs.length = xs.length
  | [], _, h => by cases h; rfl
  | _ :: _, _, h => by
    obtain ⟨v, r, rfl, _, h2⟩ := h
    simp [KRs.length h2]
theorem AnAt.keep {σ σ' : Hp} {A A' : List Nat} {a : An κ} {v : V} (o : On σ A σ' A') (h : AnAt K σ A a v) : AnAt K σ' A' a v := by
  obtain ⟨l, vs, e, h1, h2, h3⟩ := h
  exact ⟨l, vs, e, fun q => h1 (o.live l q (List.getElem?_eq_some_iff.mp h2).1), o.keep _ _ h2 h1, h3.keep o⟩
/-- a frame whose own two places stay -/
theorem FrAt.keep {σ σ' : Hp} {A A' : List Nat} {f : Fr κ} {l k : Nat} (o : On σ A σ' A') (h : FrAt K σ A f l k) (hl : σ'[l]? = σ[l]?) (hk : σ'[k]? = σ[k]?) : FrAt K σ' A' f l k := by
  obtain ⟨vs, h1, h2, h3⟩ := h
  exact ⟨vs, hl.trans h1, hk.trans h2, h3.keep o⟩
end
/-- how a book stands; own: the places that it may change -/
structure BRep (β κ : Type) where
  K : KRep κ
  own : List Nat
  is : Hp → List Nat → β → Prop
  keep : ∀ {σ σ' : Hp} {A A' : List Nat} {b : β}, is σ A b → On σ A σ' A' → (∀ x ∈ own, σ'[x]? = σ[x]?) → is σ' A' b
end Mine

namespace Mine
open PySem PySem.Calls PyProof.Rows PySem.SeqAt

/-! a Memory, pure and in the mini heap -/
noncomputable abbrev Kid := Str × Nat
structure Mm where
  kept : List (Kid × An Kid)
  order : List Kid
noncomputable def tell (k : Kid) (a : An Kid) : An Kid := match a.1 with
  | none => (none, [])
  | some e => (some e, [k])
noncomputable def setM (kept : List (Kid × An Kid)) (k : Kid) (a : An Kid) : List (Kid × An Kid) :=
  if kept.any (fun p => p.1 = k) then kept.map (fun p => if p.1 = k then (p.1, a) else p) else kept ++ [(k, a)]
noncomputable def getM (kept : List (Kid × An Kid)) (k : Kid) : Option (An Kid) := (kept.find? fun p => p.1 = k).map (·.2)
noncomputable def memBk : Bk Mm Kid where
  look := some
  known := fun b n i => (getM b.kept (n, i)).map (tell (n, i))
  begun := fun b n i => some ⟨b.kept, b.order ++ [(n, i)]⟩
  ended := fun b n i a => ⟨setM b.kept (n, i) a, b.order⟩
  told := fun _ n i a => tell (n, i) a
  few := fun b => b.kept.length ≤ 5000000 ∧ b.order.length ≤ 5000000

noncomputable def pV' (k : Kid) : V := .tup [.str k.1, .int k.2]
noncomputable def memKid : KRep Kid where
  r := fun _ _ x v => v = pV' x
  keep := fun h _ _ => h
theorem memKid_krs {σ : Hp} {A : List Nat} : ∀ {xs : List Kid}, KRs memKid σ A xs (xs.map pV')
  | [] => rfl
  | _ :: _ => ⟨_, _, rfl, rfl, memKid_krs⟩
theorem memKid_eq {σ : Hp} {A : List Nat} : ∀ {xs : List Kid} {vs : List V}, KRs memKid σ A xs vs → vs = xs.map pV'
  | [], _, h => h
  | _ :: _, _, h => by
    obtain ⟨v, r, rfl, h1, h2⟩ := h
    rw [memKid_eq h2, show v = _ from h1]; rfl

noncomputable def KeptR (σ : Hp) (A : List Nat) : List (Kid × An Kid) → List ((Str × Int) × V) → Prop
  | [], kvs => kvs = []
  | p :: r, kvs => ∃ v q, kvs = ((p.1.1, (p.1.2 : Int)), v) :: q ∧ AnAt memKid σ A p.2 v ∧ KeptR σ A r q
theorem KeptR.keep {σ σ' : Hp} {A A' : List Nat} (o : On σ A σ' A') : ∀ {xs : List (Kid × An Kid)} {kvs : List ((Str × Int) × V)}, KeptR σ A xs kvs → KeptR σ' A' xs kvs
  | [], _, h => h
  | _ :: _, _, h => by
    obtain ⟨v, q, e, h1, h2⟩ := h
    exact ⟨v, q, e, h1.keep o, KeptR.keep o h2⟩
theorem KeptR.length {σ : Hp} {A : List Nat} : ∀ {xs : List (Kid × An Kid)} {kvs : List ((Str × Int) × V)}, KeptR σ A xs kvs → kvs.length = xs.length
  | [], _, h => by cases h; rfl
  | _ :: _, _, h => by
    obtain ⟨v, q, rfl, _, h2⟩ := h
    simp [KeptR.length h2]
theorem key_eq {k k' : Kid} : ((k.1, (k.2 : Int)) = (k'.1, (k'.2 : Int))) ↔ k = k' := by
  obtain ⟨a, b⟩ := k; obtain ⟨c, d⟩ := k'
  simp only [Prod.mk.injEq]
  exact and_congr_right fun _ => Int.ofNat_inj
theorem KeptR.get {σ : Hp} {A : List Nat} {k : Kid} : ∀ {xs : List (Kid × An Kid)} {kvs : List ((Str × Int) × V)}, KeptR σ A xs kvs → (getM xs k = none ∧ kvs.find? (fun kv => kv.1 = (k.1, (k.2 : Int))) = none) ∨ ∃ a v, getM xs k = some a ∧ (kvs.find? fun kv => kv.1 = (k.1, (k.2 : Int))).map (·.2) = some v ∧ AnAt memKid σ A a v
  | [], _, h => by cases h; exact .inl ⟨rfl, rfl⟩
  | p :: r, _, h => by
    obtain ⟨v, q, rfl, h1, h2⟩ := h
    by_cases hk : p.1 = k
    · refine .inr ⟨p.2, v, by simp [getM, hk], ?_, h1⟩
      rw [List.find?_cons, decide_eq_true (key_eq.mpr hk)]; rfl
    · have hk' : ¬ ((p.1.1, (p.1.2 : Int)) = (k.1, (k.2 : Int))) := fun e => hk (key_eq.mp e)
      rcases KeptR.get (k := k) h2 with ⟨a, b⟩ | ⟨a, u, b, c, e⟩
      · refine .inl ⟨by simpa [getM, hk] using a, ?_⟩
        rw [List.find?_cons, decide_eq_false hk']; exact b
      · refine .inr ⟨a, u, by simpa [getM, hk] using b, ?_, e⟩
        rw [List.find?_cons, decide_eq_false hk']; exact c
theorem KeptR.any {σ : Hp} {A : List Nat} {k : Kid} : ∀ {xs : List (Kid × An Kid)} {kvs : List ((Str × Int) × V)}, KeptR σ A xs kvs → kvs.any (fun kv => kv.1 = (k.1, (k.2 : Int))) = xs.any (fun p => p.1 = k)
  | [], _, h => by cases h; rfl
  | p :: r, _, h => by
    obtain ⟨v, q, rfl, h1, h2⟩ := h
    rw [List.any_cons, List.any_cons, KeptR.any h2]
    congr 1
    rw [Bool.eq_iff_iff]; simp only [decide_eq_true_eq]; exact key_eq
theorem KeptR.set {σ : Hp} {A : List Nat} {k : Kid} {a : An Kid} {v : V} {xs : List (Kid × An Kid)} {kvs : List ((Str × Int) × V)} (h : KeptR σ A xs kvs) (hv : AnAt memKid σ A a v) : KeptR σ A (setM xs k a) (setTK kvs (k.1, (k.2 : Int)) v) := by
  unfold setM setTK
  rw [h.any (k := k)]
  split
  · rename_i hh; clear hh
    induction xs generalizing kvs with
    | nil => cases h; rfl
    | cons p r ih =>
      obtain ⟨u, q, rfl, h1, h2⟩ := h
      by_cases hk : p.1 = k
      · rw [List.map_cons, List.map_cons, if_pos hk, if_pos (key_eq.mpr hk)]
        exact ⟨v, _, rfl, hv, ih h2⟩
      · rw [List.map_cons, List.map_cons, if_neg hk, if_neg (fun e => hk (key_eq.mp e))]
        exact ⟨u, _, rfl, h1, ih h2⟩
  · rename_i hh; clear hh
    induction xs generalizing kvs with
    | nil => cases h; exact ⟨v, _, rfl, hv, rfl⟩
    | cons p r ih =>
      obtain ⟨u, q, rfl, h1, h2⟩ := h
      exact ⟨u, _, rfl, h1, ih h2⟩
end Mine

namespace Mine
open PySem PySem.Calls PyProof.Rows PySem.SeqAt

/-! the machine's course: from a frame to its answer -/
theorem a_one {r D : Nat} (h : r + D ≤ 5000000) : r ≤ 5000000 := Nat.le_trans (Nat.le_add_right _ _) h
theorem a_next {r D : Nat} (h : r + (D + 1) ≤ 5000000) : r + 1 + D ≤ 5000000 := Nat.le_trans (Nat.le_of_eq (Nat.succ_add_eq_add_succ r D)) h
theorem a_pred {D D' : Nat} (h : D + 1 ≤ D') : ∃ x, D' = x + 1 ∧ D ≤ x := match D', h with | x + 1, h => ⟨x, rfl, Nat.le_of_succ_le_succ h⟩
theorem a_sub {e len i : Nat} (h : e ≤ len) : e + 1 - i ≤ len + 1 := Nat.le_trans (Nat.sub_le _ _) (Nat.succ_le_succ h)
theorem a_mono {h e i : Nat} (g : h ≤ e) : h + 1 - i ≤ e + 1 - i := Nat.sub_le_sub_right (Nat.succ_le_succ g) _
theorem a_many {e h : Nat} (g : h < e) : e + 1 - h ≤ 2 * (e - h) := by rw [Nat.succ_sub (Nat.le_of_lt g), Nat.two_mul]; exact Nat.add_le_add_left (Nat.sub_pos_of_lt g) _
theorem a_split {i h e : Nat} (h1 : i ≤ h) (h2 : h ≤ e) : e - i = (h - i) + (e - h) := (Nat.sub_add_sub_cancel h2 h1).symm.trans (Nat.add_comm ..)
theorem a_meas {l h i R N m : Nat} (g : i < h) (hl : h ≤ l) (hN : (l - i) * (R + 1) + (R - m) ≤ N) : (l - h) * (R + 1) + (R - 0) < N :=
  Nat.lt_of_lt_of_le (Nat.add_lt_add_left (Nat.lt_succ_self R) _) (Nat.le_trans (Nat.le_of_eq (Nat.succ_mul (l - h) (R + 1)).symm) (Nat.le_trans (Nat.mul_le_mul_right _ (Nat.sub_lt_sub_left (Nat.lt_of_lt_of_le g hl) g)) (Nat.le_trans (Nat.le_add_right _ _) hN)))
theorem a_rule {X R m j N : Nat} (h1 : m ≤ j) (h2 : j < R) (hN : X + (R - m) ≤ N) : X + (R - (j + 1)) < N := Nat.lt_of_lt_of_le (Nat.add_lt_add_left (Nat.sub_lt_sub_left (Nat.lt_of_le_of_lt h1 h2) (Nat.lt_succ_of_le h1)) X) hN
theorem a_dep {N' N n d : Nat} (h : N' < N) (hd : d ≤ 12) : N' * 14 + d ≤ N * 14 + n := Nat.le_trans (Nat.add_le_add_left (Nat.le_trans hd (by decide : 12 ≤ 14)) _) (Nat.le_trans (Nat.le_of_eq (Nat.succ_mul N' 14).symm) (Nat.le_trans (Nat.mul_le_mul_right 14 h) (Nat.le_add_right _ _)))
theorem a_step {l h e j : Nat} (hj : l - h ≤ j + 1) (g : h < e) : l - e ≤ j := Nat.sub_le_iff_le_add.mpr (Nat.le_trans (Nat.sub_le_iff_le_add.mp hj) (Nat.le_trans (Nat.le_of_eq (Nat.add_assoc j 1 h)) (Nat.add_le_add_left (Nat.le_trans (Nat.le_of_eq (Nat.add_comm 1 h)) g) j)))
theorem a_end {l h e : Nat} (hj : l - h ≤ 0) (g : h < e) (h2 : e ≤ l) : False := absurd (Nat.lt_of_lt_of_le g h2) (Nat.not_lt.mpr (Nat.le_of_sub_eq_zero (Nat.le_zero.mp hj)))
section
variable {β κ : Type}
/-- the rules under way, while a frame waits for a part -/
noncomputable def lvl (f : Fr κ) (L : List (Str × Nat)) : List (Str × Nat) := match f.piece with
  | .rule n => (n, f.place) :: L
  | _ => L
noncomputable def lvlOk (f : Fr κ) (L : List (Str × Nat)) : Prop := match f.piece with
  | .rule n => (n, f.place) ∉ L
  | _ => True
/-- o: what comes of the frame f with the answer a; none: the book stopped it -/
inductive Bs (G : Str → Pt) (txt : List Nat) (B : Bk β κ) : Nat → List (Str × Nat) → Fr κ → Option (An κ) → β → Option (An κ × β) → Prop where
  | stop {D : Nat} {L : List (Str × Nat)} {f : Fr κ} {a : Option (An κ)} {b : β} : FewS B f a b → stepOf G txt B f a b = .stop → Bs G txt B D L f a b none
  | pop {D : Nat} {L : List (Str × Nat)} {f : Fr κ} {a : Option (An κ)} {b b' : β} {a' : An κ} : FewS B f a b → stepOf G txt B f a b = .pop a' b' → Bs G txt B D L f a b (some (a', b'))
  | dead {D : Nat} {L : List (Str × Nat)} {f f' : Fr κ} {a : Option (An κ)} {b b' : β} {p : Pt} {i : Nat} : FewS B f a b → stepOf G txt B f a b = .push f' p i b' → lvlOk f L → Bs G txt B D (lvl f L) (.new p i) none b' none → Bs G txt B (D + 1) L f a b none
  | push {D : Nat} {L : List (Str × Nat)} {f f' : Fr κ} {a : Option (An κ)} {b b' b'' : β} {p : Pt} {i : Nat} {a' : An κ} {o : Option (An κ × β)} : FewS B f a b → stepOf G txt B f a b = .push f' p i b' → lvlOk f L → Bs G txt B D (lvl f L) (.new p i) none b' (some (a', b'')) → Bs G txt B (D + 1) L f' (some a') b'' o → Bs G txt B (D + 1) L f a b o

variable {G : Str → Pt} {txt : List Nat} {B : Bk β κ}
theorem Bs.fin {D : Nat} {L : List (Str × Nat)} {f : Fr κ} {a : Option (An κ)} {b : β} {o : Option (An κ × β)} (h : Bs G txt B D L f a b o) (P : Option (An κ × β) → Prop) : ∀ r : List (Fr κ), r.length + D ≤ 5000000 → (∀ a' b', o = some (a', b') → ∃ n, Fin G txt B P n ⟨r, some a', b'⟩) → (o = none → P none) → ∃ n, Fin G txt B P n ⟨f :: r, a, b⟩ := by
  induction h with
  | stop w h => exact fun r hD _ h2 => ⟨0, .stop (a_one hD) w h (h2 rfl)⟩
  | pop w h => exact fun r hD h1 _ => let ⟨n, hn⟩ := h1 _ _ rfl; ⟨_, .pop (a_one hD) w h hn⟩
  | dead w h _ _ ih => exact fun r hD _ h2 => let ⟨n, hn⟩ := ih (_ :: r) (a_next hD) (fun _ _ e => by cases e) h2; ⟨_, .push (a_one hD) w h hn⟩
  | push w h _ _ _ ih1 ih2 => exact fun r hD h1 h2 => let ⟨n, hn⟩ := ih1 (_ :: r) (a_next hD) (fun a' b' e => by cases e; exact ih2 r hD h1 h2) (fun e => by cases e); ⟨_, .push (a_one hD) w h hn⟩
/-- with nothing below it -/
theorem Bs.run {D : Nat} {L : List (Str × Nat)} {f : Fr κ} {a : Option (An κ)} {b : β} {o : Option (An κ × β)} (h : Bs G txt B D L f a b o) (hD : D ≤ 5000000) : ∃ n, Fin G txt B (· = o) n ⟨[f], a, b⟩ :=
  h.fin _ [] (Nat.le_trans (Nat.le_of_eq (Nat.zero_add D)) hD) (fun _ _ e => ⟨0, .done e.symm⟩) (fun e => e.symm)
theorem Bs.le {D : Nat} {L : List (Str × Nat)} {f : Fr κ} {a : Option (An κ)} {b : β} {o : Option (An κ × β)} (h : Bs G txt B D L f a b o) : ∀ {D' : Nat}, D ≤ D' → Bs G txt B D' L f a b o := by
  induction h with
  | stop w h => exact fun _ => .stop w h
  | pop w h => exact fun _ => .pop w h
  | dead w h l _ ih =>
    intro D' hD
    obtain ⟨D', rfl, hD'⟩ := a_pred hD
    exact .dead w h l (ih hD')
  | push w h l _ _ ih1 ih2 =>
    intro D' hD
    obtain ⟨D', rfl, hD'⟩ := a_pred hD
    exact .push w h l (ih1 hD') (ih2 hD)
/-- what a course is, by its first step -/
noncomputable def BsO (G : Str → Pt) (txt : List Nat) (B : Bk β κ) (D : Nat) (L : List (Str × Nat)) (f : Fr κ) (o : Option (An κ × β)) : Out β κ → Prop
  | .stop => o = none
  | .pop a b => o = some (a, b)
  | .push f' p i b' => ∃ D', D = D' + 1 ∧ lvlOk f L ∧ ((Bs G txt B D' (lvl f L) (.new p i) none b' none ∧ o = none) ∨ ∃ a' b'', Bs G txt B D' (lvl f L) (.new p i) none b' (some (a', b'')) ∧ Bs G txt B (D' + 1) L f' (some a') b'' o)
theorem Bs.out {D : Nat} {L : List (Str × Nat)} {f : Fr κ} {a : Option (An κ)} {b : β} {o : Option (An κ × β)} (h : Bs G txt B D L f a b o) : BsO G txt B D L f o (stepOf G txt B f a b) :=
  h.rec (fun _ h => h ▸ rfl) (fun _ h => h ▸ rfl) (fun _ h l k _ => h ▸ ⟨_, rfl, l, .inl ⟨k, rfl⟩⟩) fun _ h l k k' _ _ => h ▸ ⟨_, rfl, l, .inr ⟨_, _, k, k'⟩⟩
theorem Bs.pops {D : Nat} {L : List (Str × Nat)} {f : Fr κ} {a : Option (An κ)} {b b' : β} {a' : An κ} {o : Option (An κ × β)} (h : Bs G txt B D L f a b o) (hs : stepOf G txt B f a b = .pop a' b') : o = some (a', b') := by
  have := h.out; rw [hs] at this; exact this
end

mutual
/-- how many rules may fit in a part, for each sign -/
noncomputable def Pt.wt : Pt → Nat
  | .rule _ => 1
  | .row ps | .alt ps => Pt.wts ps
  | .many p => 2 * p.wt
  | .nt p => p.wt
  | .sign _ | .span _ _ | .any => 0
noncomputable def Pt.wts : List Pt → Nat
  | [] => 0
  | p :: r => p.wt + Pt.wts r
end
theorem Pt.wts_mem {ps : List Pt} {p : Pt} (h : p ∈ ps) : p.wt ≤ Pt.wts ps := by
  induction ps with
  | nil => cases h
  | cons a r ih =>
    rw [Pt.wts]
    rcases List.mem_cons.mp h with rfl | h
    · exact Nat.le_add_right _ _
    · exact Nat.le_trans (ih h) (Nat.le_add_left _ _)
theorem Pt.wts_app : ∀ ps qs : List Pt, Pt.wts (ps ++ qs) = Pt.wts ps + Pt.wts qs
  | [], qs => by simp [Pt.wts]
  | p :: r, qs => by rw [List.cons_append, Pt.wts, Pt.wts, Pt.wts_app r qs, Nat.add_assoc]
theorem Pt.wts_take {ps : List Pt} (t : Nat) : Pt.wts (ps.take t) ≤ Pt.wts ps := by
  conv => rhs; rw [← List.take_append_drop t ps]
  rw [Pt.wts_app]; exact Nat.le_add_right _ _
theorem Pt.wts_next {ps : List Pt} {t : Nat} {p : Pt} (h : ps[t]? = some p) : Pt.wts (ps.take (t + 1)) = Pt.wts (ps.take t) + p.wt := by
  rw [List.take_add_one, h, Pt.wts_app]; simp [Pt.wts]
theorem Pt.ahdRow_at {B : Str → Bool} : ∀ {ps : List Pt} {t : Nat} {p : Pt}, ps[t]? = some p → Pt.mayAll B (ps.take t) = true → ∀ y ∈ p.ahd B, y ∈ Pt.ahdRow B ps
  | [], _, _, h, _ => by cases h
  | a :: r, 0, p, h, _ => by cases h; intro y hy; rw [Pt.ahdRow]; exact List.mem_append_left _ hy
  | a :: r, t + 1, p, h, hm => by
    rw [List.take_succ_cons, Pt.mayAll, Bool.and_eq_true] at hm
    intro y hy
    rw [Pt.ahdRow, if_pos hm.1]
    exact List.mem_append_right _ (Pt.ahdRow_at (ps := r) (t := t) (by simpa using h) hm.2 y hy)
theorem Pt.ahdAlt_at {B : Str → Bool} {ps : List Pt} {p : Pt} (h : p ∈ ps) : ∀ y ∈ p.ahd B, y ∈ Pt.ahdAlt B ps := by
  induction ps with
  | nil => cases h
  | cons a r ih =>
    intro y hy
    rw [Pt.ahdAlt]
    rcases List.mem_cons.mp h with rfl | h
    · exact List.mem_append_left _ hy
    · exact List.mem_append_right _ (ih h y hy)
theorem Pt.mayAll_next {B : Str → Bool} {ps : List Pt} {t : Nat} {p : Pt} (h : ps[t]? = some p) (hm : Pt.mayAll B (ps.take t) = true) (hp : p.may B = true) : Pt.mayAll B (ps.take (t + 1)) = true := by
  rw [List.take_add_one, h, Pt.mayAll_eq, List.all_append, ← Pt.mayAll_eq, hm]; simp [hp]
theorem Pt.mayAny_at {B : Str → Bool} {ps : List Pt} {p : Pt} (h : p ∈ ps) (hp : p.may B = true) : Pt.mayAny B ps = true := by
  rw [Pt.mayAny_eq, List.any_eq_true]; exact ⟨p, h, hp⟩

/-- an answer of a part at a place fits -/
noncomputable def FitB (ok : Bool) (w len i : Nat) {κ : Type} (a : An κ) : Prop := match a.1 with
  | some e => i ≤ e ∧ e ≤ len ∧ (e = i → ok = true) ∧ a.2.length ≤ w * (e + 1 - i)
  | none => a.2 = []
/-- what a grammar must be for the machine to come to an end -/
structure GrOk (G : Str → Pt) (names : List Str) (mb : Str → Bool) (ix : Str → Nat) (R W : Nat) : Prop where
  part : ∀ n ∈ names, (G n).ok (· ∈ names)
  deep : ∀ n ∈ names, (G n).deep ≤ 12
  wt : ∀ n ∈ names, (G n).wt ≤ W
  lead : ∀ n ∈ names, ∀ y ∈ (G n).ahd mb, ix n < ix y
  ixl : ∀ n ∈ names, ix n < R
  bare : ∀ n ∈ names, (G n).may mb = true → mb n = true
/-- and a book; I: what is so of it, while the rules L are under way -/
structure BkOk {β κ : Type} (B : Bk β κ) (I : List (Str × Nat) → β → Prop) (names : List Str) (mb : Str → Bool) (W len : Nat) : Prop where
  few : ∀ {L b}, I L b → B.few b
  look : ∀ {L b b'}, I L b → B.look b = some b' → I L b'
  known : ∀ {L b n i a}, I L b → n ∈ names → i ≤ len → B.known b n i = some a → FitB (mb n) 1 len i a
  begun : ∀ {L b b' n i}, I L b → n ∈ names → i ≤ len → (n, i) ∉ L → B.known b n i = none → B.begun b n i = some b' → I ((n, i) :: L) b'
  ended : ∀ {L b n i} {a : An κ}, I ((n, i) :: L) b → n ∈ names → i ≤ len → (n, i) ∉ L → FitB (mb n) W len i a → I L (B.ended b n i a) ∧ FitB (mb n) 1 len i (B.told b n i a)

section
variable {β κ : Type} {G : Str → Pt} {txt : List Nat} {B : Bk β κ} {I : List (Str × Nat) → β → Prop} {names : List Str} {mb : Str → Bool} {ix : Str → Nat} {R W : Nat}
/-- it comes to an answer that fits -/
noncomputable def Ends (G : Str → Pt) (txt : List Nat) (B : Bk β κ) (I : List (Str × Nat) → β → Prop) (ok : Bool) (w i : Nat) (D : Nat) (L : List (Str × Nat)) (f : Fr κ) (a : Option (An κ)) (b : β) : Prop :=
  ∃ o, Bs G txt B D L f a b o ∧ ∀ a' b', o = some (a', b') → I L b' ∧ FitB ok w txt.length i a'
theorem Ends.pop {ok : Bool} {w i D : Nat} {L : List (Str × Nat)} {f : Fr κ} {a : Option (An κ)} {b b' : β} {a' : An κ} (few : FewS B f a b) (h : stepOf G txt B f a b = .pop a' b') (hI : I L b') (hf : FitB ok w txt.length i a') : Ends G txt B I ok w i D L f a b :=
  ⟨_, .pop few h, fun _ _ e => by cases e; exact ⟨hI, hf⟩⟩
theorem Ends.push {ok ok' : Bool} {w w' i j D : Nat} {L : List (Str × Nat)} {f f' : Fr κ} {a : Option (An κ)} {b b' : β} {p : Pt} (few : FewS B f a b) (h : stepOf G txt B f a b = .push f' p j b') (hl : lvlOk f L) (h1 : Ends G txt B I ok' w' j D (lvl f L) (.new p j) none b')
    (h2 : ∀ a' b'', I (lvl f L) b'' → FitB ok' w' txt.length j a' → Ends G txt B I ok w i (D + 1) L f' (some a') b'') : Ends G txt B I ok w i (D + 1) L f a b := by
  obtain ⟨o, k, hk⟩ := h1
  cases o with
  | none => exact ⟨none, .dead few h hl k, fun _ _ e => by cases e⟩
  | some x =>
    obtain ⟨a', b''⟩ := x
    obtain ⟨hI, hf⟩ := hk _ _ rfl
    obtain ⟨o, k2, hk2⟩ := h2 a' b'' hI hf
    exact ⟨o, .push few h hl k k2, hk2⟩
theorem Ends.le {ok : Bool} {w i D D' : Nat} {L : List (Str × Nat)} {f : Fr κ} {a : Option (An κ)} {b : β} (h : Ends G txt B I ok w i D L f a b) (hD : D ≤ D') : Ends G txt B I ok w i D' L f a b := by
  obtain ⟨o, k, hk⟩ := h
  exact ⟨o, k.le hD, hk⟩
theorem mul_few {w W x y : Nat} (hw : w ≤ W) (hx : x ≤ y) (hW : W * y ≤ 5000000) : w * x ≤ 5000000 := Nat.le_trans (Nat.mul_le_mul hw hx) hW
theorem FitB.few {ok : Bool} {w W len i : Nat} {a : An κ} (h : FitB ok w len i a) (hw : w ≤ W) (hW : W * (len + 1) ≤ 5000000) : a.2.length ≤ 5000000 := by
  unfold FitB at h
  split at h
  · exact Nat.le_trans h.2.2.2 (mul_few hw (a_sub h.2.1) hW)
  · rw [h]; simp
theorem FewS.of {f : Fr κ} {a : An κ} {b : β} (h1 : f.kids.length ≤ 5000000) (h2 : a.2.length ≤ 5000000) (h3 : B.few b) : FewS B f (some a) b := ⟨h1, fun _ e => by cases e; exact h2, h3⟩
/-- a row, from some turn on -/
theorem ends_row {W' : Nat} {ps : List Pt} {i D : Nat} {L : List (Str × Nat)} (hB : BkOk B I names mb W' txt.length) (hw : Pt.wts ps ≤ W) (hW : W * (txt.length + 1) ≤ 5000000)
    (sub : ∀ t q h b, ps[t]? = some q → i ≤ h → h ≤ txt.length → (h = i → Pt.mayAll mb (ps.take t) = true) → I L b → Ends G txt B I (q.may mb) q.wt h D L (.new q h) none b) :
    ∀ (j t h : Nat) (ks : List κ) (f : Fr κ) (a : Option (An κ)) (b : β), t + j = ps.length → stepOf G txt B f a b = rowOut ps ⟨.row ps, i, t, h, ks⟩ b → f.piece = .row ps → FewS B f a b → I L b → i ≤ h → h ≤ txt.length → (h = i → Pt.mayAll mb (ps.take t) = true) → ks.length ≤ Pt.wts (ps.take t) * (h + 1 - i) →
      Ends G txt B I (Pt.mayAll mb ps) (Pt.wts ps) i (D + 1) L f a b := by
  intro j
  induction j with
  | zero =>
    intro t h ks f a b hj hs hp few hI h1 h2 h3 h4
    have ht : ps.take t = ps := List.take_of_length_le (Nat.le_of_eq hj.symm)
    rw [ht] at h3 h4
    refine .pop (a' := (some h, ks)) (b' := b) few ?_ hI ⟨h1, h2, h3, h4⟩
    rw [hs]; unfold rowOut; rw [show ps[(⟨.row ps, i, t, h, ks⟩ : Fr κ).turn]? = none from List.getElem?_eq_none (Nat.le_of_eq hj.symm)]
  | succ j ih =>
    intro t h ks f a b hj hs hp few hI h1 h2 h3 h4
    have ht : t < ps.length := hj ▸ Nat.lt_add_of_pos_right (Nat.succ_pos j)
    have hq := List.getElem?_eq_getElem ht
    generalize ps[t] = q at hq
    have el : lvl f L = L := by simp [lvl, hp]
    refine .push (f' := ⟨.row ps, i, t, h, ks⟩) (p := q) (j := h) (b' := b) (ok' := q.may mb) (w' := q.wt) few ?_ (by simp [lvlOk, hp]) (by rw [el]; exact sub t q h b hq h1 h2 h3 hI) fun a' b'' hI' hf => ?_
    · rw [hs]; unfold rowOut; rw [show ps[(⟨.row ps, i, t, h, ks⟩ : Fr κ).turn]? = some q from hq]
    rw [el] at hI'
    have hqm := List.mem_of_getElem? hq
    have few' : FewS B (⟨.row ps, i, t, h, ks⟩ : Fr κ) (some a') b'' := .of (Nat.le_trans h4 (mul_few (Nat.le_trans (Pt.wts_take t) hw) (a_sub h2) hW)) (hf.few (Nat.le_trans (Pt.wts_mem hqm) hw) hW) (hB.few hI')
    obtain ⟨x, us⟩ := a'
    cases x with
    | none => exact .pop (a' := (none, [])) (b' := b'') few' rfl hI' rfl
    | some e =>
      obtain ⟨g1, g2, g3, g4⟩ := hf
      refine ih (t + 1) e (ks ++ us) _ _ b'' ((Nat.succ_add_eq_add_succ t j).trans hj) rfl rfl few' hI' (Nat.le_trans h1 g1) g2 (fun e' => ?_) ?_
      · subst e'
        have hh : h = e := Nat.le_antisymm g1 h1
        subst hh
        exact Pt.mayAll_next hq (h3 rfl) (g3 rfl)
      · rw [List.length_append, Pt.wts_next hq, Nat.add_mul]
        exact Nat.add_le_add (Nat.le_trans h4 (Nat.mul_le_mul_left _ (a_mono g1))) (Nat.le_trans g4 (Nat.mul_le_mul_left _ (Nat.sub_le_sub_left h1 _)))
/-- a choice, from some turn on -/
theorem ends_alt {W' : Nat} {ps : List Pt} {i D : Nat} {L : List (Str × Nat)} (hB : BkOk B I names mb W' txt.length) (hw : Pt.wts ps ≤ W) (hW : W * (txt.length + 1) ≤ 5000000)
    (sub : ∀ q b, q ∈ ps → I L b → Ends G txt B I (q.may mb) q.wt i D L (.new q i) none b) :
    ∀ (j t h : Nat) (f : Fr κ) (a : Option (An κ)) (b : β), t + j = ps.length → stepOf G txt B f a b = altOut ps ⟨.alt ps, i, t, h, []⟩ b → f.piece = .alt ps → FewS B f a b → I L b →
      Ends G txt B I (Pt.mayAny mb ps) (Pt.wts ps) i (D + 1) L f a b := by
  intro j
  induction j with
  | zero =>
    intro t h f a b hj hs hp few hI
    refine .pop (a' := (none, [])) (b' := b) few ?_ hI rfl
    rw [hs]; unfold altOut; rw [show ps[(⟨.alt ps, i, t, h, []⟩ : Fr κ).turn]? = none from List.getElem?_eq_none (Nat.le_of_eq hj.symm)]
  | succ j ih =>
    intro t h f a b hj hs hp few hI
    have ht : t < ps.length := hj ▸ Nat.lt_add_of_pos_right (Nat.succ_pos j)
    have hq := List.getElem?_eq_getElem ht
    generalize ps[t] = q at hq
    have hqm := List.mem_of_getElem? hq
    have el : lvl f L = L := by simp [lvl, hp]
    refine .push (f' := ⟨.alt ps, i, t, h, []⟩) (p := q) (j := i) (b' := b) (ok' := q.may mb) (w' := q.wt) few ?_ (by simp [lvlOk, hp]) (by rw [el]; exact sub q b hqm hI) fun a' b'' hI' hf => ?_
    · rw [hs]; unfold altOut; rw [show ps[(⟨.alt ps, i, t, h, []⟩ : Fr κ).turn]? = some q from hq]
    rw [el] at hI'
    have few' : FewS B (⟨.alt ps, i, t, h, []⟩ : Fr κ) (some a') b'' := .of (Nat.zero_le _) (hf.few (Nat.le_trans (Pt.wts_mem hqm) hw) hW) (hB.few hI')
    obtain ⟨x, us⟩ := a'
    cases x with
    | none => exact ih (t + 1) h _ _ b'' ((Nat.succ_add_eq_add_succ t j).trans hj) rfl rfl few' hI'
    | some e =>
      obtain ⟨g1, g2, g3, g4⟩ := hf
      exact .pop (a' := (some e, us)) (b' := b'') few' rfl hI' ⟨g1, g2, fun e' => Pt.mayAny_at hqm (g3 e'), Nat.le_trans g4 (Nat.mul_le_mul_right _ (Pt.wts_mem hqm))⟩
/-- many, from some place on -/
theorem ends_many {W' : Nat} {p : Pt} {i D : Nat} {L : List (Str × Nat)} (hB : BkOk B I names mb W' txt.length) (hw : 2 * p.wt ≤ W) (hW : W * (txt.length + 1) ≤ 5000000)
    (sub : ∀ h b, i ≤ h → h ≤ txt.length → I L b → Ends G txt B I (p.may mb) p.wt h D L (.new p h) none b) :
    ∀ (j t h : Nat) (ks : List κ) (f : Fr κ) (a : Option (An κ)) (b : β), txt.length - h ≤ j → stepOf G txt B f a b = .push ⟨.many p, i, t, h, ks⟩ p h b → f.piece = .many p → FewS B f a b → I L b → i ≤ h → h ≤ txt.length → ks.length ≤ 2 * p.wt * (h - i) →
      Ends G txt B I true (2 * p.wt) i (D + 1) L f a b := by
  intro j
  induction j with
  | zero | succ j ih =>
    intro t h ks f a b hj hs hp few hI h1 h2 h4
    have el : lvl f L = L := by simp [lvl, hp]
    refine .push (f' := ⟨.many p, i, t, h, ks⟩) (p := p) (j := h) (b' := b) (ok' := p.may mb) (w' := p.wt) few hs (by simp [lvlOk, hp]) (by rw [el]; exact sub h b h1 h2 hI) fun a' b'' hI' hf => ?_
    rw [el] at hI'
    have few' : FewS B (⟨.many p, i, t, h, ks⟩ : Fr κ) (some a') b'' := .of (Nat.le_trans h4 (mul_few hw (Nat.le_succ_of_le (Nat.le_trans (Nat.sub_le _ _) h2)) hW)) (hf.few (Nat.le_trans (Nat.le_mul_of_pos_left _ (by decide)) hw) hW) (hB.few hI')
    have fit : FitB true (2 * p.wt) txt.length i (some h, ks) := ⟨h1, h2, fun _ => rfl, Nat.le_trans h4 (Nat.mul_le_mul_left _ (Nat.sub_le_sub_right (Nat.le_succ h) i))⟩
    obtain ⟨x, us⟩ := a'
    cases x with
    | none => exact .pop (a' := (some h, ks)) (b' := b'') few' rfl hI' fit
    | some e =>
      obtain ⟨g1, g2, g3, g4⟩ := hf
      by_cases he : e = h
      · refine .pop (a' := (some h, ks)) (b' := b'') few' ?_ hI' fit
        show (if e = h then _ else _) = _
        rw [if_pos he]
      · have hlt : h < e := Nat.lt_of_le_of_ne g1 (Ne.symm he)
        first
        | exact (a_end hj hlt g2).elim
        | refine ih t e (ks ++ us) _ _ b'' (a_step hj hlt) ?_ rfl few' hI' (Nat.le_trans h1 g1) g2 ?_
          · show (if e = h then _ else _) = _
            rw [if_neg he]; rfl
          · rw [List.length_append, a_split h1 g1, Nat.mul_add]
            refine Nat.add_le_add h4 (Nat.le_trans g4 (Nat.le_trans (Nat.mul_le_mul_left _ (a_many hlt)) (Nat.le_of_eq ?_)))
            rw [← Nat.mul_assoc, Nat.mul_comm p.wt 2]
/-- a sign, a span, any -/
theorem ends_leaf {p : Pt} {i D : Nat} {L : List (Str × Nat)} {b : β} (hB : BkOk B I names mb W txt.length) (hs : stepOf G txt B (.new p i) none b = leafOut txt B p (.new p i) b) (hm : p.may mb = false) (hI : I L b) : Ends G txt B I (p.may mb) p.wt i D L (.new p i) none b := by
  have few : FewS B (.new p i : Fr κ) none b := .new (hB.few hI)
  cases hb : B.look b with
  | none => exact ⟨none, .stop few (by rw [hs]; simp only [leafOut, hb]), nofun⟩
  | some b' =>
    have hI' := hB.look hI hb
    cases hc : txt[i]? with
    | none => exact .pop (a' := (none, [])) (b' := b') few (by rw [hs]; simp only [leafOut, Fr.new, hb, hc]) hI' rfl
    | some c' =>
      by_cases ht : p.takesC c' = true
      · exact .pop (a' := (some (i + 1), [])) (b' := b') few (by rw [hs]; simp only [leafOut, Fr.new, hb, hc, ht, if_true]) hI' ⟨Nat.le_succ _, (List.getElem?_eq_some_iff.mp hc).1, fun e => absurd e (Nat.succ_ne_self _), Nat.zero_le _⟩
      · exact .pop (a' := (none, [])) (b' := b') few (by rw [hs]; simp only [leafOut, Fr.new, hb, hc, ht]; rfl) hI' rfl
/-- the machine comes to an end -/
theorem ends (hG : GrOk G names mb ix R W) (hB : BkOk B I names mb W txt.length) (hW : (W + 1) * (txt.length + 1) ≤ 5000000) : ∀ (N n i m : Nat) (p : Pt) (L : List (Str × Nat)) (b : β), (txt.length - i) * (R + 1) + (R - m) ≤ N → p.deep ≤ n → p.deep ≤ 12 → p.ok (· ∈ names) → p.wt ≤ W + 1 → (∀ y ∈ p.ahd mb, m ≤ ix y) → i ≤ txt.length → (∀ k ∈ L, k.2 < i ∨ (k.2 = i ∧ ix k.1 < m)) → I L b →
    Ends G txt B I (p.may mb) p.wt i (N * 14 + n) L (.new p i) none b := by
  intro N
  induction N using Nat.strongRecOn with
  | ind N IH =>
  intro n
  induction n with
  | zero => intro i m p L b _ h; exact absurd (Nat.le_trans (Pt.deep_pos p) h) (Nat.not_succ_le_zero _)
  | succ n ih =>
    intro i m p L b hN hn hd hok hw ha hi hL hI
    have few0 : ∀ {q : Pt} {b : β}, I L b → FewS B (.new q i : Fr κ) none b := fun h => .new (hB.few h)
    have sub : ∀ q h b, q ∈ p.kids → q.wt ≤ W + 1 → i ≤ h → h ≤ txt.length → (h = i → ∀ y ∈ q.ahd mb, y ∈ p.ahd mb) → I L b → Ends G txt B I (q.may mb) q.wt h (N * 14 + n) L (.new q h) none b := by
      intro q h b hq hwq h1 h2 h3 hI
      have hdq := Pt.kids_deep hq
      rcases Nat.eq_or_lt_of_le h1 with e | e
      · subst e
        exact ih i m q L b hN (Nat.le_of_succ_le_succ (Nat.le_trans hdq hn)) (Nat.le_of_succ_le (Nat.le_trans hdq hd)) (Pt.ok_kids hok q hq) hwq (fun y hy => ha y (h3 rfl y hy)) hi hL hI
      · have hlt := a_meas e h2 hN
        have hq12 : q.deep ≤ 12 := Nat.le_of_succ_le (Nat.le_trans hdq hd)
        exact (IH _ hlt q.deep h 0 q L b (Nat.le_refl _) (Nat.le_refl _) hq12 (Pt.ok_kids hok q hq) hwq (fun _ _ => Nat.zero_le _) h2 (fun k hk => .inl ((hL k hk).elim (fun g => Nat.lt_trans g e) fun g => g.1 ▸ e)) hI).le (a_dep hlt hq12)
    cases p with
    | sign c => exact ends_leaf hB rfl rfl hI
    | span c d => exact ends_leaf hB rfl rfl hI
    | any => exact ends_leaf hB rfl rfl hI
    | rule x =>
      have hx : x ∈ names := by simpa only [Pt.ok] using hok
      have hm : m ≤ ix x := ha x (by simp [Pt.ahd])
      have hR := hG.ixl x hx
      have hnL : (x, i) ∉ L := fun h => (hL _ h).elim (Nat.lt_irrefl i) fun g => absurd g.2 (Nat.not_lt.mpr hm)
      simp only [Pt.may, Pt.wt]
      cases hk : B.known b x i with
      | some a => exact .pop (a' := a) (b' := b) (few0 hI) (by simp [stepOf, Fr.new, hk]) hI (hB.known hI hx hi hk)
      | none =>
        cases hb : B.begun b x i with
        | none => exact ⟨none, .stop (few0 hI) (by simp [stepOf, Fr.new, hk, hb]), fun _ _ e => by cases e⟩
        | some b' =>
          have hlt := a_rule hm hR hN
          have hIb := hB.begun hI hx hi hnL hk hb
          refine .push (D := N * 14 + n) (f' := .new (.rule x) i) (p := G x) (j := i) (b' := b') (ok' := (G x).may mb) (w' := (G x).wt) (few0 hI) (by simp [stepOf, Fr.new, hk, hb]) hnL ?_ fun a' b'' hI' hf => ?_
          · exact (IH _ hlt (G x).deep i (ix x + 1) (G x) ((x, i) :: L) b' (Nat.le_refl _) (Nat.le_refl _) (hG.deep x hx) (hG.part x hx) (Nat.le_succ_of_le (hG.wt x hx)) (fun y hy => hG.lead x hx y hy) hi (fun k hk => by
              rcases List.mem_cons.mp hk with rfl | hk
              · exact .inr ⟨rfl, Nat.lt_succ_self _⟩
              · rcases hL k hk with g | g
                · exact .inl g
                · exact .inr ⟨g.1, Nat.lt_succ_of_lt (Nat.lt_of_lt_of_le g.2 hm)⟩) hIb).le (a_dep hlt (hG.deep x hx))
          · have hf' : FitB (mb x) W txt.length i a' := by
              unfold FitB at hf ⊢
              split at hf
              · exact ⟨hf.1, hf.2.1, fun e' => hG.bare x hx (hf.2.2.1 e'), Nat.le_trans hf.2.2.2 (Nat.mul_le_mul_right _ (hG.wt x hx))⟩
              · exact hf
            obtain ⟨g1, g2⟩ := hB.ended (show I ((x, i) :: L) b'' from hI') hx hi hnL hf'
            exact .pop (a' := B.told b'' x i a') (b' := B.ended b'' x i a') (.of (Nat.zero_le _) (hf.few (Nat.le_succ_of_le (hG.wt x hx)) hW) (hB.few (show I ((x, i) :: L) b'' from hI'))) (by simp [stepOf, Fr.new]) g1 g2
    | row ps =>
      simp only [Pt.may, Pt.wt] at hw ⊢
      refine ends_row hB hw hW (fun t q h b hq h1 h2 h3 hI => sub q h b (List.mem_of_getElem? hq) (Nat.le_trans (Pt.wts_mem (List.mem_of_getElem? hq)) hw) h1 h2 (fun e y hy => ?_) hI) ps.length 0 i [] _ _ b (Nat.zero_add _) rfl rfl (few0 hI) hI (Nat.le_refl _) hi (fun _ => by simp [Pt.mayAll]) (Nat.zero_le _)
      rw [Pt.ahd]; exact Pt.ahdRow_at hq (h3 e) y hy
    | alt ps =>
      simp only [Pt.may, Pt.wt] at hw ⊢
      refine ends_alt hB hw hW (fun q b hq hI => sub q i b hq (Nat.le_trans (Pt.wts_mem hq) hw) (Nat.le_refl _) hi (fun e y hy => ?_) hI) ps.length 0 i _ _ b (Nat.zero_add _) rfl rfl (few0 hI) hI
      rw [Pt.ahd]; exact Pt.ahdAlt_at hq y hy
    | many q =>
      simp only [Pt.may, Pt.wt] at hw ⊢
      exact ends_many hB hw hW (fun h b h1 h2 hI => sub q h b (List.mem_singleton.mpr rfl) (Nat.le_trans (Nat.le_mul_of_pos_left _ (by decide)) hw) h1 h2 (fun e y hy => by rw [Pt.ahd]; exact hy) hI) _ 0 i [] _ _ b (Nat.le_refl _) rfl rfl (few0 hI) hI (Nat.le_refl _) hi (Nat.zero_le _)
    | nt q =>
      simp only [Pt.may, Pt.wt] at hw ⊢
      refine .push (D := N * 14 + n) (f' := .new (.nt q) i) (p := q) (j := i) (b' := b) (ok' := q.may mb) (w' := q.wt) (few0 hI) (by simp [stepOf, Fr.new]) trivial (sub q i b (List.mem_singleton.mpr rfl) hw (Nat.le_refl _) hi (fun e y hy => by rw [Pt.ahd]; exact hy) hI) fun a' b'' hI' hf => ?_
      have few' : FewS B (.new (.nt q) i : Fr κ) (some a') b'' := .of (Nat.zero_le _) (hf.few hw hW) (hB.few hI')
      obtain ⟨x, us⟩ := a'
      cases x with
      | none => exact .pop (a' := (some i, [])) (b' := b'') few' rfl hI' ⟨Nat.le_refl _, hi, fun _ => rfl, by simp⟩
      | some e => exact .pop (a' := (none, [])) (b' := b'') few' rfl hI' rfl
/-- what a step of a frame that is no rule does to the book and to what fitted -/
noncomputable def Fr.nr (f : Fr κ) : Prop := ∀ n, f.piece ≠ .rule n
noncomputable def OutB (B : Bk β κ) (μ : List κ → Nat) (n : Nat) (p : Pt) (i : Nat) (b : β) : Out β κ → Prop
  | .pop a b' => μ a.2 ≤ n ∧ (b' = b ∨ B.look b = some b')
  | .push f _ _ b' => μ f.kids ≤ n ∧ b' = b ∧ f.piece = p ∧ f.place = i
  | .stop => B.look b = none
noncomputable def ansM (μ : List κ → Nat) : Option (An κ) → Nat
  | some a => μ a.2
  | none => 0
theorem step_out {μ : List κ → Nat} (h0 : μ [] = 0) (ha : ∀ xs ys, μ (xs ++ ys) ≤ μ xs + μ ys) {f : Fr κ} {a : Option (An κ)} {b : β} (hn : f.nr) : OutB B μ (μ f.kids + ansM μ a) f.piece f.place b (stepOf G txt B f a b) := by
  obtain ⟨p, i, t, h, ks⟩ := f
  have z : ∀ {n : Nat}, μ [] ≤ n := fun {n} => h0 ▸ Nat.zero_le n
  have leaf : ∀ {n : Nat} {p : Pt}, OutB B μ n p i b (leafOut txt B p (⟨p, i, t, h, ks⟩ : Fr κ) b) := fun {n p} => by
    unfold leafOut
    cases hb : B.look b with
    | none => exact hb
    | some b' =>
      dsimp only
      cases txt[i]? with
      | none => exact ⟨z, .inr hb⟩
      | some x =>
        dsimp only
        cases p.takesC x with
        | false => exact ⟨z, .inr hb⟩
        | true => exact ⟨z, .inr hb⟩
  have row : ∀ {n : Nat} {ps : List Pt} {F : Fr κ}, μ F.kids ≤ n → OutB B μ n F.piece F.place b (rowOut ps F b) := fun {n ps F} hF => by
    unfold rowOut
    cases ps[F.turn]? with
    | some q => exact ⟨hF, rfl, rfl, rfl⟩
    | none => exact ⟨hF, .inl rfl⟩
  have alt : ∀ {n : Nat} {ps : List Pt} {F : Fr κ}, μ F.kids ≤ n → OutB B μ n F.piece F.place b (altOut ps F b) := fun {n ps F} hF => by
    unfold altOut
    cases ps[F.turn]? with
    | some q => exact ⟨hF, rfl, rfl, rfl⟩
    | none => exact ⟨z, .inl rfl⟩
  cases p with
  | sign x => exact leaf
  | span x y => exact leaf
  | any => exact leaf
  | rule n => exact absurd rfl (hn n)
  | row ps =>
    rcases a with _ | ⟨_ | e, us⟩
    · exact row (F := ⟨.row ps, i, t, h, ks⟩) (Nat.le_refl _)
    · exact ⟨z, .inl rfl⟩
    · exact row (F := Fr.nxt (Fr.on ⟨.row ps, i, t, h, ks⟩ e us)) (ha ks us)
  | alt ps =>
    rcases a with _ | ⟨_ | e, us⟩
    · exact alt (F := ⟨.alt ps, i, t, h, ks⟩) (Nat.le_refl _)
    · exact alt (F := Fr.nxt ⟨.alt ps, i, t, h, ks⟩) (Nat.le_add_right _ _)
    · exact ⟨Nat.le_add_left _ _, .inl rfl⟩
  | many q =>
    rcases a with _ | ⟨_ | e, us⟩
    · exact ⟨Nat.le_refl _, rfl, rfl, rfl⟩
    · exact ⟨Nat.le_add_right _ _, .inl rfl⟩
    · show OutB B μ _ _ _ b (if e = h then _ else _)
      by_cases he : e = h
      · rw [if_pos he]; exact ⟨Nat.le_add_right _ _, .inl rfl⟩
      · rw [if_neg he]; exact ⟨ha ks us, rfl, rfl, rfl⟩
  | nt q =>
    rcases a with _ | ⟨_ | e, us⟩
    · exact ⟨Nat.le_refl _, rfl, rfl, rfl⟩
    · exact ⟨z, .inl rfl⟩
    · exact ⟨z, .inl rfl⟩
end
end Mine

namespace Mine
open PySem PySem.Calls PyProof.Rows PySem.SeqAt

/-! the machine with a Memory -/
theorem getM_app {kept : List (Kid × An Kid)} {k k' : Kid} {a : An Kid} : getM (kept ++ [(k, a)]) k' = (getM kept k').or (if k = k' then some a else none) := by
  unfold getM
  rw [List.find?_append]
  cases kept.find? fun p => p.1 = k' with
  | some x => rfl
  | none => by_cases e : k = k' <;> simp [e]
theorem getM_none {kept : List (Kid × An Kid)} {k : Kid} : getM kept k = none ↔ k ∉ kept.map (·.1) := by
  unfold getM
  rw [Option.map_eq_none_iff, List.find?_eq_none, List.mem_map]
  exact ⟨fun h ⟨x, h1, h2⟩ => h x h1 (by simpa using h2), fun h x h1 h2 => h ⟨x, h1, by simpa using h2⟩⟩
theorem setM_new {kept : List (Kid × An Kid)} {k : Kid} {a : An Kid} (h : getM kept k = none) : setM kept k a = kept ++ [(k, a)] := by
  unfold setM
  rw [if_neg]
  rw [getM_none] at h
  simpa using h
/-- what is so of a Memory, while the rules L are under way -/
structure Mc (names : List Str) (mb : Str → Bool) (W len : Nat) (L : List Kid) (b : Mm) : Prop where
  nodup : b.order.Nodup
  rng : ∀ k ∈ b.order, k.1 ∈ names ∧ k.2 ≤ len
  live : ∀ k ∈ L, k ∈ b.order ∧ getM b.kept k = none
  done : ∀ k ∈ b.order, k ∈ L ∨ ∃ a, getM b.kept k = some a
  keys : (b.kept.map (·.1)).Nodup
  kin : ∀ k ∈ b.kept.map (·.1), k ∈ b.order
  fit : ∀ k a, getM b.kept k = some a → FitB (mb k.1) W len k.2 a
theorem fit_tell {mb : Bool} {w len : Nat} {k : Kid} {a : An Kid} (h : FitB mb w len k.2 a) : FitB mb 1 len k.2 (tell k a) := by
  obtain ⟨x, us⟩ := a
  cases x with
  | none => rfl
  | some e =>
    obtain ⟨h1, h2, h3, _⟩ := h
    refine ⟨h1, h2, h3, ?_⟩
    show 1 ≤ 1 * (e + 1 - k.2)
    rw [Nat.one_mul]; exact Nat.sub_pos_of_lt (Nat.lt_succ_of_le h1)
theorem Mc.few {names : List Str} {mb : Str → Bool} {W len : Nat} {L : List Kid} {b : Mm} (h : Mc names mb W len L b) : b.kept.length ≤ names.length * (len + 1) ∧ b.order.length ≤ names.length * (len + 1) := by
  have key : ∀ {l : List Kid}, l.Nodup → (∀ k ∈ l, k.1 ∈ names ∧ k.2 ≤ len) → l.length ≤ names.length * (len + 1) := fun {l} h1 h2 => by
    have := len_sub (ns := names.flatMap fun n => (List.range (len + 1)).map fun i => (n, i)) h1 fun k hk => by
      obtain ⟨g1, g2⟩ := h2 k hk
      simp only [List.mem_flatMap, List.mem_map, List.mem_range]
      exact ⟨k.1, g1, k.2, by lia, rfl⟩
    simpa [List.length_flatMap, List.map_const'] using this
  refine ⟨?_, key h.nodup h.rng⟩
  have := key h.keys fun k hk => h.rng k (h.kin k hk)
  simpa using this
theorem mem_bkOk {names : List Str} {mb : Str → Bool} {W len : Nat} (hz : names.length * (len + 1) ≤ 5000000) : BkOk memBk (Mc names mb W len) names mb W len where
  few := fun h => ⟨Nat.le_trans h.few.1 hz, Nat.le_trans h.few.2 hz⟩
  look := fun h e => by cases e; exact h
  known := fun {L b n i a} h _ _ e => by
    obtain ⟨x, h1, rfl⟩ := Option.map_eq_some_iff.mp (show (getM b.kept (n, i)).map (tell (n, i)) = some a from e)
    exact fit_tell (k := (n, i)) (h.fit _ _ h1)
  begun := fun {L b b' n i} h hn hi hL hk e => by
    have hk : getM b.kept (n, i) = none := Option.map_eq_none_iff.mp (show (getM b.kept (n, i)).map (tell (n, i)) = none from hk)
    have ho : (n, i) ∉ b.order := fun q => by
      rcases h.done _ q with g | ⟨a, g⟩
      · exact hL g
      · rw [hk] at g; cases g
    cases e
    refine ⟨List.nodup_append.mpr ⟨h.nodup, by simp, fun x hx y hy => by cases List.mem_singleton.mp hy; exact fun e => ho (e ▸ hx)⟩, fun k q => ?_, fun k q => ?_, fun k q => ?_, h.keys, fun k q => List.mem_append_left _ (h.kin k q), h.fit⟩
    · rcases List.mem_append.mp q with q | q
      · exact h.rng k q
      · cases List.mem_singleton.mp q; exact ⟨hn, hi⟩
    · rcases List.mem_cons.mp q with rfl | q
      · exact ⟨by simp, hk⟩
      · exact ⟨List.mem_append_left _ (h.live k q).1, (h.live k q).2⟩
    · rcases List.mem_append.mp q with q | q
      · rcases h.done k q with g | g
        · exact .inl (List.mem_cons_of_mem _ g)
        · exact .inr g
      · cases List.mem_singleton.mp q; exact .inl (by simp)
  ended := fun {L b n i a} h hn hi hL hf => by
    refine ⟨?_, fit_tell (k := (n, i)) hf⟩
    obtain ⟨ho, hk⟩ := h.live (n, i) (by simp)
    show Mc names mb W len L ⟨setM b.kept (n, i) a, b.order⟩
    rw [setM_new hk]
    have hk' := getM_none.mp hk
    refine ⟨h.nodup, h.rng, fun k q => ?_, fun k q => ?_, ?_, fun k q => ?_, fun k x e => ?_⟩
    · obtain ⟨g1, g2⟩ := h.live k (List.mem_cons_of_mem _ q)
      refine ⟨g1, ?_⟩
      show getM (b.kept ++ [((n, i), a)]) k = none
      rw [getM_app, g2, if_neg (fun e : (n, i) = k => hL (e ▸ q))]; rfl
    · show k ∈ L ∨ ∃ x, getM (b.kept ++ [((n, i), a)]) k = some x
      rw [getM_app]
      rcases h.done k q with g | ⟨x, g⟩
      · rcases List.mem_cons.mp g with rfl | g
        · rw [hk]; exact .inr ⟨a, by simp⟩
        · exact .inl g
      · rw [g]; exact .inr ⟨x, rfl⟩
    · show ((b.kept ++ [((n, i), a)]).map (·.1)).Nodup
      rw [List.map_append]
      exact List.nodup_append.mpr ⟨h.keys, by simp, fun x hx y hy => by cases List.mem_singleton.mp hy; exact fun e => hk' ((show x = (n, i) from e) ▸ hx)⟩
    · have q : k ∈ (b.kept ++ [((n, i), a)]).map (·.1) := q
      rw [List.map_append] at q
      rcases List.mem_append.mp q with q | q
      · exact h.kin k q
      · cases List.mem_singleton.mp q; exact ho
    · have e : getM (b.kept ++ [((n, i), a)]) k = some x := e
      rw [getM_app] at e
      cases g : getM b.kept k with
      | some y => rw [g] at e; cases e; exact h.fit k _ g
      | none =>
        rw [g] at e
        by_cases q : (n, i) = k
        · subst q
          simp at e; subst e; exact hf
        · simp [q] at e
theorem Mc.nil {names : List Str} {mb : Str → Bool} {W len : Nat} : Mc names mb W len [] ⟨[], []⟩ := ⟨List.nodup_nil, nofun, nofun, nofun, List.nodup_nil, nofun, nofun⟩

/-! what is kept, by itself: each answer comes of the part, with what is kept of the rules that it asks -/
inductive Ev (G : Str → Pt) (txt : List Nat) (K : Kid → Option (An Kid)) : Fr Kid → Option (An Kid) → An Kid → List Kid → Prop where
  | pop {f : Fr Kid} {a : Option (An Kid)} {a' : An Kid} {b b' : Mm} : f.nr → stepOf G txt memBk f a b = .pop a' b' → Ev G txt K f a a' []
  | ask {f : Fr Kid} {n : Str} {a : An Kid} : f.piece = .rule n → K (n, f.place) = some a → Ev G txt K f none (tell (n, f.place) a) [(n, f.place)]
  | push {f f' : Fr Kid} {a : Option (An Kid)} {a' o : An Kid} {p : Pt} {i : Nat} {b b' : Mm} {as as' : List Kid} : f.nr → stepOf G txt memBk f a b = .push f' p i b' → Ev G txt K (.new p i) none a' as → Ev G txt K f' (some a') o as' → Ev G txt K f a o (as ++ as')
theorem Ev.mono {G : Str → Pt} {txt : List Nat} {K K' : Kid → Option (An Kid)} (hk : ∀ k a, K k = some a → K' k = some a) {f : Fr Kid} {a : Option (An Kid)} {o : An Kid} {as : List Kid} (h : Ev G txt K f a o as) : Ev G txt K' f a o as := by
  induction h with
  | pop h1 h2 => exact .pop h1 h2
  | ask h1 h2 => exact .ask h1 (hk _ _ h2)
  | push h1 h2 _ _ ih1 ih2 => exact .push h1 h2 ih1 ih2
/-- with a Memory, a frame that is no rule leaves the book -/
theorem step_pop {G : Str → Pt} {txt : List Nat} {f : Fr Kid} {a : Option (An Kid)} {b b' : Mm} {a' : An Kid} (hn : f.nr) (h : stepOf G txt memBk f a b = .pop a' b') : b' = b := by
  have := step_out (B := memBk) (G := G) (txt := txt) (μ := fun _ => 0) rfl (fun _ _ => Nat.le_refl _) (a := a) (b := b) hn
  rw [h] at this
  exact this.2.elim id fun e => (Option.some.inj e).symm
theorem step_psh {G : Str → Pt} {txt : List Nat} {f f' : Fr Kid} {a : Option (An Kid)} {b b' : Mm} {p : Pt} {i : Nat} (hn : f.nr) (h : stepOf G txt memBk f a b = .push f' p i b') : b' = b ∧ f'.piece = f.piece ∧ f'.place = f.place := by
  have := step_out (B := memBk) (G := G) (txt := txt) (μ := fun _ => 0) rfl (fun _ _ => Nat.le_refl _) (a := a) (b := b) hn
  rw [h] at this
  exact this.2
theorem not_nr {κ : Type} {f : Fr κ} (h : ¬ f.nr) : ∃ n, f.piece = .rule n := Classical.byContradiction fun q => h fun n e => q ⟨n, e⟩
/-- with a Memory, a rule that is asked for -/
theorem step_ask {G : Str → Pt} {txt : List Nat} {f : Fr Kid} {b : Mm} {n : Str} (hn : f.piece = .rule n) : (∃ x, getM b.kept (n, f.place) = some x ∧ stepOf G txt memBk f none b = .pop (tell (n, f.place) x) b) ∨ (getM b.kept (n, f.place) = none ∧ stepOf G txt memBk f none b = .push f (G n) f.place ⟨b.kept, b.order ++ [(n, f.place)]⟩) := by
  cases hk : getM b.kept (n, f.place) with
  | some x => exact .inl ⟨x, rfl, by simp only [stepOf, hn, memBk, hk, Option.map_some]⟩
  | none => exact .inr ⟨rfl, by simp only [stepOf, hn, memBk, hk, Option.map_none]⟩
/-- what is begun, in order: each with all that it asks ahead of the next -/
inductive Dfs (Ak : Kid → List Kid → Prop) : List Kid → List Kid → List Kid → Prop where
  | nil {o : List Kid} : Dfs Ak [] o o
  | old {k : Kid} {r o o' : List Kid} : k ∈ o → Dfs Ak r o o' → Dfs Ak (k :: r) o o'
  | new {k : Kid} {as r o o' : List Kid} : k ∉ o → Ak k as → Dfs Ak (as ++ r) (o ++ [k]) o' → Dfs Ak (k :: r) o o'
theorem Dfs.mono {Ak Ak' : Kid → List Kid → Prop} (hm : ∀ k as, Ak k as → Ak' k as) {r o o' : List Kid} (h : Dfs Ak r o o') : Dfs Ak' r o o' := by
  induction h with
  | nil => exact .nil
  | old h _ ih => exact .old h ih
  | new h h' _ ih => exact .new h (hm _ _ h') ih
theorem Dfs.app {Ak : Kid → List Kid → Prop} {r r' o o' o'' : List Kid} (h : Dfs Ak r o o') (h' : Dfs Ak r' o' o'') : Dfs Ak (r ++ r') o o'' := by
  induction h with
  | nil => exact h'
  | old h _ ih => exact .old h (ih h')
  | new h g _ ih => exact .new h g (List.append_assoc _ _ _ ▸ ih h')
/-- the asks of what is kept -/
noncomputable def Ak (G : Str → Pt) (txt : List Nat) (b : Mm) (k : Kid) (as : List Kid) : Prop := ∃ a, getM b.kept k = some a ∧ Ev G txt (getM b.kept) (.new (G k.1) k.2) none a as
structure MI (G : Str → Pt) (txt : List Nat) (L : List Kid) (b : Mm) : Prop where
  live : ∀ k ∈ L, k ∈ b.order ∧ getM b.kept k = none
  done : ∀ k ∈ b.order, k ∈ L ∨ ∃ as, Ak G txt b k as
  kin : ∀ k a, getM b.kept k = some a → k ∈ b.order
theorem Ak.mono {G : Str → Pt} {txt : List Nat} {b b' : Mm} (h : ∀ k a, getM b.kept k = some a → getM b'.kept k = some a) (k : Kid) (as : List Kid) (x : Ak G txt b k as) : Ak G txt b' k as := by
  obtain ⟨a, h1, h2⟩ := x
  exact ⟨a, h _ _ h1, h2.mono h⟩
/-- a rule has come to its end -/
theorem MI.ended {G : Str → Pt} {txt : List Nat} {L : List Kid} {b : Mm} {k : Kid} {a : An Kid} {as : List Kid} (h : MI G txt (k :: L) b) (hl : k ∉ L) (ha : Ev G txt (getM b.kept) (.new (G k.1) k.2) none a as) : MI G txt L ⟨b.kept ++ [(k, a)], b.order⟩ ∧ Ak G txt ⟨b.kept ++ [(k, a)], b.order⟩ k as ∧ ∀ x y, getM b.kept x = some y → getM (b.kept ++ [(k, a)]) x = some y := by
  obtain ⟨ho, hk⟩ := h.live k (List.mem_cons_self ..)
  have up : ∀ x y, getM b.kept x = some y → getM (b.kept ++ [(k, a)]) x = some y := fun x y e => by rw [getM_app, e]; rfl
  have hkk : getM (b.kept ++ [(k, a)]) k = some a := by rw [getM_app, hk, if_pos rfl]; rfl
  have aks : Ak G txt ⟨b.kept ++ [(k, a)], b.order⟩ k as := ⟨a, hkk, ha.mono up⟩
  refine ⟨⟨fun x q => ⟨(h.live x (List.mem_cons_of_mem _ q)).1, ?_⟩, fun x q => ?_, fun x y e => ?_⟩, aks, up⟩
  · show getM (b.kept ++ [(k, a)]) x = none
    rw [getM_app, (h.live x (List.mem_cons_of_mem _ q)).2, if_neg (fun e : k = x => hl (e ▸ q))]; rfl
  · rcases h.done x q with g | ⟨as', g⟩
    · rcases List.mem_cons.mp g with rfl | g
      · exact .inr ⟨_, aks⟩
      · exact .inl g
    · exact .inr ⟨as', Ak.mono (b' := ⟨b.kept ++ [(k, a)], b.order⟩) up _ _ g⟩
  · have e : getM (b.kept ++ [(k, a)]) x = some y := e
    by_cases q : k = x
    · exact q ▸ ho
    · rw [getM_app, if_neg q, Option.or_none] at e
      exact h.kin x y e
theorem MI.begun {G : Str → Pt} {txt : List Nat} {L : List Kid} {b : Mm} {k : Kid} (h : MI G txt L b) (hl : k ∉ L) (hk : getM b.kept k = none) : MI G txt (k :: L) ⟨b.kept, b.order ++ [k]⟩ ∧ k ∉ b.order := by
  refine ⟨⟨fun x q => ?_, fun x q => ?_, fun x y e => List.mem_append_left _ (h.kin x y e)⟩, fun q => ?_⟩
  · rcases List.mem_cons.mp q with rfl | q
    · exact ⟨List.mem_append_right _ (List.mem_singleton.mpr rfl), hk⟩
    · exact ⟨List.mem_append_left _ (h.live x q).1, (h.live x q).2⟩
  · rcases List.mem_append.mp q with q | q
    · exact (h.done x q).imp (List.mem_cons_of_mem _) id
    · exact .inl (List.mem_singleton.mp q ▸ List.mem_cons_self ..)
  · rcases h.done _ q with g | ⟨_, x, g, _⟩
    · exact hl g
    · rw [hk] at g; cases g
/-- what a frame with a Memory comes to -/
inductive MemR (G : Str → Pt) (txt : List Nat) (L : List Kid) (f : Fr Kid) (a : Option (An Kid)) (b : Mm) (a' : An Kid) (b' : Mm) : Prop where
  | mk (as : List Kid) (h1 : MI G txt L b') (h2 : ∀ k x, getM b.kept k = some x → getM b'.kept k = some x) (h3 : Ev G txt (getM b'.kept) f a a' as) (h4 : Dfs (Ak G txt b') as b.order b'.order) : MemR G txt L f a b a' b'
theorem Bs.mem {G : Str → Pt} {txt : List Nat} {D : Nat} {L : List Kid} {f : Fr Kid} {a : Option (An Kid)} {b : Mm} {o : Option (An Kid × Mm)} (h : Bs G txt memBk D L f a b o) : ∀ a' b', o = some (a', b') → (f.nr ∨ a = none) → MI G txt L b → MemR G txt L f a b a' b' := by
  induction h with
  | stop => exact nofun
  | dead => exact nofun
  | @pop D L f a b b' a' w hs =>
    intro _ _ e hr hI
    cases e
    by_cases hn : f.nr
    · cases step_pop hn hs
      exact ⟨[], hI, fun _ _ e => e, .pop hn hs, .nil⟩
    · obtain rfl := hr.resolve_left hn
      obtain ⟨n, hn⟩ := not_nr hn
      rcases step_ask (G := G) (txt := txt) (b := b) hn with ⟨x, h1, h2⟩ | ⟨_, h2⟩
      · rw [h2] at hs; cases hs
        exact ⟨_, hI, fun _ _ e => e, .ask hn h1, .old (hI.kin _ _ h1) .nil⟩
      · rw [h2] at hs; cases hs
  | @push D L f f' a b b' b'' p i a' o w hs hl h1 h2 ih1 ih2 =>
    intro a₂ b₂ e hr hI
    by_cases hn : f.nr
    · obtain ⟨rfl, hp, _⟩ := step_psh hn hs
      have el : lvl f L = L := by
        unfold lvl
        split
        · rename_i n e; exact absurd e (hn n)
        · rfl
      rw [el] at ih1
      obtain ⟨as, g1, g2, g3, g4⟩ := ih1 _ _ rfl (.inr rfl) hI
      obtain ⟨as', k1, k2, k3, k4⟩ := ih2 _ _ e (.inl fun n e => hn n (hp ▸ e)) g1
      exact ⟨as ++ as', k1, fun k x hx => k2 _ _ (g2 _ _ hx), .push hn hs (g3.mono k2) k3, (g4.mono (Ak.mono k2)).app k4⟩
    · obtain rfl := hr.resolve_left hn
      obtain ⟨n, hn⟩ := not_nr hn
      have hl : (n, f.place) ∉ L := by simpa only [lvlOk, hn] using hl
      rcases step_ask (G := G) (txt := txt) (b := b) hn with ⟨x, _, q⟩ | ⟨hk, q⟩
      · rw [q] at hs; cases hs
      · rw [q] at hs; cases hs
        have el : lvl f L = (n, f.place) :: L := by simp only [lvl, hn]
        rw [el] at ih1
        obtain ⟨m1, m2⟩ := hI.begun hl hk
        obtain ⟨as, g1, g2, g3, g4⟩ := ih1 _ _ rfl (.inr rfl) m1
        have hs2 : stepOf G txt memBk f (some a') b'' = .pop (tell (n, f.place) a') ⟨b''.kept ++ [((n, f.place), a')], b''.order⟩ := by
          simp only [stepOf, hn]; show Out.pop _ (Mm.mk (setM b''.kept (n, f.place) a') b''.order) = _; rw [setM_new (g1.live _ (List.mem_cons_self ..)).2]; rfl
        obtain ⟨k1, k2, k3⟩ := g1.ended hl g3
        obtain ⟨e1, e2⟩ := Prod.mk.inj (Option.some.inj (e.symm.trans (h2.pops hs2)))
        rw [e1, e2]
        obtain ⟨x, hx, hx'⟩ := k2
        have hxa : getM (b''.kept ++ [((n, f.place), a')]) (n, f.place) = some a' := by rw [getM_app, (g1.live _ (List.mem_cons_self ..)).2, if_pos rfl]; rfl
        exact ⟨_, k1, fun k x e => k3 _ _ (g2 _ _ e), .ask hn hxa, .new m2 ⟨x, hx, hx'⟩ (by rw [List.append_nil]; exact g4.mono (Ak.mono k3))⟩
end Mine

namespace Mine
open PySem PySem.Calls PyProof.Rows PySem.SeqAt

/-! the tree that is kept -/
/-- kids one behind the other, from a place to a place -/
inductive Seqd (K : Kid → Option (An Kid)) : Nat → List Kid → Nat → Prop where
  | nil {i e : Nat} : i ≤ e → Seqd K i [] e
  | cons {i e e1 : Nat} {k : Kid} {us r : List Kid} : i ≤ k.2 → k.2 ≤ e1 → K k = some (some e1, us) → Seqd K e1 r e → Seqd K i (k :: r) e
theorem Seqd.le {K : Kid → Option (An Kid)} {i e : Nat} {ks : List Kid} (h : Seqd K i ks e) : i ≤ e := by
  induction h with
  | nil h => exact h
  | cons h1 h2 _ _ ih => exact Nat.le_trans h1 (Nat.le_trans h2 ih)
theorem Seqd.down {K : Kid → Option (An Kid)} {i j e : Nat} {ks : List Kid} (h : Seqd K i ks e) (hj : j ≤ i) : Seqd K j ks e := by
  cases h with
  | nil h => exact .nil (Nat.le_trans hj h)
  | cons h1 h2 h3 h4 => exact .cons (Nat.le_trans hj h1) h2 h3 h4
theorem Seqd.app {K : Kid → Option (An Kid)} {i h e : Nat} {ks us : List Kid} (x : Seqd K i ks h) (y : Seqd K h us e) : Seqd K i (ks ++ us) e := by
  induction x with
  | nil h => exact y.down h
  | cons h1 h2 h3 _ ih => exact .cons h1 h2 h3 (ih y)
theorem Seqd.at {K : Kid → Option (An Kid)} {i e : Nat} {ks : List Kid} (h : Seqd K i ks e) : ∀ k ∈ ks, i ≤ k.2 ∧ ∃ e1 us, K k = some (some e1, us) ∧ k.2 ≤ e1 ∧ e1 ≤ e := by
  induction h with
  | nil => nofun
  | cons h1 h2 h3 h4 ih =>
    intro k hk
    rcases List.mem_cons.mp hk with rfl | hk
    · exact ⟨h1, _, _, h3, h2, h4.le⟩
    · obtain ⟨g1, g2⟩ := ih k hk
      exact ⟨Nat.le_trans h1 (Nat.le_trans h2 g1), g2⟩
section
variable {txt : List Nat} {K : Kid → Option (An Kid)} {mb : Str → Bool}
/-- kids of a part at a place -/
noncomputable def KidsOk (K : Kid → Option (An Kid)) (mb : Str → Bool) (p : Pt) (i : Nat) (a : An Kid) : Prop := ∀ e, a.1 = some e → Seqd K i a.2 e ∧ (e = i → p.may mb = true) ∧ ∀ k ∈ a.2, p.Asks k.1 ∧ (k.2 = i → k.1 ∈ p.ahd mb)
/-- a frame that waits for an answer -/
noncomputable def WaitOk (K : Kid → Option (An Kid)) (mb : Str → Bool) (f : Fr Kid) (x : An Kid) : Prop := match f.piece with
  | .row ps => ∃ q, ps[f.turn]? = some q ∧ Seqd K f.place f.kids f.here ∧ (f.here = f.place → Pt.mayAll mb (ps.take f.turn) = true) ∧ (∀ k ∈ f.kids, (Pt.row ps).Asks k.1 ∧ (k.2 = f.place → k.1 ∈ Pt.ahdRow mb ps)) ∧ KidsOk K mb q f.here x
  | .alt ps => ∃ q ∈ ps, KidsOk K mb q f.place x
  | .many q => Seqd K f.place f.kids f.here ∧ (∀ k ∈ f.kids, (Pt.many q).Asks k.1 ∧ (k.2 = f.place → k.1 ∈ q.ahd mb)) ∧ KidsOk K mb q f.here x
  | _ => True
/-- what comes of a step is as it should be -/
noncomputable def OutOk (K : Kid → Option (An Kid)) (mb : Str → Bool) (p : Pt) (i : Nat) : Out Mm Kid → Prop
  | .pop a _ => KidsOk K mb p i a
  | .push f q j _ => ∀ x, KidsOk K mb q j x → WaitOk K mb f x
  | .stop => True
theorem kids_none {p : Pt} {i : Nat} {us : List Kid} : KidsOk K mb p i (none, us) := nofun
theorem leaf_ok {p : Pt} {f : Fr Kid} {b : Mm} : OutOk K mb p f.place (leafOut txt memBk p f b) := by
  simp only [leafOut, memBk]
  split
  · split
    · exact fun e he => by cases he; exact ⟨.nil (Nat.le_succ _), fun he => absurd he (Nat.succ_ne_self _), nofun⟩
    · exact kids_none
  · exact kids_none
theorem row_ok {b : Mm} {ps : List Pt} {i t h : Nat} {ks : List Kid} (h1 : Seqd K i ks h) (h2 : h = i → Pt.mayAll mb (ps.take t) = true) (h3 : ∀ k ∈ ks, (Pt.row ps).Asks k.1 ∧ (k.2 = i → k.1 ∈ Pt.ahdRow mb ps)) : OutOk K mb (.row ps) i (rowOut ps (⟨.row ps, i, t, h, ks⟩ : Fr Kid) b) := by
  unfold rowOut
  split
  · rename_i q hq; exact fun x hx => ⟨q, hq, h1, h2, h3, hx⟩
  · rename_i hq
    have ht := List.getElem?_eq_none_iff.mp hq
    intro e he; cases he
    refine ⟨h1, fun he => ?_, fun k hk => by rw [Pt.ahd]; exact h3 k hk⟩
    rw [Pt.may, ← List.take_of_length_le ht]; exact h2 he
theorem alt_ok {b : Mm} {ps : List Pt} {f : Fr Kid} (hf : f.piece = .alt ps) : OutOk K mb (.alt ps) f.place (altOut ps f b) := by
  unfold altOut
  split
  · rename_i q hq; intro x hx; unfold WaitOk; rw [hf]; exact ⟨q, List.mem_of_getElem? hq, hx⟩
  · exact kids_none
theorem step_ok {G : Str → Pt} {b : Mm} {f : Fr Kid} {a : Option (An Kid)} (hn : f.nr) (w0 : a = none → f = .new f.piece f.place) (w1 : ∀ x, a = some x → WaitOk K mb f x) : OutOk K mb f.piece f.place (stepOf G txt memBk f a b) := by
  obtain ⟨p, i, t, h, ks⟩ := f
  cases p with
  | rule n => exact absurd rfl (hn n)
  | sign c => exact leaf_ok
  | span c d => exact leaf_ok
  | any => exact leaf_ok
  | row ps =>
    rcases a with _ | ⟨_ | e, us⟩
    · have e1 : t = 0 := congrArg Fr.turn (w0 rfl)
      have e2 : h = i := congrArg Fr.here (w0 rfl)
      have e3 : ks = [] := congrArg Fr.kids (w0 rfl)
      subst e1 e2 e3
      exact row_ok (.nil (Nat.le_refl _)) (fun _ => by simp [Pt.mayAll]) nofun
    · exact kids_none
    · obtain ⟨q, q1, q2, q3, q4, q5⟩ := w1 _ rfl
      obtain ⟨r1, r2, r3⟩ := q5 e rfl
      have l1 : i ≤ h := q2.le
      have l2 : h ≤ e := r1.le
      refine row_ok (q2.app r1) (fun he => ?_) fun k hk => ?_
      · have he : e = i := he
        exact Pt.mayAll_next q1 (q3 (Nat.le_antisymm (he ▸ l2) l1)) (r2 (Nat.le_antisymm (he ▸ l1) l2))
      · rcases List.mem_append.mp hk with hk | hk
        · exact q4 k hk
        · have l3 : h ≤ k.2 := (r1.at k hk).1
          exact ⟨.deep (List.mem_of_getElem? q1) (r3 k hk).1, fun hi => Pt.ahdRow_at q1 (q3 (Nat.le_antisymm (hi ▸ l3) l1)) _ ((r3 k hk).2 (Nat.le_antisymm (hi ▸ l1) l3))⟩
  | alt ps =>
    rcases a with _ | ⟨_ | e, us⟩
    · exact alt_ok rfl
    · exact alt_ok (f := Fr.nxt ⟨.alt ps, i, t, h, ks⟩) rfl
    · obtain ⟨q, q1, q2⟩ := w1 _ rfl
      intro e' he
      obtain ⟨r1, r2, r3⟩ := q2 e' he
      exact ⟨r1, fun x => by rw [Pt.may]; exact Pt.mayAny_at q1 (r2 x), fun k hk => ⟨.deep q1 (r3 k hk).1, fun hi => by rw [Pt.ahd]; exact Pt.ahdAlt_at q1 _ ((r3 k hk).2 hi)⟩⟩
  | many q =>
    have fin : ∀ {x : An Kid}, WaitOk K mb ⟨.many q, i, t, h, ks⟩ x → KidsOk K mb (.many q) i (some h, ks) := fun w e' he => by
      cases he
      exact ⟨w.1, fun _ => by rw [Pt.may], fun k hk => by rw [Pt.ahd]; exact w.2.1 k hk⟩
    rcases a with _ | ⟨_ | e, us⟩
    · have e1 : t = 0 := congrArg Fr.turn (w0 rfl)
      have e2 : h = i := congrArg Fr.here (w0 rfl)
      have e3 : ks = [] := congrArg Fr.kids (w0 rfl)
      subst e1 e2 e3
      exact fun x hx => ⟨.nil (Nat.le_refl _), nofun, hx⟩
    · exact fin (w1 _ rfl)
    · show OutOk K mb _ _ (if e = h then _ else _)
      by_cases he : e = h
      · rw [if_pos he]; exact fin (w1 _ rfl)
      · rw [if_neg he]
        obtain ⟨q2, q4, q5⟩ := w1 _ rfl
        obtain ⟨r1, r2, r3⟩ := q5 e rfl
        have l1 : i ≤ h := q2.le
        refine fun x hx => ⟨q2.app r1, fun k hk => ?_, hx⟩
        rcases List.mem_append.mp (show k ∈ ks ++ us from hk) with hk | hk
        · exact q4 k hk
        · have l3 : h ≤ k.2 := (r1.at k hk).1
          refine ⟨.deep (by simp [Pt.kids]) (r3 k hk).1, fun hi => (r3 k hk).2 ?_⟩
          have hi : k.2 = i := hi
          exact Nat.le_antisymm (hi ▸ l1) l3
  | nt q =>
    rcases a with _ | ⟨_ | e, us⟩
    · exact fun _ _ => trivial
    · exact fun e he => by cases he; exact ⟨.nil (Nat.le_refl _), fun _ => by rw [Pt.may], nofun⟩
    · exact kids_none
theorem Ev.kids {G : Str → Pt} (hK : ∀ k a, K k = some a → ∀ e, a.1 = some e → k.2 ≤ e ∧ (e = k.2 → mb k.1 = true)) {f : Fr Kid} {a : Option (An Kid)} {o : An Kid} {as : List Kid} (h : Ev G txt K f a o as) :
    (a = none → f = .new f.piece f.place) → (∀ x, a = some x → WaitOk K mb f x) → KidsOk K mb f.piece f.place o := by
  induction h with
  | @ask f n a h1 h2 =>
    intro _ _ e he
    obtain ⟨x, us⟩ := a
    cases x with
    | none => cases he
    | some e1 =>
      cases he
      obtain ⟨g1, g2⟩ := hK _ _ h2 e rfl
      refine ⟨.cons (Nat.le_refl _) g1 h2 (.nil (Nat.le_refl _)), fun q => ?_, fun k hk => ?_⟩
      · rw [h1, Pt.may]; exact g2 q
      · cases List.mem_singleton.mp hk; rw [h1, Pt.ahd]; exact ⟨.here, fun _ => List.mem_singleton.mpr rfl⟩
  | @pop f a a' b b' hn hs =>
    intro w0 w1
    have := step_ok (G := G) (txt := txt) (b := b) hn w0 w1
    rw [hs] at this; exact this
  | @push f f' a a' o p i b b' as as' hn hs _ _ ih1 ih2 =>
    intro w0 w1
    have := step_ok (G := G) (txt := txt) (b := b) hn w0 w1
    rw [hs] at this
    obtain ⟨_, s1, s2⟩ := step_psh hn hs
    have k := ih2 nofun (fun x e => by cases e; exact this _ (ih1 (fun _ => rfl) nofun))
    rw [s1, s2] at k; exact k
end
/-- a row of a tree: how deep, which rule where, and its end -/
noncomputable abbrev Row := Nat × Kid × Nat
inductive Tr (K : Kid → Option (An Kid)) : Nat → List Kid → List Row → Prop where
  | nil {d : Nat} : Tr K d [] []
  | cons {d e : Nat} {k : Kid} {ks r : List Kid} {t t' : List Row} : K k = some (some e, ks) → Tr K (d + 1) ks t → Tr K d r t' → Tr K d (k :: r) ((d, k, e) :: (t ++ t'))
/-- the same, with what is still waiting -/
inductive Walk (K : Kid → Option (An Kid)) : List (Nat × Kid) → List Row → Prop where
  | nil : Walk K [] []
  | cons {d e : Nat} {k : Kid} {ks : List Kid} {r : List (Nat × Kid)} {t : List Row} : K k = some (some e, ks) → Walk K (ks.map (d + 1, ·) ++ r) t → Walk K ((d, k) :: r) ((d, k, e) :: t)
theorem Tr.walk {K : Kid → Option (An Kid)} {d : Nat} {ks : List Kid} {t : List Row} (h : Tr K d ks t) : ∀ {r : List (Nat × Kid)} {t' : List Row}, Walk K r t' → Walk K (ks.map (d, ·) ++ r) (t ++ t') := by
  induction h with
  | nil => exact fun h => h
  | cons h1 _ _ ih1 ih2 => exact fun {r t'} h => .cons h1 ((List.append_assoc _ _ _).symm ▸ ih1 (ih2 h) : Walk _ _ ((_ ++ _) ++ t'))
theorem Walk.len {K : Kid → Option (An Kid)} {r : List (Nat × Kid)} {t : List Row} (h : Walk K r t) : r.length ≤ t.length := by
  induction h with
  | nil => exact Nat.le_refl _
  | cons _ _ ih => rw [List.length_append] at ih; exact Nat.succ_le_succ (Nat.le_trans (Nat.le_add_left _ _) ih)
theorem a_lead {X R a b : Nat} (h : a < b) (hb : b < R) : X + (R - b) < X + (R - a) := Nat.add_lt_add_left (Nat.sub_lt_sub_left (Nat.lt_trans h hb) h) X
/-- each kept rule has its tree -/
theorem Tr.ex {G : Str → Pt} {txt : List Nat} {names : List Str} {mb : Str → Bool} {ix : Str → Nat} {R W : Nat} {b : Mm} (hG : GrOk G names mb ix R W) (hm : Mc names mb W txt.length [] b) (hi : MI G txt [] b) :
    ∀ (N d : Nat) (k : Kid) (e : Nat) (ks : List Kid), getM b.kept k = some (some e, ks) → (txt.length - k.2) * (R + 1) + (R - ix k.1) < N → ∃ t, Tr (getM b.kept) d [k] t := by
  have hK : ∀ k a, getM b.kept k = some a → ∀ e, a.1 = some e → k.2 ≤ e ∧ (e = k.2 → mb k.1 = true) := fun k a h e he => by
    have hw := hm.fit k a h
    unfold FitB at hw; rw [he] at hw; exact ⟨hw.1, hw.2.2.1⟩
  intro N
  induction N with
  | zero => intro _ _ _ _ _ h; exact absurd h (Nat.not_lt_zero _)
  | succ N ih =>
    intro d k e ks hk hN
    have ho := hi.kin k _ hk
    obtain ⟨hkn, hkl⟩ := hm.rng k ho
    obtain ⟨as, a, h1, h2⟩ := (hi.done k ho).resolve_left nofun
    rw [hk] at h1; cases h1
    obtain ⟨s1, s2, s3⟩ := h2.kids hK (fun _ => rfl) nofun e rfl
    have s1 : Seqd (getM b.kept) k.2 ks e := s1
    have lst : ∀ l : List Kid, (∀ x ∈ l, x ∈ ks) → ∃ t, Tr (getM b.kept) (d + 1) l t := by
      intro l
      induction l with
      | nil => exact fun _ => ⟨_, .nil⟩
      | cons x r ihr =>
        intro hl
        obtain ⟨t', ht'⟩ := ihr fun y hy => hl y (List.mem_cons_of_mem _ hy)
        have hx := hl x (by simp)
        obtain ⟨g1, e1, us, g2, g3, g4⟩ := s1.at x hx
        obtain ⟨hxn, hxl⟩ := hm.rng x (hi.kin x _ g2)
        have lt : (txt.length - x.2) * (R + 1) + (R - ix x.1) < N := by
          have i1 := hG.ixl x.1 hxn
          rcases Nat.eq_or_lt_of_le g1 with q | q
          · have := hG.lead k.1 hkn x.1 ((s3 x hx).2 q.symm)
            rw [← q]; exact Nat.lt_of_lt_of_le (a_lead this i1) (Nat.le_of_lt_succ hN)
          · exact Nat.lt_of_lt_of_le (Nat.lt_of_le_of_lt (Nat.add_le_add_left (Nat.sub_le_sub_left (Nat.zero_le _) _) _) (a_meas q hxl (Nat.le_refl _))) (Nat.le_of_lt_succ hN)
        obtain ⟨t, ht⟩ := ih (d + 1) x e1 us g2 lt
        cases ht with
        | cons q1 q2 q3 => exact ⟨_, .cons q1 q2 ht'⟩
    obtain ⟨t, ht⟩ := lst ks fun _ h => h
    exact ⟨_, .cons hk ht .nil⟩
/-- the kids of what is kept -/
theorem kept_kids {G : Str → Pt} {txt : List Nat} {names : List Str} {mb : Str → Bool} {W : Nat} {b : Mm} (hm : Mc names mb W txt.length [] b) (hi : MI G txt [] b) {k : Kid} {e : Nat} {ks : List Kid} (hk : getM b.kept k = some (some e, ks)) :
    Seqd (getM b.kept) k.2 ks e ∧ (∀ x ∈ ks, (G k.1).Asks x.1) ∧ ks.length ≤ W * (txt.length + 1) := by
  have ho := hi.kin k _ hk
  obtain ⟨as, a, h1, h2⟩ := (hi.done k ho).resolve_left nofun
  rw [hk] at h1; cases h1
  obtain ⟨s1, s2, s3⟩ := h2.kids (mb := mb) (fun k a h e he => by
    have hw := hm.fit k a h
    unfold FitB at hw; rw [he] at hw; exact ⟨hw.1, hw.2.2.1⟩) (fun _ => rfl) nofun e rfl
  obtain ⟨f1, f2, _, f4⟩ := hm.fit k _ hk
  exact ⟨s1, fun x hx => (s3 x hx).1, Nat.le_trans f4 (Nat.mul_le_mul_left _ (a_sub f2))⟩
/-- how long a tree is -/
theorem Tr.size {K : Kid → Option (An Kid)} {f : Kid → Nat} (hf : ∀ k e ks, K k = some (some e, ks) → 1 + (ks.map f).sum ≤ f k) {d : Nat} {ks : List Kid} {t : List Row} (h : Tr K d ks t) : t.length ≤ (ks.map f).sum := by
  induction h with
  | nil => exact Nat.le_refl _
  | cons h1 _ _ ih1 ih2 =>
    rw [List.length_cons, List.length_append, List.map_cons, List.sum_cons, Nat.add_right_comm]
    exact Nat.add_le_add (Nat.le_trans (Nat.add_le_add_right ih1 1) (Nat.add_comm _ 1 ▸ hf _ _ _ h1)) ih2
end Mine

namespace Mine
open PySem PySem.Calls PyProof.Rows PySem.SeqAt

/-! a Counter: nothing is kept; what fitted is told as trees -/
inductive Nd where
  | mk (n : Str) (i e : Nat) (ks : List Nd)
noncomputable def ctLook (most b : Nat) : Option Nat := if b + 1 ≤ most then some (b + 1) else none
noncomputable def ctTell (n : Str) (i : Nat) (a : An Nd) : An Nd := match a.1 with
  | none => (none, [])
  | some e => (some e, [.mk n i e a.2])
noncomputable def ctBk (most : Nat) : Bk Nat Nd where
  look := ctLook most
  known := fun _ _ _ => none
  begun := fun b _ _ => ctLook most b
  ended := fun b _ _ _ => b
  told := fun _ n i a => ctTell n i a
  few := fun _ => True
mutual
noncomputable def NdAt (σ : Hp) (A : List Nat) : Nd → V → Prop
  | .mk n i e ks, v => ∃ l vs, v = .tup [.str n, .int i, .int e, .ref l] ∧ l ∉ A ∧ σ[l]? = some (.list vs) ∧ NdsAt σ A ks vs
noncomputable def NdsAt (σ : Hp) (A : List Nat) : List Nd → List V → Prop
  | [], vs => vs = []
  | x :: xs, vs => ∃ v r, vs = v :: r ∧ NdAt σ A x v ∧ NdsAt σ A xs r
end
mutual
theorem NdAt.keep {σ σ' : Hp} {A A' : List Nat} (o : On σ A σ' A') : ∀ {x : Nd} {v : V}, NdAt σ A x v → NdAt σ' A' x v
  | .mk n i e ks, v, h => by
    unfold NdAt at h ⊢
    obtain ⟨l, vs, h1, h2, h3, h4⟩ := h
    exact ⟨l, vs, h1, fun q => h2 (o.live l q (List.getElem?_eq_some_iff.mp h3).1), o.keep _ _ h3 h2, NdsAt.keep o h4⟩
theorem NdsAt.keep {σ σ' : Hp} {A A' : List Nat} (o : On σ A σ' A') : ∀ {xs : List Nd} {vs : List V}, NdsAt σ A xs vs → NdsAt σ' A' xs vs
  | [], _, h => by unfold NdsAt at h ⊢; exact h
  | x :: xs, _, h => by
    unfold NdsAt at h ⊢
    obtain ⟨v, r, h1, h2, h3⟩ := h
    exact ⟨v, r, h1, NdAt.keep o h2, NdsAt.keep o h3⟩
end
noncomputable def ndKid : KRep Nd where
  r := NdAt
  keep := fun h a b => NdAt.keep ⟨a, b⟩ h
theorem nds_krs {σ : Hp} {A : List Nat} : ∀ {xs : List Nd} {vs : List V}, KRs ndKid σ A xs vs → NdsAt σ A xs vs
  | [], _, h => by unfold NdsAt; exact h
  | x :: xs, _, h => by
    obtain ⟨v, r, h1, h2, h3⟩ := h
    unfold NdsAt
    exact ⟨v, r, h1, h2, nds_krs h3⟩
theorem ct_bkOk {names : List Str} {mb : Str → Bool} {most W len : Nat} : BkOk (ctBk most) (fun _ _ => True) names mb W len where
  few := fun _ => trivial
  look := fun _ _ => trivial
  known := fun _ _ _ e => by cases e
  begun := fun _ _ _ _ _ _ => trivial
  ended := fun {L b n i a} _ _ _ _ hf => by
    refine ⟨trivial, ?_⟩
    obtain ⟨x, us⟩ := a
    cases x with
    | none => rfl
    | some e =>
      obtain ⟨h1, h2, h3, _⟩ := hf
      exact ⟨h1, h2, h3, by show 1 ≤ 1 * (e + 1 - i); lia⟩
mutual
/-- a tree's rows -/
noncomputable def Nd.rows (d : Nat) : Nd → List Row
  | .mk n i e ks => (d, (n, i), e) :: Nd.rowsL (d + 1) ks
noncomputable def Nd.rowsL (d : Nat) : List Nd → List Row
  | [] => []
  | x :: r => x.rows d ++ Nd.rowsL d r
end
/-- what waits: how deep, the tree, its value -/
noncomputable abbrev Wt := Nat × Nd × V
noncomputable def wtRows (st : List Wt) : List Row := st.flatMap fun x => x.2.1.rows x.1
theorem wtRows_kids {d : Nat} : ∀ (ks : List Nd) (vs : List V), vs.length = ks.length → wtRows ((ks.zip vs).map fun x => (d, x.1, x.2)) = Nd.rowsL d ks
  | [], _, _ => by simp [wtRows, Nd.rowsL]
  | x :: r, [], h => by cases h
  | x :: r, v :: vs, h => by
    have := wtRows_kids (d := d) r vs (by simpa using h)
    simp only [wtRows] at this
    simp [wtRows, Nd.rowsL, this]
theorem NdsAt.zip {σ : Hp} {A : List Nat} : ∀ {ks : List Nd} {vs : List V}, NdsAt σ A ks vs → vs.length = ks.length ∧ ∀ x ∈ ks.zip vs, NdAt σ A x.1 x.2
  | [], vs, h => by unfold NdsAt at h; subst h; exact ⟨rfl, nofun⟩
  | x :: r, _, h => by
    unfold NdsAt at h
    obtain ⟨v, us, rfl, h1, h2⟩ := h
    obtain ⟨g1, g2⟩ := NdsAt.zip h2
    refine ⟨by simp [g1], fun y hy => ?_⟩
    rw [List.zip_cons_cons] at hy
    rcases List.mem_cons.mp hy with rfl | hy
    · exact h1
    · exact g2 y hy
theorem wtRows_len : ∀ {st : List Wt}, st.length ≤ (wtRows st).length
  | [] => Nat.le_refl _
  | (d, .mk n i e ks, v) :: r => by
    have := wtRows_len (st := r)
    simp only [wtRows, List.flatMap_cons, List.length_append, List.length_cons, Nd.rows] at this ⊢; lia
end Mine

namespace Mine
open PySem PySem.Calls PyProof.Rows PySem.SeqAt

/-! a reading, with a Memory -/
theorem Bs.mem_go {G : Str → Pt} {txt : List Nat} {D : Nat} {L : List Kid} {f : Fr Kid} {a : Option (An Kid)} {b : Mm} {o : Option (An Kid × Mm)} (h : Bs G txt memBk D L f a b o) : o ≠ none := by
  induction h with
  | @stop D L f a b w hs =>
    by_cases hn : f.nr
    · have := step_out (B := memBk) (G := G) (txt := txt) (μ := fun _ => 0) rfl (fun _ _ => Nat.le_refl _) (a := a) (b := b) hn
      rw [hs] at this; cases this
    · obtain ⟨n, hn⟩ := not_nr hn
      cases a with
      | some x => simp only [stepOf, hn] at hs; cases hs
      | none => rcases step_ask (G := G) (txt := txt) (b := b) hn with ⟨_, _, q⟩ | ⟨_, q⟩ <;> rw [q] at hs <;> cases hs
  | pop => exact nofun
  | dead _ _ _ _ ih => exact ih
  | push _ _ _ _ _ _ ih => exact ih
theorem Dfs.pre {Ak : Kid → List Kid → Prop} {r o o' : List Kid} (h : Dfs Ak r o o') : ∃ t, o' = o ++ t := by
  induction h with
  | nil => exact ⟨[], by simp⟩
  | old _ _ ih => exact ih
  | new _ _ _ ih => obtain ⟨t, rfl⟩ := ih; exact ⟨_, List.append_assoc ..⟩
theorem a_top {l i R : Nat} : (l - i) * (R + 1) + (R - 0) ≤ (l + 1) * (R + 1) := by
  rw [Nat.add_mul l, Nat.one_mul]; exact Nat.add_le_add (Nat.mul_le_mul_right _ (Nat.sub_le ..)) (Nat.le_succ R)
/-- what a rule's frame comes to -/
theorem Ev.rule {G : Str → Pt} {txt : List Nat} {K : Kid → Option (An Kid)} {n : Str} {i : Nat} {o : An Kid} {as : List Kid} (h : Ev G txt K (.new (.rule n) i) none o as) : ∃ a, K (n, i) = some a ∧ o = tell (n, i) a ∧ as = [(n, i)] := by
  cases h with
  | pop h => exact absurd rfl (h n)
  | ask h h2 => cases h; exact ⟨_, h2, rfl, rfl⟩
  | push h => exact absurd rfl (h n)
theorem a_run {x : Nat} (h : x ≤ 4000000) : x + 1 ≤ 5000000 := Nat.le_trans (Nat.succ_le_succ h) (by decide)
section
variable {G : Str → Pt} {txt : List Nat} {names : List Str} {mb : Str → Bool} {ix : Str → Nat} {R W : Nat} {b : Mm}
theorem mem_read (hG : GrOk G names mb ix R W) (hW : (W + 1) * (txt.length + 1) ≤ 5000000) (hz : names.length * (txt.length + 1) ≤ 5000000) (hD : (txt.length + 1) * (R + 1) * 14 ≤ 4000000) (hm : Mc names mb W txt.length [] b) (hi : MI G txt [] b) {name : Str} {i : Nat} (hn : name ∈ names) (hl : i ≤ txt.length) :
    ∃ (n : Nat) (x : An Kid) (b' : Mm), Fin G txt memBk (· = some (tell (name, i) x, b')) n ⟨[.new (.rule name) i], none, b⟩ ∧ getM b'.kept (name, i) = some x ∧ Mc names mb W txt.length [] b' ∧ MI G txt [] b' ∧ (∀ k y, getM b.kept k = some y → getM b'.kept k = some y) ∧ Dfs (Ak G txt b') [(name, i)] b.order b'.order := by
  have hN := a_top (l := txt.length) (i := i) (R := R)
  obtain ⟨o, h1, h2⟩ := ends hG (mem_bkOk hz) hW _ 1 i 0 (.rule name) [] b hN (by simp [Pt.deep]) (by simp [Pt.deep]) (by simpa only [Pt.ok] using hn) (by simp [Pt.wt]) (fun _ _ => Nat.zero_le _) hl nofun hm
  cases o with
  | none => exact absurd rfl h1.mem_go
  | some y =>
    obtain ⟨a', b'⟩ := y
    obtain ⟨as, k1, k2, k3, k4⟩ := h1.mem a' b' rfl (.inr rfl) hi
    obtain ⟨x, e1, rfl, rfl⟩ := k3.rule
    obtain ⟨n, hfin⟩ := h1.run (a_run hD)
    exact ⟨n, x, b', hfin, e1, (h2 _ _ rfl).1, k1, k2, k4⟩
/-- the tree of what was read -/
theorem mem_tree (hG : GrOk G names mb ix R W) (hm : Mc names mb W txt.length [] b) (hi : MI G txt [] b) {k : Kid} {e : Nat} {ks : List Kid} (hk : getM b.kept k = some (some e, ks)) : ∃ t, Tr (getM b.kept) 0 [k] t :=
  Tr.ex hG hm hi _ 0 k e ks hk (Nat.lt_succ_self _)
end
theorem MI.nil {G : Str → Pt} {txt : List Nat} : MI G txt [] ⟨[], []⟩ := ⟨nofun, nofun, nofun⟩
/-- a place among the rules -/
noncomputable def ixOf (rs : List (Str × Pt)) (n : Str) : Nat := (rs.map (·.1)).idxOf n
theorem ixOf_at {rs : List (Str × Pt)} (hn : (rs.map (·.1)).Nodup) {j : Nat} {r : Str × Pt} (h : rs[j]? = some r) : ixOf rs r.1 = j := by
  obtain ⟨h1, rfl⟩ := List.getElem?_eq_some_iff.mp h
  have := hn.idxOf_getElem j (by simpa using h1)
  simpa [ixOf] using this
theorem grOk_of {rs : List (Str × Pt)} {G : Str → Pt} {W : Nat} (hG : ∀ r ∈ rs, G r.1 = r.2) (hg : GoodRules rs) (hl : Later rs) (hw : ∀ r ∈ rs, r.2.wt ≤ W) : GrOk G (rs.map (·.1)) (inB (turnsE rs rs.length)) (ixOf rs) rs.length W := by
  have at_ : ∀ {P : Str → Prop}, (∀ r ∈ rs, P r.1) → ∀ n ∈ rs.map (·.1), P n := fun h n hn => by
    obtain ⟨r, hr, rfl⟩ := List.mem_map.mp hn
    exact h r hr
  refine ⟨at_ fun r hr => ?_, at_ fun r hr => ?_, at_ fun r hr => ?_, at_ fun r hr => ?_, at_ fun r hr => ?_, at_ fun r hr => ?_⟩
  · rw [hG r hr]
    exact Pt.ok_of _ r.2 (Nat.le_refl _) (hg.all r hr).good (hg.all r hr).few fun m hm => (hg.all r hr).asks m hm
  · rw [hG r hr]; exact (hg.all r hr).deep
  · rw [hG r hr]; exact hw r hr
  · rw [hG r hr]
    intro y hy
    obtain ⟨j, hj⟩ := List.mem_iff_getElem?.mp hr
    obtain ⟨k, r', h1, h2, rfl⟩ := hl j r hj _ y hy
    rw [ixOf_at hg.nodup hj, ixOf_at hg.nodup h2]; exact h1
  · obtain ⟨j, hj⟩ := List.mem_iff_getElem?.mp hr
    rw [ixOf_at hg.nodup hj]; exact (List.getElem?_eq_some_iff.mp hj).1
  · rw [hG r hr]
    intro h
    rw [inB_iff, ← turnsE_end]
    exact mem_turnE.mpr ⟨r, hr, h, rfl⟩
end Mine

namespace Mine
open PySem PySem.Calls PyProof.Rows PySem.SeqAt

/-! a reading, with a Counter -/
mutual
/-- how many rules a tree has -/
noncomputable def Nd.cnt : Nd → Nat
  | .mk _ _ _ ks => Nd.cnts ks + 1
noncomputable def Nd.cnts : List Nd → Nat
  | [] => 0
  | x :: r => x.cnt + Nd.cnts r
end
theorem Nd.cnts_app : ∀ xs ys : List Nd, Nd.cnts (xs ++ ys) = Nd.cnts xs + Nd.cnts ys
  | [], ys => by simp [Nd.cnts]
  | x :: r, ys => by rw [List.cons_append, Nd.cnts, Nd.cnts, Nd.cnts_app r ys, Nat.add_assoc]
mutual
theorem Nd.rows_len (d : Nat) : ∀ x : Nd, (x.rows d).length = x.cnt
  | .mk _ _ _ ks => by simp [Nd.rows, Nd.cnt, Nd.rowsL_len (d + 1) ks]
theorem Nd.rowsL_len (d : Nat) : ∀ xs : List Nd, (Nd.rowsL d xs).length = Nd.cnts xs
  | [] => by simp [Nd.rowsL, Nd.cnts]
  | x :: r => by simp [Nd.rowsL, Nd.cnts, Nd.rows_len d x, Nd.rowsL_len d r]
end
theorem a_ct {n k c c1 c2 m x : Nat} (g1 : x + c ≤ c1) (k1 : k + c1 ≤ c2 + (m + x)) (t1 : m ≤ n) : k + c ≤ c2 + n :=
  Nat.le_of_add_le_add_right (b := x) (Nat.le_trans (Nat.le_of_eq (by rw [Nat.add_assoc, Nat.add_comm c x])) (Nat.le_trans (Nat.add_le_add_left g1 k) (Nat.le_trans k1 (Nat.le_trans (Nat.add_le_add_left (Nat.add_le_add_right t1 x) c2) (Nat.le_of_eq (Nat.add_assoc c2 n x).symm)))))
theorem ctLook_some {most b x : Nat} (h : ctLook most b = some x) : x = b + 1 ∧ b + 1 ≤ most := by
  unfold ctLook at h
  by_cases hc : b + 1 ≤ most
  · rw [if_pos hc] at h; cases h; exact ⟨rfl, hc⟩
  · rw [if_neg hc] at h; cases h
theorem cts_le (xs ys : List Nd) : Nd.cnts (xs ++ ys) ≤ Nd.cnts xs + Nd.cnts ys := Nat.le_of_eq (Nd.cnts_app xs ys)
/-- a rule, with a Counter -/
theorem step_rct {G : Str → Pt} {txt : List Nat} {most : Nat} {f : Fr Nd} {c : Nat} {n : Str} (hf : f.piece = .rule n) : (c + 1 ≤ most ∧ stepOf G txt (ctBk most) f none c = .push f (G n) f.place (c + 1)) ∨ stepOf G txt (ctBk most) f none c = .stop := by
  by_cases hc : c + 1 ≤ most
  · exact .inl ⟨hc, by simp only [stepOf, hf, ctBk, ctLook, if_pos hc]⟩
  · exact .inr (by simp only [stepOf, hf, ctBk, ctLook, if_neg hc])
/-- no more trees than steps -/
theorem Bs.ct {G : Str → Pt} {txt : List Nat} {most D : Nat} {L : List Kid} {f : Fr Nd} {a : Option (An Nd)} {c : Nat} {o : Option (An Nd × Nat)} (h : Bs G txt (ctBk most) D L f a c o) : ∀ a' c', o = some (a', c') → (f.nr ∨ a = none) → Nd.cnts a'.2 + c ≤ c' + (Nd.cnts f.kids + ansM Nd.cnts a) ∧ (c' = c ∨ c' ≤ most) := by
  induction h with
  | stop => exact nofun
  | dead => exact nofun
  | @pop D L f a b b' a' w hs =>
    intro _ _ e hr
    cases e
    by_cases hn : f.nr
    · have := step_out (B := ctBk most) (G := G) (txt := txt) (μ := Nd.cnts) (by rw [Nd.cnts]) cts_le (a := a) (b := b) hn
      rw [hs] at this
      obtain ⟨t1, rfl | t2⟩ := this
      · exact ⟨Nat.le_trans (Nat.add_le_add_right t1 b') (Nat.le_of_eq (Nat.add_comm ..)), .inl rfl⟩
      · obtain ⟨rfl, t3⟩ := ctLook_some t2
        exact ⟨Nat.le_trans (Nat.add_le_add t1 (Nat.le_succ b)) (Nat.le_of_eq (Nat.add_comm ..)), .inr t3⟩
    · obtain rfl := hr.resolve_left hn
      obtain ⟨n, hn⟩ := not_nr hn
      rcases step_rct (G := G) (txt := txt) (most := most) (c := b) hn with ⟨_, q⟩ | q <;> rw [q] at hs <;> cases hs
  | @push D L f f' a b b' b'' p i a' o w hs hl h1 h2 ih1 ih2 =>
    intro a₂ b₂ e hr
    have e0 : Nd.cnts (Fr.new p i : Fr Nd).kids + ansM Nd.cnts none = 0 := by rw [Fr.new, Nd.cnts]; rfl
    by_cases hn : f.nr
    · have := step_out (B := ctBk most) (G := G) (txt := txt) (μ := Nd.cnts) (by rw [Nd.cnts]) cts_le (a := a) (b := b) hn
      rw [hs] at this
      obtain ⟨t1, rfl, t2, _⟩ := this
      obtain ⟨g1, g3⟩ := ih1 _ _ rfl (.inr rfl)
      obtain ⟨k1, k3⟩ := ih2 _ _ e (.inl fun n q => hn n (t2 ▸ q))
      rw [e0, Nat.add_zero] at g1
      exact ⟨a_ct g1 k1 t1, k3.elim (fun e => e ▸ g3) .inr⟩
    · obtain rfl := hr.resolve_left hn
      obtain ⟨n, hn⟩ := not_nr hn
      rcases step_rct (G := G) (txt := txt) (most := most) (c := b) hn with ⟨hb, q⟩ | q <;> rw [q] at hs <;> cases hs
      obtain ⟨g1, g3⟩ := ih1 _ _ rfl (.inr rfl)
      rw [e0, Nat.add_zero] at g1
      have hs2 : stepOf G txt (ctBk most) f (some a') b'' = .pop (ctTell n f.place a') b'' := by simp only [stepOf, hn]; rfl
      have hz : Nd.cnts (ctTell n f.place a').2 ≤ Nd.cnts a'.2 + 1 := by
        obtain ⟨x, us⟩ := a'
        cases x with
        | none => rw [ctTell, Nd.cnts]; exact Nat.zero_le _
        | some e => rw [ctTell, Nd.cnts, Nd.cnt, Nd.cnts]; exact Nat.le_refl _
      have g3 : b'' ≤ most := g3.elim (fun e => e ▸ hb) id
      obtain ⟨e1, e2⟩ := Prod.mk.inj (Option.some.inj (e.symm.trans (h2.pops hs2)))
      rw [e1, e2]
      exact ⟨Nat.le_add_right_of_le (Nat.le_trans (Nat.add_le_add_right hz b) (Nat.le_trans (Nat.le_of_eq (Nat.succ_add_eq_add_succ _ b)) g1)), .inr g3⟩
theorem Bs.rule_ct {G : Str → Pt} {txt : List Nat} {most D : Nat} {L : List Kid} {f : Fr Nd} {c : Nat} {o : Option (An Nd × Nat)} {n : Str} (h : Bs G txt (ctBk most) D L f none c o) (hf : f.piece = .rule n) : ∀ a c', o = some (a, c') → c + 1 ≤ most ∧ ∃ x : An Nd, a = ctTell n f.place x := by
  intro a c' e
  have h := h.out
  rcases step_rct (G := G) (txt := txt) (most := most) (c := c) hf with ⟨k1, k2⟩ | k2 <;> rw [k2] at h
  · obtain ⟨D', _, _, ⟨_, e'⟩ | ⟨a', b'', _, h2⟩⟩ := h
    · cases e.symm.trans e'
    · have hs2 : stepOf G txt (ctBk most) f (some a') b'' = .pop (ctTell n f.place a') b'' := by simp only [stepOf, hf]; rfl
      exact ⟨k1, a', (Prod.mk.inj (Option.some.inj (e.symm.trans (h2.pops hs2)))).1⟩
  · cases e.symm.trans h
section
variable {G : Str → Pt} {txt : List Nat} {names : List Str} {mb : Str → Bool} {ix : Str → Nat} {R W most : Nat}
theorem ct_read (hG : GrOk G names mb ix R W) (hW : (W + 1) * (txt.length + 1) ≤ 5000000) (hD : (txt.length + 1) * (R + 1) * 14 ≤ 4000000) {name : Str} {i : Nat} (hn : name ∈ names) (hl : i ≤ txt.length) :
    ∃ o D, D ≤ (txt.length + 1) * (R + 1) * 14 + 1 ∧ Bs G txt (ctBk most) D [] (.new (.rule name) i) none 0 o ∧ (∃ n, Fin G txt (ctBk most) (· = o) n ⟨[.new (.rule name) i], none, 0⟩) ∧ ∀ a c, o = some (a, c) → 1 ≤ most ∧ c ≤ most ∧ ∃ x : An Nd, a = ctTell name i x ∧ Nd.cnts a.2 ≤ most := by
  have hN := a_top (l := txt.length) (i := i) (R := R)
  obtain ⟨o, h1, h2⟩ := ends (I := fun _ _ => True) hG (ct_bkOk (most := most)) hW _ 1 i 0 (.rule name) [] 0 hN (by simp [Pt.deep]) (by simp [Pt.deep]) (by simpa only [Pt.ok] using hn) (by simp [Pt.wt]) (fun _ _ => Nat.zero_le _) hl nofun trivial
  refine ⟨o, _, Nat.le_refl _, h1, h1.run (a_run hD), fun a c e => ?_⟩
  obtain ⟨g1, g3⟩ := h1.ct a c e (.inr rfl)
  rw [show Nd.cnts (Fr.new (.rule name) i : Fr Nd).kids + ansM Nd.cnts none = 0 by rw [Fr.new, Nd.cnts]; rfl] at g1
  obtain ⟨h3, h4⟩ := h1.rule_ct rfl a c e
  have hc : c ≤ most := g3.elim (fun e => e ▸ Nat.zero_le _) id
  exact ⟨h3, hc, h4.imp fun x hx => ⟨hx, Nat.le_trans g1 hc⟩⟩
end
end Mine

open PySem PySem.W PyProof.Rows
set_option maxRecDepth 100000
namespace Mine
noncomputable abbrev T12 (w : World) (s : Shared) : Tp := tpOf PySem.Challenge.rw_uf010010_12.row.prog w s (hd12.heap_39 w.params)
variable {w : World} {s : Shared} {d : Nat} {X : QX} {Q : QE} {σ : Hp}
set_option maxHeartbeats 2000000

theorem fn_is_sign (TO : TopOk (T12 w s)) {v : V} (hk : (kindName σ v).isSome = true) (hl : shortV v) (q : Q (.bool (isSignV v)) σ) : CallOk (T12 w s) (d + 1) X (.glob "is_sign") [v] Q σ := by
  obtain ⟨k, hk⟩ := Option.isSome_iff_exists.mp hk
  refine CallOk.go TO rfl rfl ?_
  by_cases hs : k = "str"
  · subst hs
    have : ∃ x, v = .str x := by
      cases v <;> first | exact ⟨_, rfl⟩ | exact (no_some hk).elim | exact absurd (sm_inj hk) (by decide) | skip
      obtain ⟨_, _, hk⟩ := atL_out hk
      exact absurd (sm_inj hk) (by decide)
    obtain ⟨x, rfl⟩ := this
    refine Cal.isi (b := true) rfl <| Cal.len rfl hl <| Br.mk (fun h1 => ?_) fun h1 => ?_
    · rw [isSignV_long (by intro e; rw [e] at h1; cases h1)] at q
      exact q
    · obtain ⟨c, rfl⟩ := str_one (x := x) (by simp only [bne_eq_false_iff_eq] at h1; clear q hk hl; lia)
      rw [isSignV_one] at q
      refine Br.mk (fun h2 => ?_) fun h2 => Br.mk (fun h3 => ?_) fun h3 => Cal.ord ?_
      · rw [show isSignC c = true by simp only [isSignC, show (c == 10) = true from beq_ch.symm.trans h2, Bool.true_or]] at q
        exact q
      · rw [show isSignC c = true by simp only [isSignC, show (c == 9) = true from beq_ch.symm.trans h3, Bool.true_or, Bool.or_true]] at q
        exact q
      have key : isSignC c = (decide ((32 : Int) ≤ c) && decide ((c : Int) ≤ 126) && ((c : Int) != 37)) := by
        simp only [isSignC, show (c == 10) = false from beq_ch.symm.trans h2, show (c == 9) = false from beq_ch.symm.trans h3, Bool.false_or]
        rw [Bool.eq_iff_iff]; simp; clear q hk hl h1 h2 h3; lia
      rw [key] at q
      clear key
      refine Br.mk (fun h4 => Br.mk (fun h5 => Cal.ord ?_) fun h5 => ?_) fun h4 => ?_
      · rw [h4, h5] at q; exact q
      · rw [h5, Bool.and_false] at q; show Q (V.bool (decide _)) σ; rw [h5]; exact q
      · rw [h4] at q; exact q
  · have e2 : isSignV v = false := by
      cases v <;> first | rfl | exact absurd (sm_inj hk).symm hs
    rw [e2] at q
    exact Cal.isi (b := false) (by unfold isiV; rw [hk]; simp [hs]) q
end Mine

open PySem PySem.W PyProof.Rows
set_option maxRecDepth 100000
namespace Mine
variable {w : World} {s : Shared} {d : Nat} {X : QX} {Q : QE} {σ : Hp}
set_option maxHeartbeats 2000000

theorem itemG.tag {p : Pt} (q : Q (.str p.word) σ) : itemG p.v (.int 0) Q σ := by cases p <;> exact q
theorem Pt.tag_rule {p : Pt} (h : (p.word == ("rule" : Str)) = true) : ∃ n, p = .rule n := by
  cases p <;> first | exact ⟨_, rfl⟩ | exact (Bool.false_ne_true h).elim
theorem itemG.rule {p : Pt} {n : Str} (h : p = .rule n) (q : Q (.str n) σ) : itemG p.v (.int 1) Q σ := by subst h; exact q
theorem fn_within (TO : TopOk (T12 w s)) {p : Pt} (hn : p.kids.length ≤ sizeLine) (q : Q (.ref σ.length) (σ ++ [.list (p.kids.map Pt.v)])) : CallOk (T12 w s) (d + 1) X (.glob "within") [p.v] Q σ := by
  refine CallOk.go TO rfl rfl ?_
  cases p with
  | row ps => exact Cal.list (vs := Pt.vs ps) rfl (by rw [Pt.vs_map, List.length_map]; exact hn) (by rw [Pt.vs_map]; exact q)
  | alt ps => exact Cal.list (vs := Pt.vs ps) rfl (by rw [Pt.vs_map, List.length_map]; exact hn) (by rw [Pt.vs_map]; exact q)
  | _ => exact q

noncomputable def Pt.leaf : Pt → Prop
  | .row _ | .alt _ | .many _ | .nt _ => False
  | _ => True
/-- leaves -/
theorem fn_leaf_ok (TO : TopOk (T12 w s)) {p : Pt} (hg : p.good = true) (hw : p.leaf) (q : Q (.bool true) σ) : CallOk (T12 w s) (d + 2) X (.glob "is_leaf") [p.v] Q σ := by
  refine CallOk.go TO rfl rfl ?_
  have sg : ∀ {c : Nat} {Q : QE}, isSignC c = true → Q (.bool true) σ → Cal (T12 w s) (d + 1) X (.glob "is_sign") [.str ⟨#[c]⟩] Q σ := fun {c Q} hc q => ⟨fn_is_sign TO rfl (by show (1 : Nat) < 2 ^ 62; decide) (by rw [isSignV_one, hc]; exact q)⟩
  cases p with
  | any => exact Cal.lenT rfl q
  | sign c => exact Cal.lenT rfl (sg (by simpa [Pt.good] using hg) q)
  | rule n => exact Cal.lenT rfl (Cal.isi rfl q)
  | span a b =>
    simp only [Pt.good, Bool.and_eq_true, decide_eq_true_eq] at hg
    refine Cal.lenT rfl (sg hg.1.1 (sg hg.1.2 (Cal.ord (Cal.ord ?_))))
    show Q (.bool (decide _)) σ
    rw [decide_eq_true (by have := hg.2; lia)]; exact q
  | row ps => exact hw.elim
  | alt ps => exact hw.elim
  | many p => exact hw.elim
  | nt p => exact hw.elim

theorem vs_at {ps : List Pt} {i : Nat} {x : V} (h : (Pt.vs ps)[i]? = some x) : ∃ p, ps[i]? = some p ∧ x = p.v := by
  rw [Pt.vs_map, List.getElem?_map, Option.map_eq_some_iff] at h
  obtain ⟨p, hp, rfl⟩ := h
  exact ⟨p, hp, rfl⟩
theorem fn_is_part (TO : TopOk (T12 w s)) : ∀ (n : Nat) (p : Pt) (room : Nat) {X : QX} {Q : QE} {σ : Hp}, p.deep ≤ n → n ≤ room → p.good = true → Pt.All Pt.few p → Q (.bool true) σ → CallOk (T12 w s) (d + n + 2) X (.glob "is_part") [p.v, .int room] Q σ := by
  intro n
  induction n with
  | zero => intro p _ X Q σ hn; exact absurd (Pt.deep_pos p) (by lia)
  | succ n ih =>
    intro p room X Q σ hn hr hg hf q
    obtain ⟨hfk, hfc⟩ := hf
    have hkl : p.kids.length < 1000 := hfk
    have kid : ∀ k ∈ p.kids, ∀ {Q : QE} {σ : Hp}, Q (.bool true) σ → p.kids.all Pt.good = true → Cal (T12 w s) (d + n + 2) X (.glob "is_part") [k.v, .int ((room : Int) - 1)] Q σ := fun k hk {Q σ} q hG => by
      have := Pt.kids_deep hk
      rw [show (room : Int) - 1 = ((room - 1 : Nat) : Int) by clear q ih; lia]
      exact ⟨ih k (room - 1) (by clear q ih; lia) (by clear q ih; lia) (List.all_eq_true.mp hG k hk) (hfc k hk) q⟩
    have goods : ∀ ps : List Pt, Pt.goods ps = true → ps.all Pt.good = true := fun ps h => List.all_eq_true.mpr fun k hk => Pt.goods_mem h hk
    refine CallOk.go TO rfl rfl ?_
    refine Br.f (by rw [decide_eq_false_iff_not]; clear q ih kid; lia) ?_
    cases p with
    | many k => exact Cal.isi rfl <| Cal.lenT rfl <| Cal.isi rfl <| Cal.lenT rfl <| kid k (by simp [Pt.kids]) q (by simpa [Pt.good, Pt.kids] using hg)
    | nt k => exact Cal.isi rfl <| Cal.lenT rfl <| Cal.isi rfl <| Cal.lenT rfl <| kid k (by simp [Pt.kids]) q (by simpa [Pt.good, Pt.kids] using hg)
    | row ps =>
      rw [Pt.good] at hg
      have hG : Pt.goods ps = true := hg
      refine Cal.isi rfl <| Cal.lenT rfl <| Cal.isi rfl <| Cal.lenT rfl <| Cal.isi rfl ⟨_, fun i ρ' σ' => Has ρ' [("room", .int room)] ∧ σ' = σ, ⟨⟨rfl, trivial⟩, rfl⟩, fun i ρ' σ' _ => rfl, fun ρ' σ' h => h.2 ▸ q, fun i x ρ' σ' hJ hx => ?_⟩
      obtain ⟨h1, rfl⟩ := hJ
      obtain ⟨k, hk, rfl⟩ := vs_at hx
      obtain ⟨r, rfl⟩ := h1.use
      exact ⟨_, rfl, vB_ok TO rfl 60 _ _ _ _ (kid k (List.mem_of_getElem? hk) ⟨⟨rfl, trivial⟩, rfl⟩ (goods _ hG))⟩
    | alt ps =>
      rw [Pt.good, Bool.and_eq_true] at hg
      have he : ((ps.length : Int) == 0) = false := by
        rw [beq_eq_false_iff_ne]; intro e
        have : ps = [] := List.length_eq_zero_iff.mp (by clear q ih kid; lia)
        rw [this] at hg; cases hg.1
      have hG : Pt.goods ps = true := hg.2
      refine Cal.isi rfl <| Cal.lenT rfl <| Cal.isi rfl <| Cal.lenT rfl <| Cal.isi rfl <| Cal.len (n := ps.length) (len_tup (by simp only [Pt.vs_map, List.length_map])) (by have : ps.length < 1000 := hkl; clear q ih kid; exact Nat.le_trans (by assumption) (by decide)) <| Br.f he ⟨_, fun i ρ' σ' => Has ρ' [("room", .int room)] ∧ σ' = σ, ⟨⟨rfl, trivial⟩, rfl⟩, fun i ρ' σ' _ => rfl, fun ρ' σ' h => h.2 ▸ q, fun i x ρ' σ' hJ hx => ?_⟩
      obtain ⟨h1, rfl⟩ := hJ
      obtain ⟨k, hk, rfl⟩ := vs_at hx
      obtain ⟨r, rfl⟩ := h1.use
      exact ⟨_, rfl, vB_ok TO rfl 60 _ _ _ _ (kid k (List.mem_of_getElem? hk) ⟨⟨rfl, trivial⟩, rfl⟩ (goods _ hG))⟩
    | any => exact Cal.isi rfl <| Cal.lenT rfl <| Cal.isi rfl <| Cal.mk <| fn_leaf_ok (d := d + n) (p := .any) TO hg trivial q
    | sign c => exact Cal.isi rfl <| Cal.lenT rfl <| Cal.isi rfl <| Cal.mk <| fn_leaf_ok (d := d + n) (p := .sign c) TO hg trivial q
    | rule c => exact Cal.isi rfl <| Cal.lenT rfl <| Cal.isi rfl <| Cal.mk <| fn_leaf_ok (d := d + n) (p := .rule c) TO hg trivial q
    | span a b => exact Cal.isi rfl <| Cal.lenT rfl <| Cal.isi rfl <| Cal.mk <| fn_leaf_ok (d := d + n) (p := .span a b) TO hg trivial q
end Mine

open PySem PySem.W PyProof.Rows
set_option maxRecDepth 100000
namespace Mine
variable {w : World} {s : Shared} {d : Nat} {X : QX} {Q : QE} {σ : Hp}
set_option maxHeartbeats 2000000

theorem Pt.sizes_len : ∀ st : List Pt, st.length ≤ Pt.sizes st
  | [] => by simp
  | a :: r => by have := Pt.size_pos a; have := Pt.sizes_len r; simp only [Pt.sizes, List.length_cons]; lia
/-- what rules_in has found, and what is waiting -/
inductive J12f (p : Pt) (σ : Hp) (n : Nat) (ρ' : Loc) (σ' : Hp) : Prop where
  | mk (ns : List Str) (st : List Pt) (junk : Hp) (q0 : n = Pt.sizes st) (q1 : ns.length + Pt.sizes st ≤ p.size) (q2 : ∀ n ∈ ns, p.Asks n) (q3 : ∀ t ∈ st, Pt.All Pt.few t ∧ ∀ n, t.Asks n → p.Asks n) (q4 : ∀ n, p.Asks n → n ∈ ns ∨ ∃ t ∈ st, t.Asks n)
      (q5 : σ' = σ ++ .list (ns.map .str) :: .list (st.map Pt.v) :: junk) (q6 : Has ρ' [("found", .ref σ.length), ("waiting", .ref (σ.length + 1))]) : J12f p σ n ρ' σ'
theorem Pt.asks_kids {t : Pt} {n : Str} (h : t.Asks n) : t = .rule n ∨ ∃ k ∈ t.kids, k.Asks n := by
  cases h with
  | here => exact .inl rfl
  | deep hm hk => exact .inr ⟨_, hm, hk⟩
theorem fn_rules_in (TO : TopOk (T12 w s)) {p : Pt} (hfew : Pt.All Pt.few p) (hs : p.size < 100000) (q : ∀ (ns : List Str) (junk : Hp), (∀ n, n ∈ ns ↔ p.Asks n) → ns.length ≤ p.size → Q (.ref σ.length) (σ ++ .list (ns.map .str) :: junk)) : CallOk (T12 w s) (d + 2) X (.glob "rules_in") [p.v] Q σ := by
  refine CallOk.go TO rfl rfl ?_
  refine Stx.mk <| StOk.while (J12f p σ) p.size ⟨[], [p], [], by simp [Pt.sizes], by simp [Pt.sizes], by simp, fun t ht => by cases List.mem_singleton.mp ht; exact ⟨hfew, fun _ h => h⟩, fun n hn => .inr ⟨p, by simp, hn⟩, by simp, ⟨rfl, by simp [upd], trivial⟩⟩ ?_
  rintro n ρ' σ' ⟨ns, st, junk, hn, hsz, hns, hst, hall, hσ, hρ⟩
  subst hn hσ
  obtain ⟨r, rfl⟩ := hρ.use
  have hsl := Pt.sizes_len st
  refine vT_ok TO rfl 40 10 _ _ _ <| tvc.of (b := !(st.map Pt.v).isEmpty) ?_ ?_
  · exact truth_list get1 (by simp; (clear q; lia))
  rcases List.eq_nil_or_concat st with rfl | ⟨init, t, rfl⟩
  · refine ite_no (by simp) ?_
    refine q ns _ (fun n => ⟨hns n, fun hn => (hall n hn).elim id fun ⟨t, ht, _⟩ => by simp at ht⟩) (by (clear hs q; exact hsz))
  refine ite_yes (by simp) ?_
  rw [List.concat_eq_append] at hsz hst hall ⊢
  have hsz1 : Pt.sizes (init ++ [t]) = Pt.sizes init + t.size := by rw [Pt.sizes_append]; simp [Pt.sizes]
  have hil := Pt.sizes_len init
  obtain ⟨⟨hfk, hfc⟩, hta⟩ := hst t (by simp)
  have htp := Pt.size_pos t
  have hkl : t.kids.length < 1000 := hfk
  have hks := Pt.kids_size t
  refine vB_ok TO rfl 60 _ _ _ _ <| MethOk.pop get1 <| Cal.mk <| CallOk.pop (v := t.v) (vs := init.map Pt.v) (by rw [get1]; simp) (by simp only [List.length_map]; exact szo (by (clear hks hkl htp q; lia))) ?_
  rw [set1]
  have fin : ∀ {ns' : List Str}, (∀ n ∈ ns', p.Asks n) → ns'.length ≤ ns.length + 1 → (∀ n ∈ ns, n ∈ ns') → (∀ n, t = .rule n → n ∈ ns') → ∃ m, m < Pt.sizes (init ++ [t]) ∧ J12f p σ m (locs r [("found", .ref σ.length), ("waiting", .ref (σ.length + 1))] |> fun ρ => upd ρ "one" (some t.v)) (σ ++ .list (ns'.map .str) :: .list ((init ++ t.kids).map Pt.v) :: (junk ++ [.list (t.kids.map Pt.v)])) := fun {ns'} h1 h2 h3 h4 =>
    ⟨Pt.sizes (init ++ t.kids), by rw [hsz1, Pt.sizes_append]; (clear h1 h2 h3 h4 hkl hil htp hs q hsz hsz1; lia), ns', init ++ t.kids, _, rfl, by rw [Pt.sizes_append]; (clear h1 h3 h4 hkl hil htp hs q; lia), h1, fun u hu => (List.mem_append.mp hu).elim (fun hu => hst u (List.mem_append_left _ hu)) fun hu => ⟨hfc u hu, fun n hn => hta n (.deep hu hn)⟩,
      fun n hn => (hall n hn).elim (fun h => .inl (h3 n h)) fun ⟨u, hu, hn⟩ => (List.mem_append.mp hu).elim (fun hu => .inr ⟨u, List.mem_append_left _ hu, hn⟩) fun hu => by
        cases List.mem_singleton.mp hu
        exact (Pt.asks_kids hn).elim (fun h => .inl (h4 n h)) fun ⟨k, hk, hn⟩ => .inr ⟨k, List.mem_append_right _ hk, hn⟩, rfl, ⟨rfl, rfl, trivial⟩⟩
  have fin2 : ∀ {ns' : List Str} {K : QE}, (K .none (σ ++ .list (ns'.map .str) :: .list ((init ++ t.kids).map Pt.v) :: (junk ++ [.list (t.kids.map Pt.v)]))) → Cal (T12 w s) (d + 1) X (.bi "list.extend") [.ref (σ.length + 1), .ref (σ ++ .list (ns'.map .str) :: .list (init.map Pt.v) :: junk).length] K ((σ ++ .list (ns'.map .str) :: .list (init.map Pt.v) :: junk) ++ [.list (t.kids.map Pt.v)]) := fun {ns' K} k =>
    ⟨CallOk.extend (vs := init.map Pt.v) (us := t.kids.map Pt.v) (by rw [List.append_assoc]; exact get1) get_new (by simp only [List.length_map]; exact szo (by (clear k fin htp q hks; lia))) (by
      rw [List.append_assoc, List.cons_append, List.cons_append, set1, ← List.map_append]; exact k)⟩
  have wi : ∀ {σ' : Hp} {K : QE}, K (.ref σ'.length) (σ' ++ [.list (t.kids.map Pt.v)]) → Cal (T12 w s) (d + 1) X (.glob "within") [t.v] K σ' := fun {σ' K} k => ⟨fn_within TO (szo (by (clear k fin fin2 q hks; exact Nat.le_of_lt (Nat.lt_trans hfk (Nat.le_add_left (Nat.succ 1000) 16776215))))) k⟩
  refine itemG.tag <| Br.mk (fun h => ?_) fun h => ?_
  · obtain ⟨n, hn⟩ := Pt.tag_rule h
    refine MethOk.append get0 <| itemG.rule hn <| Cal.mk <| CallOk.append (vs := ns.map .str) get0 (by simp only [List.length_map]; exact szo (by (clear fin fin2 wi q; lia))) ?_
    rw [set0, show ns.map V.str ++ [V.str n] = (ns ++ [n]).map V.str by simp]
    exact MethOk.extend get1 <| wi <| fin2 <| fin (fun m hm => (List.mem_append.mp hm).elim (hns m) fun h => by cases List.mem_singleton.mp h; exact hta _ (hn ▸ .here)) (by simp) (fun m hm => List.mem_append_left _ hm) fun m hm => by rw [hn] at hm; cases hm; simp
  · exact MethOk.extend get1 <| wi <| fin2 <| fin hns (Nat.le_succ _) (fun _ h => h) fun n e => by rw [e] at h; exact (Bool.false_ne_true h.symm).elim
end Mine

open PySem PySem.W PyProof.Rows
set_option maxRecDepth 100000
namespace Mine
variable {w : World} {s : Shared} {d : Nat} {X : QX} {Q : QE} {σ : Hp}
set_option maxHeartbeats 4000000

theorem Cmp.strs {neg b : Bool} {x y : Str} (h : strIn x y = b) (q : Q (.bool (neg != b)) σ) : Cmp (if neg then .NotIn else .In) (.str x) (.str y) Q σ := .inR (h ▸ .str x y) q
theorem fn_is_name (TO : TopOk (T12 w s)) {x : Str} (hx : isName x = true) (q : ∀ junk, Q (.bool true) (σ ++ junk)) : CallOk (T12 w s) (d + 1) X (.glob "is_name") [.str x] Q σ := by
  simp only [isName, Bool.and_eq_true, decide_eq_true_eq] at hx
  obtain ⟨⟨h1, h12⟩, hall⟩ := hx
  refine CallOk.go TO rfl rfl ?_
  refine Cal.isi (b := true) rfl <| Cal.len rfl (by clear h1 hall; exact Nat.lt_of_le_of_lt (by assumption) (by decide)) <| Br.t (decide_eq_true (by clear hall; lia)) <| Br.f (by rw [decide_eq_true (by clear hall; lia)]; rfl) ⟨x.cps.toList.map fun c => .str ⟨#[c]⟩, fun i acc σ' => acc = [] ∧ σ' = σ, ⟨rfl, rfl⟩, fun i acc σ' hJ => ⟨rfl, by rw [hJ.1]; exact Nat.zero_le _⟩, fun acc σ' hJ => ?_, fun i y acc σ' hJ hy => ?_⟩
  · obtain ⟨rfl, rfl⟩ := hJ
    exact Cal.len (n := 0) (len_list (vs := []) (by simp)) (by decide) (q _)
  · obtain ⟨rfl, rfl⟩ := hJ
    rw [List.getElem?_map, Option.map_eq_some_iff] at hy
    obtain ⟨c, hc, rfl⟩ := hy
    exact vT_ok TO rfl 40 10 _ _ _ <| Cmp.strs (neg := true) (letter_in (List.all_eq_true.mp hall c (List.mem_of_getElem? hc))) ⟨rfl, rfl⟩

theorem map_at {α : Type} {f : α → V} {rs : List α} {i : Nat} {x : V} (h : (rs.map f)[i]? = some x) : ∃ r, rs[i]? = some r ∧ x = f r := by
  rw [List.getElem?_map, Option.map_eq_some_iff] at h
  obtain ⟨r, hr, rfl⟩ := h
  exact ⟨r, hr, rfl⟩
/-- in a dict of texts -/
theorem Cmp.met {neg : Bool} {n : Str} {l : Nat} {ns : List Str} (hl : σ[l]? = some (.sdict (metKV ns))) (q : Q (.bool (neg != decide (n ∈ ns))) σ) : Cmp (if neg then .NotIn else .In) (.str n) (.ref l) Q σ := .inR (.dict _ _ _ hl) (by rw [metKV_any]; exact q)
inductive J12h (l : Nat) (σ : Hp) (ns : List Str) (ρ' : Loc) (σ' : Hp) : Prop where
  | mk (q0 : Has ρ' [("rules", .ref l), ("met", .ref σ.length)]) (junk : Hp) (q2 : σ' = σ ++ .sdict (metKV ns) :: junk) : J12h l σ ns ρ' σ'
theorem fn_need_rules (TO : TopOk (T12 w s)) {l : Nat} {rs : List (Str × Pt)} (hl : σ[l]? = some (.list (rs.map ruleV))) (hg : GoodRules rs) (q : ∀ junk, Q .none (σ ++ junk)) : CallOk (T12 w s) (d + 16) X (.glob "need_rules") [.ref l] Q σ := by
  have hm := hg.most
  have h1 := hg.one
  refine CallOk.go TO rfl rfl ?_
  refine Cal.isi (b := true) (isi_list hl) <| Cal.len (n := rs.length) (len_at hl (by simp only [List.length_map])) (by (clear hl; exact Nat.lt_of_le_of_lt (by assumption) (by decide))) <| Br.t (decide_eq_true (by (clear hl; lia))) <| Br.f (by rw [decide_eq_true (by (clear hl; lia))]; rfl)
    ⟨rs.map ruleV, fun i => J12h l σ ((rs.take i).map (·.1)), ⟨⟨rfl, rfl, trivial⟩, [], by simp [metKV]⟩, fun i ρ' σ' hJ => ?_, fun ρ' σ' hJ => ?_, fun i x ρ' σ' hJ hx => ?_⟩
  · obtain ⟨_, junk, rfl⟩ := hJ
    exact iter_list (get_up hl)
  · obtain ⟨hρ, junk, rfl⟩ := hJ
    rw [List.length_map, List.take_length]
    obtain ⟨r, rfl⟩ := hρ.use
    refine ⟨rs.map ruleV, fun i => J12h l σ (rs.map (·.1)), ⟨⟨rfl, rfl, trivial⟩, junk, rfl⟩, fun i ρ₂ σ₂ hJ => ?_, fun ρ₂ σ₂ hJ => ?_, fun i x ρ₂ σ₂ hJ hx => ?_⟩
    · obtain ⟨_, jk, rfl⟩ := hJ
      exact iter_list (get_up hl)
    · obtain ⟨_, jk, rfl⟩ := hJ
      exact q _
    · obtain ⟨hρ, jk, rfl⟩ := hJ
      obtain ⟨r, hr, rfl⟩ := map_at hx
      obtain ⟨r', rfl⟩ := hρ.use
      have hG := hg.all r (List.mem_of_getElem? hr)
      refine ⟨_, rfl, vB_ok TO rfl 60 _ _ _ _ <| Cal.mk <| fn_rules_in (d := d + 13) TO hG.few hG.size fun ns jk2 hns hln => ⟨ns.map .str, fun _ ρ₃ σ₃ => Has ρ₃ [("rules", .ref l), ("met", .ref σ.length)] ∧ σ₃ = (σ ++ .sdict (metKV (rs.map (·.1))) :: jk) ++ .list (ns.map .str) :: jk2, ⟨⟨rfl, rfl, trivial⟩, rfl⟩, fun i ρ₃ σ₃ hJ => ?_, fun ρ₃ σ₃ hJ => ?_, fun i y ρ₃ σ₃ hJ hy => ?_⟩⟩
      · rw [hJ.2]; exact iter_list get0
      · exact ⟨hJ.1, jk ++ .list (ns.map .str) :: jk2, by rw [hJ.2, List.append_assoc, List.cons_append]⟩
      · obtain ⟨hρ, rfl⟩ := hJ
        obtain ⟨n, hn, rfl⟩ := map_at hy
        obtain ⟨r', rfl⟩ := hρ.use
        have hin := hG.asks n ((hns n).mp (List.mem_of_getElem? hn))
        refine ⟨_, rfl, vB_ok TO rfl 60 _ _ _ _ <| Cmp.met (neg := true) (ns := rs.map (·.1)) (by rw [List.append_assoc, List.cons_append]; exact get0) <| Br.f (by simpa using hin) ⟨⟨rfl, rfl, trivial⟩, rfl⟩⟩
  · obtain ⟨hρ, junk, rfl⟩ := hJ
    obtain ⟨r, hr, rfl⟩ := map_at hx
    obtain ⟨r', rfl⟩ := hρ.use
    have hG := hg.all r (List.mem_of_getElem? hr)
    have hnew : r.1 ∉ (rs.take i).map (·.1) := nodup_take hg.nodup hr
    refine ⟨_, rfl, vB_ok TO rfl 60 _ _ _ _ <| Cal.isi rfl <| Cal.lenT rfl <| Cal.mk <| fn_is_name TO hG.name fun jk => ?_⟩
    rw [List.append_assoc, List.cons_append]
    refine Cmp.met (neg := false) (ns := (rs.take i).map (·.1)) get0 <| Br.f (by simpa using hnew) <| Cal.mk <| fn_is_part (d := d + 1) TO 12 r.2 12 hG.deep (Nat.le_refl _) hG.good hG.few <| SetItemOk.mk _ _ _ rfl rfl get0 (by simp [metKV]; exact szo (by (clear hr hl; lia))) ?_
    rw [set0, metKV_set hnew]
    refine ⟨⟨rfl, rfl, trivial⟩, junk ++ jk, ?_⟩
    rw [take_next hr, List.map_append]; rfl
end Mine

open PySem PySem.W PyProof.Rows
set_option maxRecDepth 100000
namespace Mine
variable {w : World} {s : Shared} {d : Nat}
set_option maxHeartbeats 4000000

theorem may_all {B : Str → Bool} {ps : List Pt} : Pt.may B (.row ps) = (ps.map (Pt.may B)).all id := by rw [Pt.may, Pt.mayAll_eq, List.all_map]; rfl
theorem may_any {B : Str → Bool} {ps : List Pt} : Pt.may B (.alt ps) = (ps.map (Pt.may B)).any id := by rw [Pt.may, Pt.mayAny_eq, List.any_map]; rfl
theorem Cmp.keys {n : Str} {l : Nat} {kvs : List (Str × V)} {Q : QE} {σ : Hp} (hl : σ[l]? = some (.sdict kvs)) (q : Q (.bool (hasK kvs n)) σ) : Cmp .In (.str n) (.ref l) Q σ := .inD hl rfl q
theorem fn_may (TO : TopOk (T12 w s)) {b : Nat} {kvs : List (Str × V)} : ∀ (n : Nat) (p : Pt) {X : QX} {Q : QE} {σ : Hp}, p.deep ≤ n → Pt.All Pt.few p → σ[b]? = some (.sdict kvs) → (∀ junk, Q (.bool (p.may (hasK kvs))) (σ ++ junk)) → CallOk (T12 w s) (d + n + 1) X (.glob "may_be_empty") [p.v, .ref b] Q σ := by
  intro n
  induction n with
  | zero => intro p X Q σ hn; exact absurd (Pt.deep_pos p) (by lia)
  | succ n ih =>
    intro p X Q σ hn hf hb q
    have q0 : Q (.bool (p.may (hasK kvs))) σ := by simpa using q []
    obtain ⟨hfk, hfc⟩ := hf
    have hkl : p.kids.length < 1000 := hfk
    refine CallOk.go TO rfl rfl ?_
    have run : ∀ {sc : Scope} {scope : Scope} {ρ : Loc} {elt : Expr} {K : QE}, (∀ jk, K (.ref (σ ++ .list (p.kids.map Pt.v) :: jk).length) (σ ++ .list (p.kids.map Pt.v) :: jk ++ [.list (p.kids.map fun k => V.bool (k.may (hasK kvs)))])) →
        (∀ (k : Pt) {Z : QE} {σ' : Hp}, Cal (T12 w s) (d + n + 1) X (.glob "may_be_empty") [k.v, .ref b] Z σ' → EvOk (T12 w s) (d + n + 1) (relab scope sc) (upd (compLoc scope ρ) "one" (some k.v)) X elt Z σ') →
        CompOk (T12 w s) (d + n + 1) sc ρ X scope "one" [] elt K (.ref σ.length) (σ ++ [.list (p.kids.map Pt.v)]) := fun {sc scope ρ elt K} hK he =>
      ⟨p.kids.map Pt.v, fun i acc σ' => acc = (p.kids.take i).map (fun k => V.bool (k.may (hasK kvs))) ∧ ∃ junk, σ' = σ ++ .list (p.kids.map Pt.v) :: junk, ⟨by simp, [], rfl⟩, fun i acc σ' hJ => by
        obtain ⟨rfl, junk, rfl⟩ := hJ
        exact ⟨iter_list get0, by simp only [List.length_map, List.length_take]; exact szo (by (clear hb ih hn q q0 hK he; lia))⟩, fun acc σ' hJ => by
        obtain ⟨rfl, junk, rfl⟩ := hJ
        rw [List.length_map, List.take_length]
        exact hK junk, fun i y acc σ' hJ hy => by
        obtain ⟨rfl, junk, rfl⟩ := hJ
        obtain ⟨k, hk, rfl⟩ := map_at hy
        have hm := List.mem_of_getElem? hk
        refine he k ⟨ih k (by have := Pt.kids_deep hm; (clear hk hkl hb ih q q0 hK he; lia)) (hfc k hm) (get_up hb) fun jk => ⟨?_, junk ++ jk, by simp⟩⟩
        rw [take_next hk, List.map_append]; rfl⟩
    have wi : ∀ {K : QE}, K (.ref σ.length) (σ ++ [.list (p.kids.map Pt.v)]) → Cal (T12 w s) (d + n + 1) X (.glob "within") [p.v] K σ := fun {K} k => ⟨fn_within (d := d + n) TO (szo (by (clear hb ih hn q q0 k run; exact Nat.le_of_lt (Nat.lt_trans hfk (Nat.le_add_left (Nat.succ 1000) 16776215))))) k⟩
    have el : ∀ {ps : List Pt}, allB (ps.map fun k => V.bool (k.may (hasK kvs))) = some (ps.map (Pt.may (hasK kvs))) := allB_map _ _
    cases p with
    | many p => exact q0
    | nt p => exact q0
    | rule m => exact Cmp.keys hb q0
    | row ps =>
      refine wi <| run (fun jk => Cal.mk (CallOk.all get_new el ?_)) fun k Z σ' h => vE_ok TO rfl 40 _ _ _ h
      have := q (.list (ps.map Pt.v) :: jk ++ [.list (ps.map fun k => V.bool (k.may (hasK kvs)))])
      rw [may_all, ← List.append_assoc] at this
      exact this
    | alt ps =>
      refine wi <| run (fun jk => Cal.mk (CallOk.any get_new el ?_)) fun k Z σ' h => vE_ok TO rfl 40 _ _ _ h
      have := q (.list (ps.map Pt.v) :: jk ++ [.list (ps.map fun k => V.bool (k.may (hasK kvs)))])
      rw [may_any, ← List.append_assoc] at this
      exact this
    | sign c =>
      refine wi <| run (fun jk => ?_) fun k Z σ' h => vE_ok TO rfl 40 _ _ _ h
      have := q (.list [] :: jk ++ [.list []])
      rw [← List.append_assoc] at this
      exact this
    | span a b =>
      refine wi <| run (fun jk => ?_) fun k Z σ' h => vE_ok TO rfl 40 _ _ _ h
      have := q (.list [] :: jk ++ [.list []])
      rw [← List.append_assoc] at this
      exact this
    | any =>
      refine wi <| run (fun jk => ?_) fun k Z σ' h => vE_ok TO rfl 40 _ _ _ h
      have := q (.list [] :: jk ++ [.list []])
      rw [← List.append_assoc] at this
      exact this
end Mine

open PySem PySem.W PyProof.Rows
set_option maxRecDepth 100000
namespace Mine
variable {w : World} {s : Shared} {d : Nat}
set_option maxHeartbeats 4000000

theorem drop_at {α : Type} {l : List α} {i : Nat} {k : α} (hk : l[i]? = some k) : l.drop i = k :: l.drop (i + 1) := by
  obtain ⟨hi, e⟩ := List.getElem?_eq_some_iff.mp hk
  rw [← e]; exact List.drop_eq_getElem_cons hi
/-- what ahead has found so far -/
inductive J12j (p : Pt) (b : Nat) (σ : Hp) (B : Str → Bool) (i : Nat) (ρ' : Loc) (σ' : Hp) : Prop where
  | mk (r : Nat) (acc : List Str) (junk : Hp) (q0 : Has ρ' [("found", .ref r), ("part", .tup (.str p.word :: p.rest)), ("bare", .ref b)]) (q3 : σ.length ≤ r) (q4 : σ' = σ ++ junk) (q7 : σ'[σ.length + 1]? = some (.list (p.kids.map Pt.v))) (q5 : σ'[r]? = some (.list (acc.map V.str))) (q6 : acc ++ ahdK B (p.word == "row") (p.kids.drop i) = ahdK B (p.word == "row") p.kids) : J12j p b σ B i ρ' σ'
theorem fn_ahead (TO : TopOk (T12 w s)) {b : Nat} {kvs : List (Str × V)} : ∀ (n : Nat) (p : Pt) {X : QX} {Q : QE} {σ : Hp}, p.deep ≤ n → p.size < 100000 → Pt.All Pt.few p → σ[b]? = some (.sdict kvs) →
    (∀ r junk, σ.length ≤ r → (σ ++ junk)[r]? = some (.list ((p.ahd (hasK kvs)).map V.str)) → Q (.ref r) (σ ++ junk)) → CallOk (T12 w s) (d + n + 1) X (.glob "ahead") [p.v, .ref b] Q σ := by
  intro n
  induction n with
  | zero => intro p X Q σ hn; exact absurd (Pt.deep_pos p) (by lia)
  | succ n ih =>
    intro p X Q σ hn hsz hf hb q
    obtain ⟨hfk, hfc⟩ := hf
    have hkl : p.kids.length < 1000 := hfk
    rw [p.head]
    refine CallOk.go TO rfl rfl ?_
    by_cases h3 : p.word = "rule"
    · obtain ⟨m, rfl⟩ := Pt.word_rule h3
      exact q _ _ (Nat.le_refl _) (by simp [Pt.ahd])
    have wi : ∀ {σ' : Hp} {K : QE}, K (.ref σ'.length) (σ' ++ [.list (p.kids.map Pt.v)]) → Cal (T12 w s) (d + n + 1) X (.glob "within") [.tup (.str p.word :: p.rest)] K σ' := fun {σ' K} k => ⟨by rw [← p.head]; exact fn_within (d := d + n) TO (szo (by (clear hb ih hn q k hsz; exact Nat.le_of_lt (Nat.lt_trans hfk (Nat.le_add_left (Nat.succ 1000) 16776215))))) k⟩
    refine Br.f (by simpa using h3) <| wi ?_
    have htot : (ahdK (hasK kvs) (p.word == "row") p.kids).length ≤ p.size := by
      rw [← Pt.ahd_kids h3]; exact Pt.ahd_size _ _
    have done : ∀ {r : Nat} {acc : List Str} {jk : Hp}, σ.length ≤ r → (σ ++ jk)[r]? = some (.list (acc.map V.str)) → acc = ahdK (hasK kvs) (p.word == "row") p.kids → Q (.ref r) (σ ++ jk) := fun {r acc jk} h1 h2 h3' => by
      rw [h3', ← Pt.ahd_kids h3] at h2
      exact q r _ h1 h2
    refine ⟨p.kids.map Pt.v, J12j p b σ (hasK kvs), ⟨σ.length, [], [.list [], .list (p.kids.map Pt.v)], ⟨rfl, rfl, rfl, trivial⟩, Nat.le_refl _, by simp, by simp, by simp, by simp⟩, fun i ρ' σ' hJ => ?_, fun ρ' σ' hJ => ?_, fun i x ρ' σ' hJ hx => ?_⟩
    · obtain ⟨r, acc, junk, _, _, _, h7, _⟩ := hJ
      refine iter_list ?_
      simp only [List.length_append, List.length_cons, List.length_nil, h7]
    · obtain ⟨r, acc, junk, a1, a4, rfl, a7, a5, a6⟩ := hJ
      obtain ⟨r', rfl⟩ := a1.use
      rw [List.length_map, List.drop_length, ahdK, List.append_nil] at a6
      exact done a4 a5 a6
    · obtain ⟨r, acc, junk, a1, a4, rfl, a7, a5, a6⟩ := hJ
      obtain ⟨r', rfl⟩ := a1.use
      obtain ⟨k, hk, rfl⟩ := map_at hx
      have hm := List.mem_of_getElem? hk
      have hkd := Pt.kids_deep hm
      rw [drop_at hk, ahdK] at a6
      have hlen : (acc ++ k.ahd (hasK kvs)).length ≤ p.size := by
        have := congrArg List.length a6
        simp only [List.length_append] at this ⊢
        (clear hkd a4 a5 a6 a7 hk ih hn hsz hb q hkl done; lia)
      refine ⟨_, rfl, vB_ok TO rfl 60 _ _ _ _ <| Cal.mk <| ih k (by (clear htot hlen hk a5 a6 a7 q hkl a4 hsz hb ih done; lia)) (by have := Pt.size_mem hm; (clear hlen htot a5 a6 a7 hk hkd q hkl a4 hb ih hn done; exact Nat.le_trans (Nat.le_of_lt (Nat.lt_of_le_of_lt this hsz)) (of_decide_eq_true (id (Eq.refl true))))) (hfc k hm) (get_up hb) fun r2 jk hr2 hl2 => Bin.lists (get_up a5) hl2 (by simp only [List.length_map]; simp only [List.length_append] at hlen; exact szo (by (clear hl2 hr2 a6 a7 hk hkd htot q hkl a4 a5 hb ih hn done; exact Nat.le_trans (Nat.le_of_lt (Nat.lt_of_le_of_lt (by assumption) (by assumption))) (by decide)))) ?_⟩
      rw [← List.map_append]
      have hle : σ.length ≤ (σ ++ junk ++ jk).length := by simp only [List.length_append]; lia
      have hgn : ∀ {j3 : Hp}, (σ ++ junk ++ jk ++ [MObj.list ((acc ++ k.ahd (hasK kvs)).map V.str)] ++ j3)[(σ ++ junk ++ jk).length]? = some (.list ((acc ++ k.ahd (hasK kvs)).map V.str)) := by
        intro j3; exact get_up get_new
      have hap : ∀ {j3 : Hp}, σ ++ junk ++ jk ++ [MObj.list ((acc ++ k.ahd (hasK kvs)).map V.str)] ++ j3 = σ ++ (junk ++ (jk ++ ([MObj.list ((acc ++ k.ahd (hasK kvs)).map V.str)] ++ j3))) := by
        intro j3; simp only [List.append_assoc]
      have next : ∀ {j3 : Hp} {ρ : Loc}, Has ρ [("found", .ref (σ ++ junk ++ jk).length), ("part", .tup (.str p.word :: p.rest)), ("bare", .ref b)] → (acc ++ k.ahd (hasK kvs)) ++ ahdK (hasK kvs) (p.word == "row") (p.kids.drop (i + 1)) = ahdK (hasK kvs) (p.word == "row") p.kids → J12j p b σ (hasK kvs) (i + 1) ρ (σ ++ junk ++ jk ++ [MObj.list ((acc ++ k.ahd (hasK kvs)).map V.str)] ++ j3) := fun {j3 ρ} h1 h2 => ⟨_, acc ++ k.ahd (hasK kvs), _, h1, hle, hap, get_up (get_up (get_up a7)), hgn, h2⟩
      by_cases h4 : p.word = "row"
      · have e4 : (p.word == "row") = true := by simpa using h4
        rw [e4] at a6 done next
        refine Br.t e4 <| Cal.mk <| fn_may (d := d) TO n k (by (clear hlen hr2 hl2 htot a6 a7 hk q hkl a4 a5 hsz hb ih done hle hgn hap next; lia)) (hfc k hm) (get_up (get_up (get_up hb))) fun jk3 => Br.mk (fun hm => ?_) fun hm => ?_
        · rw [Bool.not_eq_true'] at hm
          have := hgn (j3 := jk3)
          rw [hap] at this ⊢
          exact done hle this (by rw [← a6, hm]; simp)
        · rw [Bool.not_eq_false'] at hm
          exact next ⟨rfl, rfl, rfl, trivial⟩ (by rw [← a6, hm]; simp)
      · have e4 : (p.word == "row") = false := by simpa using h4
        have := next (j3 := []) (ρ := upd (upd (locs r' [("found", .ref r), ("part", .tup (.str p.word :: p.rest)), ("bare", .ref b)]) "one" (some k.v)) "found" (some (.ref (σ ++ junk ++ jk).length))) ⟨rfl, rfl, rfl, trivial⟩ (by rw [e4] at a6 ⊢; rw [← a6]; simp)
        rw [List.append_nil] at this
        exact Br.f e4 this
end Mine

open PySem PySem.W PyProof.Rows
set_option maxRecDepth 100000
namespace Mine
variable {w : World} {s : Shared} {d : Nat} {X : QX} {Q : QE} {σ : Hp}
set_option maxHeartbeats 4000000

/-- a method that the class has, a field that it lets be -/
noncomputable def MetAt (T : Tp) (C : Addr) (x : Str) : Prop := ∃ fa, PySem.W.findIn T.K (.ref C) x = some (some (.ref fa)) ∧ PySem.W.typeIn T.K (.ref fa) = some (.type "function") ∧ PySem.W.keepIn T.K (.ref fa) = true
noncomputable def FldAt (T : Tp) (C : Addr) (x : Str) : Prop := PySem.W.findIn T.K (.ref C) x = some none ∧ PySem.W.takerIn T.K C x = some none
structure GrCls (T : Tp) (C : Addr) : Prop where
  cls : ClsAt T "Grammar" C
  pairs : FldAt T C "pairs"
  table : FldAt T C "table"
  bare : FldAt T C "bare"
  leads : FldAt T C "leads"
  comes_back : MetAt T C "comes_back"
  need : MetAt T C "need"
  names : MetAt T C "names"
  part : MetAt T C "part"
  asked : MetAt T C "asked"
theorem gr_cls : ∃ C, GrCls (T12 w s) C := ⟨_, ⟨rfl, rfl, rfl, rfl, rfl, rfl⟩, ⟨rfl, rfl⟩, ⟨rfl, rfl⟩, ⟨rfl, rfl⟩, ⟨rfl, rfl⟩, ⟨_, rfl, rfl, rfl⟩, ⟨_, rfl, rfl, rfl⟩, ⟨_, rfl, rfl, rfl⟩, ⟨_, rfl, rfl, rfl⟩, ⟨_, rfl, rfl, rfl⟩⟩

/-- an own method of an object -/
theorem MethOk.own {T : Tp} {l : Nat} {c name : Str} {gs : List (Str × V)} {C : Addr} {K : V → Prop} (h1 : σ[l]? = some (.inst c gs)) (h2 : gs.lookup name = none) (hc : ClsAt T c C) (hf : MetAt T C name) (k : K (.mth c name)) : MethOk T (.ref l) name σ K := by
  obtain ⟨fa, h3, h4, h5⟩ := hf
  exact ⟨_, .mth l c gs C fa h1 h2 hc h3 h4 h5, k⟩
theorem AttrOk.of {T : Tp} {l : Nat} {c attr : Str} {gs : List (Str × V)} {C : Addr} {v : V} (h1 : σ[l]? = some (.inst c gs)) (h2 : gs.lookup attr = some v) (h3 : handV v = true) (hc : ClsAt T c C) (hf : FldAt T C attr) (q : Q v σ) : AttrOk T attr Q (.ref l) σ := ⟨l, c, gs, v, C, rfl, h1, h2, h3, hc, hf.1, q⟩
theorem SetAttrOk.of {T : Tp} {l : Nat} {c attr : Str} {gs : List (Str × V)} (gs' : List (Str × V)) {C : Addr} {v : V} {ρ : Loc} {K : QS} (h1 : σ[l]? = some (.inst c gs)) (hc : ClsAt T c C) (hf : FldAt T C attr) (h4 : gs.length < 1000) (e : setKV gs attr v = gs') (q : K .next ρ (σ.set l (.inst c gs'))) : SetAttrOk T attr ρ K v (.ref l) σ := ⟨l, c, gs, C, rfl, h1, hc, hf.2, h4, by rw [e]; exact q⟩
theorem SetItemOk.of {l : Nat} {k : Str} {kvs : List (Str × V)} {v : V} {ρ : Loc} {K : QS} (h1 : σ[l]? = some (.sdict kvs)) (h2 : kvs.length ≤ 1000000) (q : K .next ρ (σ.set l (.sdict (setKV kvs k v)))) : SetItemOk ρ K v (.ref l) (.str k) σ := .mk l k kvs rfl rfl h1 (szo (by exact Nat.le_of_lt (Nat.lt_of_le_of_lt h2 (Nat.le_add_left (Nat.succ 1000000) 15777215)))) q
theorem Itm.dict {l : Nat} {k : Str} {kvs : List (Str × V)} {v : V} (h1 : σ[l]? = some (.sdict kvs)) (h2 : getKV kvs k = some v) (q : Q v σ) : Itm (.ref l) (.str k) Q σ := ⟨⟨v, .dict _ _ _ _ h1 h2, q⟩⟩

theorem cb_few {m r x : Nat} (hx : x ≤ (m + 1) * 100000) (hm : m ≤ r) (hr : r ≤ 40) : x ≤ 4100000 := Nat.le_trans hx (Nat.mul_le_mul_right 100000 (Nat.succ_le_succ (Nat.le_trans hm hr)))
theorem cb_less {r m i a : Nat} (h : m + 1 ≤ r) (ha : a < 100000) : (r - (m + 1)) * 100001 + (i + a) < (r - m) * 100001 + (i + 1) := by
  obtain ⟨k, rfl⟩ := Nat.exists_eq_add_of_le h
  rw [Nat.add_sub_cancel_left, show m + 1 + k - m = k + 1 by rw [Nat.add_assoc, Nat.add_sub_cancel_left, Nat.add_comm], Nat.succ_mul, Nat.add_assoc]
  refine Nat.add_lt_add_left ?_ _
  rw [Nat.add_comm i a, Nat.add_comm i 1, ← Nat.add_assoc]
  exact Nat.add_lt_add_right (Nat.lt_trans ha (by decide)) i
theorem cb_next {m i a : Nat} (h : i + 1 ≤ (m + 1) * 100000) (ha : a < 100000) : i + a ≤ (m + 1 + 1) * 100000 := Nat.le_trans (Nat.add_le_add (Nat.le_of_succ_le h) (Nat.le_of_lt ha)) (Nat.le_of_eq (Nat.succ_mul (m + 1) 100000).symm)
inductive J12k (rs : List (Str × Pt)) (B : Str → Bool) (r : Str × Pt) (g : Nat) (σ : Hp) (n : Nat) (ρ' : Loc) (σ' : Hp) : Prop where
  | mk (ms : List Str) (ws : List Str) (q0 : n = (rs.length - ms.length) * 100001 + ws.length) (q1 : Seek rs B r.1 ms ws) (q2 : ws.length ≤ (ms.length + 1) * 100000) (q3 : Has ρ' [("self", .ref g), ("name", .str r.1), ("met", .ref σ.length), ("waiting", .ref (σ.length + 1))]) (q7 : σ' = σ ++ .sdict (metKV ms) :: [.list (ws.map V.str)]) : J12k rs B r g σ n ρ' σ'
theorem fn_comes_back (TO : TopOk (T12 w s)) {rs : List (Str × Pt)} {B : Str → Bool} (hg : GoodRules rs) {g e : Nat} {gs : List (Str × V)} {kl : List (Str × V)} (h1 : σ[g]? = some (.inst "Grammar" gs)) (h2 : gs.lookup (Str.ofString "leads") = some (.ref e)) (h3 : σ[e]? = some (.sdict kl)) {lo : Nat} (hL : LeadsAt rs B kl lo σ)
    {r : Str × Pt} (hr : r ∈ rs) (q : ∀ c junk, (c = true ↔ Rch rs B r.1 r.1) → Q (.bool c) (σ ++ junk)) : CallOk (T12 w s) (d + 1) X (.mth "Grammar" "comes_back") [.ref g, .str r.1] Q σ := by
  obtain ⟨C, hC⟩ := gr_cls (w := w) (s := s)
  refine CallOk.goM TO rfl rfl ?_
  obtain ⟨j, _, hj1, hj2⟩ := hL r hr
  have hm := hg.most
  have hsz : ∀ r ∈ rs, (r.2.ahd B).length < 100000 := fun r hr => Nat.lt_of_le_of_lt (Pt.ahd_size ..) (hg.all r hr).size
  refine AttrOk.of (get_up h1) h2 rfl hC.cls hC.leads <| Itm.dict (get_up h3) hj1 <| Cal.list (vs := (r.2.ahd B).map V.str) (seq_list (get_up hj2)) (by simp only [List.length_map]; have := hsz r hr; exact szo (by (clear q hsz hm h1 h3 hj2; exact Nat.le_of_lt (Nat.lt_trans this (Nat.le_add_left (Nat.succ 100000) 16677215))))) <| Stx.mk <|
    StOk.while (J12k rs B r g σ) (rs.length * 100001 + (r.2.ahd B).length) ⟨[], r.2.ahd B, by simp, ⟨by simp, by simp, fun y hy => .one ⟨r, hr, rfl, hy⟩, fun y hy => .inr (Lead.uniq hg.nodup hr hy), by simp⟩, by have := hsz r hr; simp; (clear q hsz hm h1 h3 hj2; exact Nat.le_of_lt this), ⟨rfl, rfl, rfl, by simp [upd], trivial⟩, by simp [metKV]⟩ ?_
  rintro n ρ' σ' ⟨ms, ws, hn, hS, hwl, hρ, hσ⟩
  subst hn hσ
  obtain ⟨ρ₀, rfl⟩ := hρ.use
  have hms : ms.length ≤ rs.length := by
    have := len_sub (ns := rs.map (·.1)) hS.nodup fun x hx => by
      obtain ⟨r', a, b⟩ := hg.lead (hS.mr x hx)
      exact List.mem_map.mpr ⟨r', a, b⟩
    simpa using this
  refine vT_ok TO rfl 40 10 _ _ _ <| tvc.of (b := !(ws.map V.str).isEmpty) ?_ ?_
  · exact truth_list get1 (by rw [List.length_map]; exact Nat.lt_of_le_of_lt (cb_few hwl hms hm) (by decide))
  rcases List.eq_nil_or_concat ws with rfl | ⟨init, y, rfl⟩
  · refine ite_no (by simp) ?_
    refine Cmp.met (neg := false) (ns := ms) get0 (q _ _ ?_)
    rw [Bool.false_bne]; exact hS.end
  refine ite_yes (by simp) ?_
  rw [List.concat_eq_append] at hS hwl ⊢
  obtain ⟨r', hr', hy⟩ := hg.lead (hS.wr y (by simp))
  subst hy
  simp only [List.length_append, List.length_cons, List.length_nil] at hwl
  refine vB_ok TO rfl 60 _ _ _ _ <| MethOk.pop get1 <| Cal.mk <| CallOk.pop (v := .str r'.1) (vs := init.map V.str) (by rw [get1]; simp) (by simp only [List.length_map]; exact szo (Nat.le_trans (cb_few hwl hms hm) (by decide))) ?_
  rw [set1]
  refine Cmp.met (neg := true) (ns := ms) get0 <| Br.mk (fun hin => ?_) fun hin => ?_
  · have hin : r'.1 ∉ ms := by simpa using hin
    obtain ⟨j', _, hj1', hj2'⟩ := hL r' hr'
    have := hsz r' hr'
    have hms' : ms.length + 1 ≤ rs.length := by
      have := len_sub (ms := ms ++ [r'.1]) (ns := rs.map (·.1)) (by rw [List.nodup_append]; exact ⟨hS.nodup, by simp, fun a ha b hb => by cases List.mem_singleton.mp hb; exact fun e => hin (e ▸ ha)⟩) fun x hx => by
        rcases List.mem_append.mp hx with g | g
        · obtain ⟨r', a, b⟩ := hg.lead (hS.mr x g)
          exact List.mem_map.mpr ⟨r', a, b⟩
        · cases List.mem_singleton.mp g; exact List.mem_map.mpr ⟨r', hr', rfl⟩
      simpa using this
    refine SetItemOk.of get0 (by simp only [metKV, List.length_map]; (clear q hsz hj2 h1 h3; exact Nat.le_trans (Nat.le_trans (by assumption) (by assumption)) (by decide))) ?_
    rw [set0, metKV_set hin]
    refine MethOk.extend get1 <| AttrOk.of (get_up h1) h2 rfl hC.cls hC.leads <| Itm.dict (get_up h3) hj1' <| Cal.mk <| CallOk.extend (vs := init.map V.str) (us := (r'.2.ahd B).map V.str) get1 (get_up hj2') (by simp only [List.length_map]; exact szo (Nat.le_trans (Nat.add_le_add (cb_few (Nat.le_of_succ_le hwl) hms hm) (Nat.le_of_lt this)) (by decide))) ?_
    rw [set1]
    refine ⟨_, ?_, ms ++ [r'.1], init ++ r'.2.ahd B, rfl, hS.new hg.nodup hr' hin, ?_, ⟨rfl, rfl, rfl, rfl, trivial⟩, by rw [List.map_append]⟩
    · simp only [List.length_append, List.length_cons, List.length_nil]
      exact cb_less hms' this
    · simp only [List.length_append, List.length_cons, List.length_nil]; exact cb_next hwl this
  · have hin : r'.1 ∈ ms := by simpa using hin
    refine ⟨_, ?_, ms, init, rfl, hS.old hin, by (clear q hms hsz h1 h3 hj2 hm; exact Nat.le_of_lt hwl), ⟨rfl, rfl, rfl, rfl, trivial⟩, rfl⟩
    simp only [List.length_append, List.length_cons, List.length_nil]; (clear q hsz hj2 h1 h3; exact Nat.le_refl ((rs.length - ms.length) * 100001 + init.length).succ)
end Mine

open PySem PySem.W PyProof.Rows
set_option maxRecDepth 100000
namespace Mine
variable {w : World} {s : Shared} {d : Nat} {X : QX} {Q : QE} {σ : Hp}
set_option maxHeartbeats 4000000

theorem Mk.has {σ σ' : Hp} {l : Nat} {fs : List (Str × V)} {ρ' : Loc} (h : Mk σ l fs ρ' σ') : Has ρ' [("self", .ref σ.length), ("rules", .ref l)] := ⟨h.self, h.ru, trivial⟩
theorem Mk.loc {σ σ' : Hp} {l : Nat} {fs : List (Str × V)} {ρ' ρ₂ : Loc} (h : Mk σ l fs ρ' σ') (hρ : Has ρ₂ [("self", .ref σ.length), ("rules", .ref l)]) : Mk σ l fs ρ₂ σ' := ⟨hρ.1, hρ.2.1, h.pre, h.obj⟩
/-- a grammar while it is made: pairs, table, bare -/
inductive Gm (rs : List (Str × Pt)) (σ : Hp) (l a b c : Nat) (bs : List Str) (ρ' : Loc) (σ' : Hp) : Prop where
  | mk (q1 : Mk σ l [("pairs", .ref a), ("table", .ref b), ("bare", .ref c)] ρ' σ') (q2 : σ'[a]? = some (.list (rs.map ruleV))) (q3 : σ'[b]? = some (.sdict (tabKV rs))) (q4 : σ'[c]? = some (.sdict (metKV bs))) : Gm rs σ l a b c bs ρ' σ'
theorem Gm.up {rs : List (Str × Pt)} {σ σ' : Hp} {l a b c : Nat} {bs : List Str} {ρ' : Loc} {jk : Hp} (h : Gm rs σ l a b c bs ρ' σ') : Gm rs σ l a b c bs ρ' (σ' ++ jk) := by
  obtain ⟨h1, h2, h3, h4⟩ := h
  exact ⟨h1.up, get_up h2, get_up h3, get_up h4⟩
theorem Gm.loc {rs : List (Str × Pt)} {σ σ' : Hp} {l a b c : Nat} {bs : List Str} {ρ' ρ₂ : Loc} (h : Gm rs σ l a b c bs ρ' σ') (hρ : Has ρ₂ [("self", .ref σ.length), ("rules", .ref l)]) : Gm rs σ l a b c bs ρ₂ σ' := by
  obtain ⟨h1, h2, h3, h4⟩ := h
  exact ⟨h1.loc hρ, h2, h3, h4⟩
theorem Gm.put {rs : List (Str × Pt)} {σ σ' : Hp} {l a b c : Nat} {bs bs' : List Str} {ρ' : Loc} (h : Gm rs σ l a b c bs ρ' σ') (ha : σ.length < a) (hb : a < b) (hc : b < c) : Gm rs σ l a b c bs' ρ' (σ'.set c (.sdict (metKV bs'))) := by
  obtain ⟨h1, h2, h3, h4⟩ := h
  exact ⟨h1.put (by clear h2 h3 h4; lia), by rw [get_set_ne (by clear h2 h3 h4; exact Nat.ne_of_gt (Nat.lt_trans hb hc))]; exact h2, by rw [get_set_ne (by clear h2 h3 h4; exact Nat.ne_of_gt hc)]; exact h3, get_set h4⟩
inductive J12l4 (σ : Hp) (l a b : Nat) (rs : List (Str × Pt)) (i : Nat) (ρ' : Loc) (σ' : Hp) : Prop where
  | mk (q0 : Mk σ l [("pairs", .ref a), ("table", .ref b)] ρ' σ') (q1 : σ'[a]? = some (.list (rs.map ruleV))) (q2 : σ'[b]? = some (.sdict (tabKV (rs.take i)))) : J12l4 σ l a b rs i ρ' σ'
inductive J12l7 (rs : List (Str × Pt)) (σ : Hp) (l a b c : Nat) (n : Nat) (ρ' : Loc) (σ' : Hp) : Prop where
  | mk (bs : List Str) (gr : Bool) (q0 : n = 2 * (rs.length - bs.length) + (if gr then 1 else 0)) (q1 : ρ' "growing" = some (.bool gr)) (q2 : Grow rs bs) (q3 : gr = false → ∀ r ∈ rs, r.2.may (inB bs) = true → r.1 ∈ bs) (q4 : Gm rs σ l a b c bs ρ' σ') : J12l7 rs σ l a b c n ρ' σ'
inductive J12l8 (rs : List (Str × Pt)) (bs : List Str) (σ : Hp) (l a b c : Nat) (i : Nat) (ρ₂ : Loc) (σ₂ : Hp) : Prop where
  | mk (bs' : List Str) (gr' : Bool) (q0 : ρ₂ "growing" = some (.bool gr')) (q1 : Grow rs bs') (q2 : gr' = true → bs.length < bs'.length) (q3 : gr' = false → bs' = bs ∧ ∀ r ∈ rs.take i, r.2.may (inB bs) = true → r.1 ∈ bs) (q4 : Gm rs σ l a b c bs' ρ₂ σ₂) : J12l8 rs bs σ l a b c i ρ₂ σ₂
/-- and leads -/
inductive J12l11 (σ : Hp) (l a b c e : Nat) (rs : List (Str × Pt)) (bs : List Str) (i : Nat) (ρ' : Loc) (σ' : Hp) : Prop where
  | mk (q0 : Mk σ l [("pairs", .ref a), ("table", .ref b), ("bare", .ref c), ("leads", .ref e)] ρ' σ') (q1 : σ'[a]? = some (.list (rs.map ruleV))) (q2 : σ'[b]? = some (.sdict (tabKV rs))) (q3 : σ'[c]? = some (.sdict (metKV bs))) (kl : List (Str × V)) (q4 : σ'[e]? = some (.sdict kl)) (q5 : kl.length ≤ i) (q6 : LeadsAt (rs.take i) (inB bs) kl σ.length σ') : J12l11 σ l a b c e rs bs i ρ' σ'
inductive J12l12 (σ σ₈ : Hp) (rs : List (Str × Pt)) (bs : List Str) (i : Nat) (ρ' : Loc) (σ' : Hp) : Prop where
  | mk (q0 : Has ρ' [("self", .ref σ.length)]) (jk : Hp) (q1 : σ' = σ₈ ++ jk) (q2 : ∀ r ∈ rs.take i, ¬ Rch rs (inB bs) r.1 r.1) : J12l12 σ σ₈ rs bs i ρ' σ'

theorem fn_init (TO : TopOk (T12 w s)) {rs : List (Str × Pt)} {l : Nat} (hl : σ[l]? = some (.list (rs.map ruleV))) (hg : GoodRules rs) (q : ∀ bs junk, Bare rs bs → (∀ r ∈ rs, ¬ Rch rs (inB bs) r.1 r.1) → GrAt rs bs σ.length (σ ++ junk) → Q (.ref σ.length) (σ ++ junk)) (qx : ∀ bs junk, Bare rs bs → (∃ r ∈ rs, Rch rs (inB bs) r.1 r.1) → X "Circling" (σ ++ junk)) : CallOk (T12 w s) (d + 18) X (.glob "Grammar") [.ref l] Q σ := by
  obtain ⟨C, hC⟩ := gr_cls (w := w) (s := s)
  have hm := hg.most
  refine CallOk.make TO rfl rfl rfl rfl <| CodeOk.goM TO rfl rfl ?_
  refine Cal.mk <| fn_need_rules TO (get_up hl) hg fun junk => ?_
  have h1 : Mk σ l [] (bindLoc (fun _ => none) ["self", "rules"] [.ref σ.length, .ref l]) (σ ++ [.inst "Grammar" []] ++ junk) := ⟨rfl, rfl, ⟨[.inst "Grammar" []] ++ junk, by rw [List.append_assoc]⟩, get_up get_new⟩
  generalize (σ ++ [.inst "Grammar" []] ++ junk) = σ₁ at h1
  -- pairs
  refine Cal.list (vs := rs.map ruleV) (seq_list (h1.rules hl)) (by simp only [List.length_map]; exact szo (by (clear hl; exact Nat.le_of_lt (Nat.lt_of_le_of_lt hm (Nat.le_add_left (Nat.succ 40) 16777175))))) <| SetAttrOk.of [("pairs", .ref σ₁.length)] (get_up h1.4) hC.cls hC.pairs (by decide) rfl ?_
  refine and4 (h1.field (o := .list (rs.map ruleV)) (fs' := [("pairs", .ref σ₁.length)])) fun h2 h2a ha _ => ?_
  generalize σ₁.length = a at h2 h2a ha
  generalize (σ₁ ++ [MObj.list (rs.map ruleV)]).set σ.length (.inst "Grammar" [("pairs", .ref a)]) = σ₂ at h2 h2a
  clear h1
  -- table
  refine SetAttrOk.of [("pairs", .ref a), ("table", .ref σ₂.length)] (get_up h2.4) hC.cls hC.table (by simp) rfl ?_
  refine and4 (h2.field (o := .sdict []) (fs' := [("pairs", .ref a), ("table", .ref σ₂.length)])) fun h3 h3b _ f4 => ?_
  have h3a := f4 a _ (by (clear h2a h3b f4 hl; exact Nat.ne_of_gt ha)) h2a
  have hb := get_lt h2a
  clear h2a f4
  generalize σ₂.length = b at h3 h3a h3b hb
  generalize (σ₂ ++ [MObj.sdict []]).set σ.length (.inst "Grammar" [("pairs", .ref a), ("table", .ref b)]) = σ₃ at h3 h3a h3b
  clear h2
  refine ForOk.mk (rs.map ruleV) (J12l4 σ l a b rs) ⟨h3, h3a, by simpa [tabKV] using h3b⟩ (fun i ρ' σ' hJ => ?_) (fun ρ' σ' hJ => ?_) fun i x ρ' σ' hJ hx => ?_
  · obtain ⟨j1, _, _⟩ := hJ
    exact iter_list (j1.rules hl)
  rotate_left
  · obtain ⟨j1, j2, j3⟩ := hJ
    obtain ⟨r, hr, rfl⟩ := map_at hx
    rw [← Has.eq j1.has]
    refine ⟨_, rfl, vB_ok TO rfl 60 _ _ _ _ <| AttrOk.of j1.4 rfl rfl hC.cls hC.table <| SetItemOk.of j3 (by simp only [tabKV, List.length_map, List.length_take]; (clear h3a h3b j2 j3 hr hl; lia)) ?_⟩
    refine ⟨(j1.put (by (clear h3a h3b j2 j3 hr hl; exact Nat.le_of_lt (Nat.lt_of_le_of_lt ha hb)))).loc ⟨rfl, rfl, trivial⟩, ?_, ?_⟩
    · rw [get_set_ne (by (clear h3a h3b j2 j3 hr hl; exact Nat.ne_of_gt hb))]; exact j2
    · rw [get_set j3, tabKV_set (nodup_take hg.nodup hr), take_next hr]
  clear h3 h3a h3b
  obtain ⟨h4, h4a, h4b⟩ := hJ
  rw [List.length_map, List.take_length] at h4b
  rw [← Has.eq h4.has]
  generalize σ' = σ₄ at h4 h4a h4b
  -- bare
  refine SetAttrOk.of [("pairs", .ref a), ("table", .ref b), ("bare", .ref σ₄.length)] (get_up h4.4) hC.cls hC.bare (by simp) rfl ?_
  refine and4 (h4.field (o := .sdict []) (fs' := [("pairs", .ref a), ("table", .ref b), ("bare", .ref σ₄.length)])) fun h5 h5c _ f4 => ?_
  have h5 : Gm rs σ l a b σ₄.length [] _ _ := ⟨h5, f4 a _ (by (clear h4a h4b h5c f4 hl; exact Nat.ne_of_gt ha)) h4a, f4 b _ (by (clear h4a h4b h5c f4 hl; exact Nat.ne_of_gt (Nat.lt_trans ha hb))) h4b, h5c⟩
  have hc := get_lt h4b
  clear h5c h4a h4b f4
  generalize (σ₄ ++ [MObj.sdict []]).set σ.length (.inst "Grammar" [("pairs", .ref a), ("table", .ref b), ("bare", .ref σ₄.length)]) = σ₅ at h5
  generalize σ₄.length = c at h5 hc
  clear h4
  refine Stx.mk <| StOk.while (J12l7 rs σ l a b c) (2 * rs.length + 1) ⟨[], true, by simp, rfl, .nil rs, by simp, h5.loc ⟨rfl, rfl, trivial⟩⟩ ?_
  clear h5
  rintro n ρ' σ' ⟨bs, gr, hn, k1, k2, k3, k4⟩
  subst hn
  obtain ⟨ρ₀, rfl⟩ := (show Has ρ' [("growing", .bool gr), ("self", .ref σ.length), ("rules", .ref l)] from ⟨k1, k4.1.1, k4.1.2, trivial⟩).use
  refine vT_ok TO rfl 40 10 _ _ _ ?_
  cases gr
  rotate_left
  · show ExOk _ _ _ _ _ _ _ _
    have hbl := k2.len
    refine vB_ok TO rfl 60 _ _ _ _ <| ForOk.mk (rs.map ruleV) (J12l8 rs bs σ l a b c) ⟨bs, false, rfl, k2, by simp, fun _ => ⟨rfl, by simp⟩, k4.loc ⟨rfl, rfl, trivial⟩⟩ (fun i ρ₂ σ₂ hJ => ?_) (fun ρ₂ σ₂ hJ => ?_) fun i x ρ₂ σ₂ hJ hx => ?_
    · obtain ⟨_, _, _, _, _, _, j1⟩ := hJ
      exact iter_list (j1.1.rules hl)
    · obtain ⟨bs', gr', j1, j2, j3, j4, j5⟩ := hJ
      have hbl' := j2.len
      refine ⟨_, ?_, bs', gr', rfl, j1, j2, fun hf => ?_, j5⟩
      · cases gr'
        · rw [(j4 rfl).1]; simp
        · have := j3 rfl; simp; (clear hl j3 hbl; lia)
      · obtain ⟨e1, e2⟩ := j4 hf
        rw [List.length_map, List.take_length] at e2
        rw [e1]; exact e2
    · obtain ⟨bs', gr', j1, j2, j3, j4, j5⟩ := hJ
      obtain ⟨r, hr, rfl⟩ := map_at hx
      have hrm := List.mem_of_getElem? hr
      have hG := hg.all r hrm
      rw [← Has.eq (show Has ρ₂ [("growing", .bool gr'), ("self", .ref σ.length), ("rules", .ref l)] from ⟨j1, j5.1.1, j5.1.2, trivial⟩)]
      have keep : ∀ {ρ₃ : Loc} {jk : Hp}, Has ρ₃ [("growing", .bool gr'), ("self", .ref σ.length), ("rules", .ref l)] → (r.2.may (inB bs') = true → r.1 ∈ bs') → J12l8 rs bs σ l a b c (i + 1) ρ₃ (σ₂ ++ jk) := fun {ρ₃ jk} hρ hk => ⟨bs', gr', hρ.1, j2, j3, fun hf => ⟨(j4 hf).1, fun r' hr' hm' => by
        rw [take_next hr] at hr'
        rcases List.mem_append.mp hr' with g | g
        · exact (j4 hf).2 r' g hm'
        · cases List.mem_singleton.mp g
          rw [← (j4 hf).1] at hm' ⊢; exact hk hm'⟩, j5.up.loc hρ.2⟩
      refine ⟨_, rfl, vB_ok TO rfl 60 _ _ _ _ <| AttrOk.of j5.1.4 rfl rfl hC.cls hC.bare <| Cmp.met (neg := true) (ns := bs') j5.4 <| Br.mk (fun hin => AttrOk.of j5.1.4 rfl rfl hC.cls hC.bare <| Cal.mk <| fn_may (d := d + 3) TO 12 r.2 hG.deep hG.few j5.4 fun jk => ?_) fun hin => ?_⟩
      · rw [hasK_met]
        refine Br.mk (fun hmay => ?_) fun hmay => ?_
        · have hin : r.1 ∉ bs' := by simpa using hin
          refine AttrOk.of (get_up j5.1.4) rfl rfl hC.cls hC.bare <| SetItemOk.of (get_up j5.4) (by have := j2.len; simp only [metKV, List.length_map]; (clear hl j3 hbl j4 keep; exact Nat.le_trans (Nat.le_trans (by assumption) (by assumption)) (by decide))) ?_
          rw [metKV_set hin]
          refine ⟨bs' ++ [r.1], true, rfl, j2.add hrm hin hmay, fun _ => ?_, by simp, (j5.up.put ha hb hc).loc ⟨rfl, rfl, trivial⟩⟩
          cases gr'
          · rw [(j4 rfl).1]; simp
          · have := j3 rfl; simp; (clear hl j3 hbl j4 keep; exact Nat.lt_succ_of_lt this)
        · exact keep ⟨rfl, rfl, rfl, trivial⟩ fun h => absurd (h.symm.trans hmay) (by decide)
      · have hin : r.1 ∈ bs' := by simpa using hin
        have := keep (jk := []) (ρ₃ := upd (locs ρ₂ [("growing", .bool gr'), ("self", .ref σ.length), ("rules", .ref l)]) "pair" (some (ruleV r))) ⟨rfl, rfl, rfl, trivial⟩ fun _ => hin
        rw [List.append_nil] at this
        exact this
  show vB _ _ _ _ _ _ _ _ _
  have hbare := k2.bare (k3 rfl)
  have k2l := k2.len
  clear k3 k2 k1
  obtain ⟨h6, h6a, h6b, h6c⟩ := k4
  generalize σ' = σ₆ at h6 h6a h6b h6c
  -- leads
  refine SetAttrOk.of [("pairs", .ref a), ("table", .ref b), ("bare", .ref c), ("leads", .ref σ₆.length)] (get_up h6.4) hC.cls hC.leads (by simp) rfl ?_
  refine and4 (h6.field (o := .sdict []) (fs' := [("pairs", .ref a), ("table", .ref b), ("bare", .ref c), ("leads", .ref σ₆.length)])) fun h7 h7e _ f4 => ?_
  have he := get_lt h6c
  have h7 : J12l11 σ l a b c σ₆.length rs bs 0 _ _ := ⟨h7, f4 a _ (by (clear h6a h6b h6c h7e f4 hl; exact Nat.ne_of_gt ha)) h6a, f4 b _ (by (clear h6a h6b h6c h7e f4 hl; exact Nat.ne_of_gt (Nat.lt_trans ha hb))) h6b, f4 c _ (by (clear h6a h6b h6c h7e f4 hl; lia)) h6c, [], h7e, Nat.zero_le _, fun r hr => by simp at hr⟩
  clear h7e h6a h6b h6c f4
  generalize (σ₆ ++ [MObj.sdict []]).set σ.length (.inst "Grammar" [("pairs", .ref a), ("table", .ref b), ("bare", .ref c), ("leads", .ref σ₆.length)]) = σ₇ at h7
  generalize σ₆.length = e at h7 he
  clear h6
  refine ForOk.mk (rs.map ruleV) (J12l11 σ l a b c e rs bs) h7 (fun i ρ' σ' hJ => ?_) (fun ρ' σ' hJ => ?_) fun i x ρ' σ' hJ hx => ?_
  · obtain ⟨j1, _⟩ := hJ
    exact iter_list (j1.rules hl)
  rotate_left
  · clear h7
    obtain ⟨j1, j2, j3, j4, kl, j5, j7, j6⟩ := hJ
    obtain ⟨r, hr, rfl⟩ := map_at hx
    have hG := hg.all r (List.mem_of_getElem? hr)
    have hi : i < rs.length := (List.getElem?_eq_some_iff.mp hr).1
    rw [← Has.eq j1.has]
    refine ⟨_, rfl, vB_ok TO rfl 60 _ _ _ _ <| AttrOk.of j1.4 rfl rfl hC.cls hC.bare <| Cal.mk <| fn_ahead (d := d + 3) TO 12 r.2 hG.deep hG.size hG.few j4 fun j jk hj hjl => AttrOk.of (get_up j1.4) rfl rfl hC.cls hC.leads <| SetItemOk.of (get_up j5) (by (clear hj hjl hr j5 j3 j4 j2 hl; lia)) ?_⟩
    rw [hasK_met] at hjl
    have hek : ∀ (x : Nat) (vs : List V) (o : MObj), (σ' ++ jk)[x]? = some (.list vs) → ((σ' ++ jk).set e o)[x]? = some (.list vs) := fun x vs o hx => by
      rw [get_set_ne (fun h => ?_)]
      · exact hx
      · subst h; rw [get_up j5] at hx; cases hx
    refine ⟨(j1.up.put (by (clear j2 j3 j4 j5 hr hj hjl hek hl; lia))).loc ⟨rfl, rfl, trivial⟩, hek _ _ _ (get_up j2), ?_, ?_, _, get_set (get_up j5), ?_, ?_⟩
    · rw [get_set_ne (by (clear j2 j3 j4 j5 hr hj hjl hek hl; exact Nat.ne_of_gt (Nat.lt_trans hc he)))]; exact get_up j3
    · rw [get_set_ne (by (clear j2 j3 j4 j5 hr hj hjl hek hl; exact Nat.ne_of_gt he))]; exact get_up j4
    · rw [setKV_length]; split <;> (clear j2 j3 j4 j5 hr hj hjl hek hl; lia)
    · rw [take_next hr]
      exact (j6.up (junk := jk)).snoc (nodup_take hg.nodup hr) (fun x vs hx => hek x vs _ hx) (by have := get_lt j1.4; (clear j2 j3 j4 j5 hr hjl hek hl; lia)) (hek _ _ _ hjl)
  clear h7
  obtain ⟨h8, h8a, h8b, h8c, kl, h8e, _, h8L⟩ := hJ
  rw [List.length_map, List.take_length] at h8L
  rw [← Has.eq h8.has]
  generalize σ' = σ₈ at h8 h8a h8b h8c h8e h8L
  -- does a rule come back
  obtain ⟨junk, hj⟩ := h8.3
  refine ForOk.mk (rs.map ruleV) (J12l12 σ σ₈ rs bs) ⟨⟨rfl, trivial⟩, [], by simp, by simp⟩ (fun i ρ' σ' hJ => ?_) (fun ρ' σ' hJ => ?_) fun i x ρ' σ' hJ hx => ?_
  · obtain ⟨_, jk, rfl, _⟩ := hJ
    exact iter_list (get_up (h8.rules hl))
  · obtain ⟨_, jk, rfl, hnone⟩ := hJ
    rw [List.length_map, List.take_length] at hnone
    have hG : GrAt rs bs σ.length (σ₈ ++ jk) := GrAt.up ⟨a, b, c, e, kl, ha, hb, hc, he, h8.4, h8a, h8b, h8c, h8e, h8L⟩
    rw [hj, List.append_assoc] at hG ⊢
    exact ⟨rfl, q bs _ hbare hnone hG⟩
  · obtain ⟨hρ, jk, rfl, hnone⟩ := hJ
    obtain ⟨r, hr, rfl⟩ := map_at hx
    have hrm := List.mem_of_getElem? hr
    rw [← Has.eq hρ]
    refine ⟨_, rfl, vB_ok TO rfl 60 _ _ _ _ <| MethOk.own (get_up h8.4) rfl hC.cls hC.comes_back <| Cal.mk <| fn_comes_back (d := d + 15) TO hg (get_up h8.4) rfl (get_up h8e) h8L.up hrm fun cb jk2 hcb => ?_⟩
    cases cb
    · refine ⟨⟨rfl, trivial⟩, jk ++ jk2, by rw [List.append_assoc], fun r' hr' => ?_⟩
      rw [take_next hr] at hr'
      rcases List.mem_append.mp hr' with g | g
      · exact hnone r' g
      · cases List.mem_singleton.mp g
        exact fun z => absurd (hcb.mpr z) (by decide)
    · refine Stx.mk <| StOk.raise TO rfl rfl rfl rfl rfl (by kernel_rfl) ?_
      rw [hj, List.append_assoc, List.append_assoc]
      exact qx bs _ hbare ⟨r, hrm, hcb.mp rfl⟩
end Mine

open PySem PySem.W PyProof.Rows
set_option maxRecDepth 100000
namespace Mine
variable {w : World} {s : Shared} {d : Nat} {X : QX} {Q : QE} {σ : Hp} {rs : List (Str × Pt)} {bs : List Str} {g : Nat}
set_option maxHeartbeats 4000000

end Mine

open PySem PySem.W PyProof.Rows
set_option maxRecDepth 100000
namespace Mine
variable {w : World} {s : Shared} {d : Nat} {X : QX} {Q : QE} {σ : Hp}
set_option maxHeartbeats 4000000

theorem fmod_range {a b : Int} (hb : 0 < b) : 0 ≤ a.fmod b ∧ a.fmod b < b := ⟨Int.fmod_nonneg_of_pos a hb, Int.fmod_lt_of_pos a hb⟩
theorem idx_at {S : Str} {n : Nat} {P : Nat → Nat → Bool} (h : (List.range n).all (fun j => match S.cps[j]? with | some c => P j c | none => false) = true) (hl : S.length = n) {k : Int} (h0 : 0 ≤ k) (h1 : k < n) : ∃ c, P k.toNat c = true ∧ (seqIndex? k S.length).bind (S.cps[·]?) = some c := by
  have hj := List.all_eq_true.mp h k.toNat (by rw [List.mem_range]; (clear h hl; lia))
  have e : seqIndex? k S.length = some k.toNat := by
    have hk : ¬ k < 0 := by (clear h1 hj h hl; lia)
    unfold seqIndex?
    simp only [hk, if_false]
    rw [if_pos (by simp only [Bool.and_eq_true, decide_eq_true_eq]; (clear hj hk h; lia))]
  rw [e]
  split at hj
  · rename_i c hc
    exact ⟨c, hj, hc⟩
  · cases hj
theorem item_signC {S₀ : Str} {n : Nat} {k : Int} {Q : QE} {σ : Hp} (h0 : 0 ≤ k) (h1 : k < n) (hn : n < 1000) (q : ∀ c, isSignC c = true → Q (.str (S [c])) σ) (h : (List.range n).all (fun j => match S₀.cps[j]? with | some c => isSignC c | none => false) = true) (hl : S₀.length = n) : Itm (.str S₀) (.int k) Q σ := by
  obtain ⟨c, hc, e⟩ := idx_at (P := fun _ c => isSignC c) h hl h0 h1
  exact ⟨_, .str _ _ c e ⟨by (clear q h hl e h1 hn; lia), by (clear q h hl e h0; lia)⟩, q c hc⟩
theorem item_at {l : Nat} {vs : List V} {j : Nat} {v : V} {k : Int} {Q : QE} {σ : Hp} (hl : σ[l]? = some (.list vs)) (hk : k = j) (hj : vs[j]? = some v) (hb : vs.length < 2 ^ 62) (q : Q v σ) : itemVC (.ref l) (.int k) Q σ := by
  obtain ⟨h1, _⟩ := List.getElem?_eq_some_iff.mp hj
  subst hk
  refine ⟨v, .list _ vs _ j v hl ?_ hj ⟨by (clear hb hl hj; exact Int.NonNeg.mk (j + Nat.succ 9223372036854775807)), by (clear hl hj; lia)⟩, q⟩
  unfold seqIndex?
  simp only [show ¬ ((j : Int) < 0) by (clear hb hl hj; lia), if_false]
  rw [if_pos (by simp only [Bool.and_eq_true, decide_eq_true_eq]; (clear hb hl hj; lia))]
  simp
theorem rng_at {n i : Nat} {y : V} (h : ((List.range n).map fun (k : Nat) => V.int k)[i]? = some y) : i < n ∧ y = .int i := by
  rw [List.getElem?_map, Option.map_eq_some_iff] at h
  obtain ⟨j, hj, rfl⟩ := h
  obtain ⟨h1, h2⟩ := List.getElem?_eq_some_iff.mp hj
  rw [List.getElem_range] at h2
  subst h2
  exact ⟨by simpa using h1, rfl⟩
theorem rng_iter {n : Int} {σ : Hp} (h0 : 0 ≤ n) (h : n < 2 ^ 62) : iterV σ (.rng n) = some ((List.range n.toNat).map fun (k : Nat) => V.int k) := by
  exact if_pos ⟨by (clear h; lia), h⟩
theorem getD_lt {xs : List Int} {k : Int} (h0 : 0 ≤ k) (h : k < xs.length) : xs[k.toNat]? = some (xs.getD k.toNat 0) := by
  have : k.toNat < xs.length := by lia
  simp [List.getD_eq_getElem?_getD, this]
theorem getD_ge {xs : List Int} {k : Int} (h : ¬ k < xs.length) : xs.getD k.toNat 0 = 0 := by
  rw [List.getD_eq_getElem?_getD, List.getElem?_eq_none (by lia)]; rfl

theorem fn_cell_at (TO : TopOk (T12 w s)) {xs : List Int} {k : Int} (h0 : 0 ≤ k) (hk : k < 2 ^ 62) (hx : xs.length < 2 ^ 62) (q : Q (.int (xs.getD k.toNat 0)) σ) : CallOk (T12 w s) (d + 1) X (.glob "_law_cell_at") [.scr xs, .int k] Q σ := by
  refine CallOk.go TO rfl rfl ?_
  refine Cal.len rfl hx (Br.mk (fun h => Itm.mk ⟨_, .scr _ _ _ h0 (Int.lt_trans hk (by decide)) (getD_lt h0 (of_decide_eq_true h)), q⟩) fun h => ?_)
  rw [getD_ge (of_decide_eq_false h)] at q
  exact q
theorem fn_sign_by (TO : TopOk (T12 w s)) {k : Int} (q : ∀ c, isSignC c = true → Q (.str (S [c])) σ) : CallOk (T12 w s) (d + 1) X (.glob "_law_sign_by") [.int k] Q σ := by
  refine CallOk.go TO rfl rfl ?_
  have r := fmod_range (a := k) (b := 96) (by decide)
  exact Bin.cat (by decide +kernel) (item_signC (n := 96) r.1 r.2 (by decide) q (by decide +kernel) (by decide +kernel))
end Mine

open PySem PySem.W PyProof.Rows
set_option maxRecDepth 100000
namespace Mine
variable {w : World} {s : Shared} {d : Nat} {X : QX} {Q : QE} {σ : Hp}
set_option maxHeartbeats 4000000

theorem set_end {σ : Hp} {x y : MObj} : (σ ++ [x]).set σ.length y = σ ++ [y] := by simp
theorem set_end2 {σ : Hp} {x y z : MObj} : (σ ++ [x] ++ [z]).set σ.length y = σ ++ [y, z] := by simp
structure FrCls (T : Tp) (C : Addr) : Prop where
  cls : ClsAt T "Frame" C
  piece : FldAt T C "piece"
  place : FldAt T C "place"
  turn : FldAt T C "turn"
  here : FldAt T C "here"
  kids : FldAt T C "kids"
theorem fr_cls : ∃ C, FrCls (T12 w s) C := ⟨_, ⟨rfl, rfl, rfl, rfl, rfl, rfl⟩, ⟨rfl, rfl⟩, ⟨rfl, rfl⟩, ⟨rfl, rfl⟩, ⟨rfl, rfl⟩, ⟨rfl, rfl⟩⟩
noncomputable def frF (pv : V) (i t h : Int) (k : Nat) : List (Str × V) := [("piece", pv), ("place", .int i), ("turn", .int t), ("here", .int h), ("kids", .ref k)]
theorem fn_frame (TO : TopOk (T12 w s)) {pv : V} {i : Int} (q : Q (.ref σ.length) (σ ++ [.inst "Frame" (frF pv i 0 i (σ.length + 1)), .list []])) : CallOk (T12 w s) (d + 3) X (.glob "Frame") [pv, .int i] Q σ := by
  obtain ⟨C, hC⟩ := fr_cls (w := w) (s := s)
  refine CallOk.make TO rfl rfl rfl rfl <| CodeOk.goM TO rfl rfl ?_
  refine SetAttrOk.of [("piece", pv)] get_new hC.cls hC.piece (by simp) rfl ?_
  rw [set_end]
  refine SetAttrOk.of [("piece", pv), ("place", .int i)] get_new hC.cls hC.place (by simp) rfl ?_
  rw [set_end]
  refine SetAttrOk.of [("piece", pv), ("place", .int i), ("turn", .int 0)] get_new hC.cls hC.turn (by simp) rfl ?_
  rw [set_end]
  refine SetAttrOk.of [("piece", pv), ("place", .int i), ("turn", .int 0), ("here", .int i)] get_new hC.cls hC.here (by simp) rfl ?_
  rw [set_end]
  refine SetAttrOk.of (frF pv i 0 i (σ ++ [MObj.inst "Frame" [("piece", pv), ("place", .int i), ("turn", .int 0), ("here", .int i)]]).length) (get_up get_new) hC.cls hC.kids (by simp) rfl ?_
  rw [set_end2, List.length_append]
  exact ⟨rfl, q⟩
end Mine

open PySem PySem.W PyProof.Rows
set_option maxRecDepth 100000
namespace Mine
variable {w : World} {s : Shared} {d : Nat} {X : QX} {Q : QE} {σ : Hp}
set_option maxHeartbeats 4000000

theorem pick_at {vs : List V} {j : Nat} {v : V} (hj : vs[j]? = some v) (hb : vs.length < 1000) : pick vs (j : Int) = some v := by
  have hl := (List.getElem?_eq_some_iff.mp hj).1
  show (bif Nat.ble j 1000 then vs[j]? else none) = some v
  rw [Nat.ble_eq_true_of_le (by exact Nat.le_of_lt (Nat.lt_trans hl hb))]; exact hj
theorem vs_get {ps : List Pt} {t : Nat} {p : Pt} (h : ps[t]? = some p) : (Pt.vs ps)[t]? = some p.v := by rw [Pt.vs_map, List.getElem?_map, h]; rfl

/-- of_row, no answer yet -/
theorem row_none (TO : TopOk (T12 w s)) {ps : List Pt} {i t h l k : Nat} (h1 : σ[l]? = some (.inst "Frame" (frF (Pt.row ps).v i t h k))) (hp : ps.length < 1000)
    (q1 : ps[t]? = none → Q (.tup [.none, .tup [.int h, .ref k]]) σ) (q2 : ∀ p, ps[t]? = some p → Q (.tup [.tup [p.v, .int h], .none]) σ) (ht : t ≤ ps.length)  :
    CallOk (T12 w s) (d + 2) X (.glob "of_row") [.ref l, .none] Q σ := by
  obtain ⟨C, hC⟩ := fr_cls (w := w) (s := s)
  refine CallOk.go TO rfl rfl ?_
  refine Cmp.notN (r := true) rfl ?_
  refine AttrOk.of h1 rfl rfl hC.cls hC.piece ?_
  refine AttrOk.of h1 rfl rfl hC.cls hC.turn ?_
  refine Cal.len (n := ps.length) (len_tup (by simp [Pt.vs_map])) (by exact Nat.le_trans (by assumption) (by decide)) ?_
  refine Br.mk (fun h2 => ?_) fun h2 => ?_
  · refine AttrOk.of h1 rfl rfl hC.cls hC.here <| AttrOk.of h1 rfl rfl hC.cls hC.kids ?_
    exact q1 (List.getElem?_eq_none (by simp at h2; lia))
  · refine AttrOk.of h1 rfl rfl hC.cls hC.turn ?_
    have hlt : t < ps.length := by simp at h2; lia
    have hg := List.getElem?_eq_getElem hlt
    refine itemG.at (pick_at (vs_get hg) (by rw [Pt.vs_map, List.length_map]; exact hp)) <| AttrOk.of h1 rfl rfl hC.cls hC.here ?_
    exact q2 _ hg

/-- of_row, a part has not come -/
theorem row_no (TO : TopOk (T12 w s)) {l la : Nat} (q : Q (.tup [.none, .tup [.none, .ref σ.length]]) (σ ++ [.list []])) : CallOk (T12 w s) (d + 2) X (.glob "of_row") [.ref l, .tup [.none, .ref la]] Q σ := by
  refine CallOk.go TO rfl rfl ?_
  exact Cmp.notN (r := false) rfl <| Cmp.isN (r := true) rfl q
/-- of_row, a part has come -/
theorem row_yes (TO : TopOk (T12 w s)) {ps : List Pt} {i t h e l k la : Nat} {vs us : List V} (h1 : σ[l]? = some (.inst "Frame" (frF (Pt.row ps).v i t h k))) (h2 : σ[k]? = some (.list vs)) (h3 : σ[la]? = some (.list us)) (hk : l ≠ k) (ha : la ≠ l) (hp : ps.length < 1000) (hz : vs.length + us.length ≤ sizeLine)
    (q1 : ∀ σ', σ' = (σ.set k (.list (vs ++ us))).set l (.inst "Frame" (frF (Pt.row ps).v i (t + 1 : Nat) e k)) → ps[t + 1]? = none → Q (.tup [.none, .tup [.int e, .ref k]]) σ') (q2 : ∀ σ', σ' = (σ.set k (.list (vs ++ us))).set l (.inst "Frame" (frF (Pt.row ps).v i (t + 1 : Nat) e k)) → ∀ p, ps[t + 1]? = some p → Q (.tup [.tup [p.v, .int e], .none]) σ') (ht : t < ps.length) :
    CallOk (T12 w s) (d + 2) X (.glob "of_row") [.ref l, .tup [.int e, .ref la]] Q σ := by
  obtain ⟨C, hC⟩ := fr_cls (w := w) (s := s)
  refine CallOk.go TO rfl rfl ?_
  have hl := (List.getElem?_eq_some_iff.mp h1).1
  refine Cmp.notN (r := false) rfl <| Cmp.isN (r := false) rfl <| SetAttrOk.of (frF (Pt.row ps).v i t e k) h1 hC.cls hC.here (by simp [frF]) rfl ?_
  have g1 : (σ.set l (.inst "Frame" (frF (Pt.row ps).v i t e k)))[l]? = some (.inst "Frame" (frF (Pt.row ps).v i t e k)) := List.getElem?_set_self hl
  have g2 : (σ.set l (.inst "Frame" (frF (Pt.row ps).v i t e k)))[k]? = some (.list vs) := by rw [List.getElem?_set_ne hk]; exact h2
  have g3 : (σ.set l (.inst "Frame" (frF (Pt.row ps).v i t e k)))[la]? = some (.list us) := by rw [List.getElem?_set_ne (Ne.symm ha)]; exact h3
  have e3 : ∀ o, (((σ.set l (.inst "Frame" (frF (Pt.row ps).v i t e k))).set k (.list (vs ++ us))).set l o) = (σ.set k (.list (vs ++ us))).set l o := fun o => by
    rw [List.set_comm _ _ hk, List.set_set]
  generalize σ.set l (.inst "Frame" (frF (Pt.row ps).v i t e k)) = σ₁ at g1 g2 g3 e3
  refine AttrOk.of g1 rfl rfl hC.cls hC.kids <| MethOk.extend g2 <| Cal.mk <| CallOk.extend g2 g3 hz ?_
  have g4 : (σ₁.set k (.list (vs ++ us)))[l]? = some (.inst "Frame" (frF (Pt.row ps).v i t e k)) := by rw [List.getElem?_set_ne (Ne.symm hk)]; exact g1
  refine AttrOk.of g4 rfl rfl hC.cls hC.turn <| SetAttrOk.of (frF (Pt.row ps).v i (t + 1 : Nat) e k) g4 hC.cls hC.turn (by simp [frF]) rfl ?_
  have g5 : ((σ₁.set k (.list (vs ++ us))).set l (.inst "Frame" (frF (Pt.row ps).v i (t + 1 : Nat) e k)))[l]? = some (.inst "Frame" (frF (Pt.row ps).v i (t + 1 : Nat) e k)) := List.getElem?_set_self (List.getElem?_eq_some_iff.mp g4).1
  rw [e3] at g5 ⊢
  generalize hσ : (σ.set k (.list (vs ++ us))).set l (.inst "Frame" (frF (Pt.row ps).v i (t + 1 : Nat) e k)) = σ₂ at g5
  refine AttrOk.of g5 rfl rfl hC.cls hC.piece <| AttrOk.of g5 rfl rfl hC.cls hC.turn <| Cal.len (n := ps.length) (len_tup (by simp [Pt.vs_map])) (by exact Nat.le_trans (by assumption) (by decide)) <| Br.mk (fun h2 => ?_) fun h2 => ?_
  · refine AttrOk.of g5 rfl rfl hC.cls hC.here <| AttrOk.of g5 rfl rfl hC.cls hC.kids ?_
    exact q1 _ hσ.symm (List.getElem?_eq_none (by simp at h2; lia))
  · have hlt : t + 1 < ps.length := by simp at h2; lia
    have hg := List.getElem?_eq_getElem hlt
    refine AttrOk.of g5 rfl rfl hC.cls hC.turn <| itemG.at (pick_at (vs_get hg) (by rw [Pt.vs_map, List.length_map]; exact hp)) <| AttrOk.of g5 rfl rfl hC.cls hC.here ?_
    exact q2 _ hσ.symm _ hg

/-- of_choice -/
theorem alt_none (TO : TopOk (T12 w s)) {ps : List Pt} {i t h l k : Nat} (h1 : σ[l]? = some (.inst "Frame" (frF (Pt.alt ps).v i t h k))) (hp : ps.length < 1000)
    (q1 : ps[t]? = none → Q (.tup [.none, .tup [.none, .ref σ.length]]) (σ ++ [.list []])) (q2 : ∀ p, ps[t]? = some p → Q (.tup [.tup [p.v, .int i], .none]) σ) (ht : t ≤ ps.length) :
    CallOk (T12 w s) (d + 2) X (.glob "of_choice") [.ref l, .none] Q σ := by
  obtain ⟨C, hC⟩ := fr_cls (w := w) (s := s)
  refine CallOk.go TO rfl rfl ?_
  refine Cmp.notN (r := true) rfl <| AttrOk.of h1 rfl rfl hC.cls hC.piece <| AttrOk.of h1 rfl rfl hC.cls hC.turn <| Cal.len (n := ps.length) (len_tup (by simp [Pt.vs_map])) (by exact Nat.le_trans (by assumption) (by decide)) <| Br.mk (fun h2 => ?_) fun h2 => ?_
  · exact q1 (List.getElem?_eq_none (by simp at h2; lia))
  · have hg := List.getElem?_eq_getElem (show t < ps.length by simp at h2; lia)
    exact AttrOk.of h1 rfl rfl hC.cls hC.turn <| itemG.at (pick_at (vs_get hg) (by rw [Pt.vs_map, List.length_map]; exact hp)) <| AttrOk.of h1 rfl rfl hC.cls hC.place <| q2 _ hg
theorem alt_yes (TO : TopOk (T12 w s)) {l la e : Nat} (q : Q (.tup [.none, .tup [.int e, .ref la]]) σ) : CallOk (T12 w s) (d + 2) X (.glob "of_choice") [.ref l, .tup [.int e, .ref la]] Q σ := by
  refine CallOk.go TO rfl rfl ?_
  exact Cmp.notN (r := false) rfl <| Cmp.notN (r := false) rfl q
theorem alt_no (TO : TopOk (T12 w s)) {ps : List Pt} {i t h l k la : Nat} (h1 : σ[l]? = some (.inst "Frame" (frF (Pt.alt ps).v i t h k))) (hp : ps.length < 1000)
    (q1 : ∀ σ', σ' = σ.set l (.inst "Frame" (frF (Pt.alt ps).v i (t + 1 : Nat) h k)) → ps[t + 1]? = none → Q (.tup [.none, .tup [.none, .ref σ'.length]]) (σ' ++ [.list []])) (q2 : ∀ σ', σ' = σ.set l (.inst "Frame" (frF (Pt.alt ps).v i (t + 1 : Nat) h k)) → ∀ p, ps[t + 1]? = some p → Q (.tup [.tup [p.v, .int i], .none]) σ') (ht : t < ps.length) :
    CallOk (T12 w s) (d + 2) X (.glob "of_choice") [.ref l, .tup [.none, .ref la]] Q σ := by
  obtain ⟨C, hC⟩ := fr_cls (w := w) (s := s)
  refine CallOk.go TO rfl rfl ?_
  refine Cmp.notN (r := false) rfl <| Cmp.notN (r := true) rfl <| AttrOk.of h1 rfl rfl hC.cls hC.turn <| SetAttrOk.of (frF (Pt.alt ps).v i (t + 1 : Nat) h k) h1 hC.cls hC.turn (by simp [frF]) rfl ?_
  have g5 : (σ.set l (.inst "Frame" (frF (Pt.alt ps).v i (t + 1 : Nat) h k)))[l]? = some (.inst "Frame" (frF (Pt.alt ps).v i (t + 1 : Nat) h k)) := List.getElem?_set_self (List.getElem?_eq_some_iff.mp h1).1
  generalize hσ : σ.set l (.inst "Frame" (frF (Pt.alt ps).v i (t + 1 : Nat) h k)) = σ₂ at g5
  refine AttrOk.of g5 rfl rfl hC.cls hC.piece <| AttrOk.of g5 rfl rfl hC.cls hC.turn <| Cal.len (n := ps.length) (len_tup (by simp [Pt.vs_map])) (by exact Nat.le_trans (by assumption) (by decide)) <| Br.mk (fun h2 => ?_) fun h2 => ?_
  · exact q1 _ hσ.symm (List.getElem?_eq_none (by simp at h2; lia))
  · have hg := List.getElem?_eq_getElem (show t + 1 < ps.length by simp at h2; lia)
    exact AttrOk.of g5 rfl rfl hC.cls hC.turn <| itemG.at (pick_at (vs_get hg) (by rw [Pt.vs_map, List.length_map]; exact hp)) <| AttrOk.of g5 rfl rfl hC.cls hC.place <| q2 _ hσ.symm _ hg
/-- of_many -/
theorem many_none (TO : TopOk (T12 w s)) {p : Pt} {i t h l k : Nat} (h1 : σ[l]? = some (.inst "Frame" (frF (Pt.many p).v i t h k))) (q : Q (.tup [.tup [p.v, .int h], .none]) σ) : CallOk (T12 w s) (d + 2) X (.glob "of_many") [.ref l, .none] Q σ := by
  obtain ⟨C, hC⟩ := fr_cls (w := w) (s := s)
  refine CallOk.go TO rfl rfl ?_
  exact Cmp.notN (r := true) rfl <| AttrOk.of h1 rfl rfl hC.cls hC.piece <| AttrOk.of h1 rfl rfl hC.cls hC.here q
theorem many_no (TO : TopOk (T12 w s)) {p : Pt} {i t h l k la : Nat} (h1 : σ[l]? = some (.inst "Frame" (frF (Pt.many p).v i t h k))) (q : Q (.tup [.none, .tup [.int h, .ref k]]) σ) : CallOk (T12 w s) (d + 2) X (.glob "of_many") [.ref l, .tup [.none, .ref la]] Q σ := by
  obtain ⟨C, hC⟩ := fr_cls (w := w) (s := s)
  refine CallOk.go TO rfl rfl ?_
  exact Cmp.notN (r := false) rfl <| Cmp.isN (r := true) rfl <| AttrOk.of h1 rfl rfl hC.cls hC.here <| AttrOk.of h1 rfl rfl hC.cls hC.kids q
theorem many_same (TO : TopOk (T12 w s)) {p : Pt} {i t h l k la : Nat} (h1 : σ[l]? = some (.inst "Frame" (frF (Pt.many p).v i t h k))) (q : Q (.tup [.none, .tup [.int h, .ref k]]) σ) : CallOk (T12 w s) (d + 2) X (.glob "of_many") [.ref l, .tup [.int h, .ref la]] Q σ := by
  obtain ⟨C, hC⟩ := fr_cls (w := w) (s := s)
  refine CallOk.go TO rfl rfl ?_
  exact Cmp.notN (r := false) rfl <| Cmp.isN (r := false) rfl <| AttrOk.of h1 rfl rfl hC.cls hC.here <| Br.t (by simp) <| AttrOk.of h1 rfl rfl hC.cls hC.here <| AttrOk.of h1 rfl rfl hC.cls hC.kids q
theorem many_yes (TO : TopOk (T12 w s)) {p : Pt} {i t h e l k la : Nat} {vs us : List V} (h1 : σ[l]? = some (.inst "Frame" (frF (Pt.many p).v i t h k))) (h2 : σ[k]? = some (.list vs)) (h3 : σ[la]? = some (.list us)) (hk : l ≠ k) (ha : la ≠ l) (hz : vs.length + us.length ≤ sizeLine) (he : e ≠ h)
    (q : ∀ σ', σ' = (σ.set k (.list (vs ++ us))).set l (.inst "Frame" (frF (Pt.many p).v i t e k)) → Q (.tup [.tup [p.v, .int e], .none]) σ') :
    CallOk (T12 w s) (d + 2) X (.glob "of_many") [.ref l, .tup [.int e, .ref la]] Q σ := by
  obtain ⟨C, hC⟩ := fr_cls (w := w) (s := s)
  refine CallOk.go TO rfl rfl ?_
  have hl := (List.getElem?_eq_some_iff.mp h1).1
  refine Cmp.notN (r := false) rfl <| Cmp.isN (r := false) rfl <| AttrOk.of h1 rfl rfl hC.cls hC.here <| Br.f (by simp; lia) <| SetAttrOk.of (frF (Pt.many p).v i t e k) h1 hC.cls hC.here (by simp [frF]) rfl ?_
  have g1 : (σ.set l (.inst "Frame" (frF (Pt.many p).v i t e k)))[l]? = some (.inst "Frame" (frF (Pt.many p).v i t e k)) := List.getElem?_set_self hl
  have g2 : (σ.set l (.inst "Frame" (frF (Pt.many p).v i t e k)))[k]? = some (.list vs) := by rw [List.getElem?_set_ne hk]; exact h2
  have g3 : (σ.set l (.inst "Frame" (frF (Pt.many p).v i t e k)))[la]? = some (.list us) := by rw [List.getElem?_set_ne (Ne.symm ha)]; exact h3
  have e3 : (σ.set l (.inst "Frame" (frF (Pt.many p).v i t e k))).set k (.list (vs ++ us)) = (σ.set k (.list (vs ++ us))).set l (.inst "Frame" (frF (Pt.many p).v i t e k)) := List.set_comm _ _ hk
  generalize σ.set l (.inst "Frame" (frF (Pt.many p).v i t e k)) = σ₁ at g1 g2 g3 e3
  refine AttrOk.of g1 rfl rfl hC.cls hC.kids <| MethOk.extend g2 <| Cal.mk <| CallOk.extend g2 g3 hz ?_
  have g4 : (σ₁.set k (.list (vs ++ us)))[l]? = some (.inst "Frame" (frF (Pt.many p).v i t e k)) := by rw [List.getElem?_set_ne (Ne.symm hk)]; exact g1
  rw [e3] at g4 ⊢
  generalize hσ : (σ.set k (.list (vs ++ us))).set l (.inst "Frame" (frF (Pt.many p).v i t e k)) = σ₂ at g4
  exact AttrOk.of g4 rfl rfl hC.cls hC.piece <| AttrOk.of g4 rfl rfl hC.cls hC.here <| q _ hσ.symm
/-- of_not -/
theorem nt_none (TO : TopOk (T12 w s)) {p : Pt} {i t h l k : Nat} (h1 : σ[l]? = some (.inst "Frame" (frF (Pt.nt p).v i t h k))) (q : Q (.tup [.tup [p.v, .int i], .none]) σ) : CallOk (T12 w s) (d + 2) X (.glob "of_not") [.ref l, .none] Q σ := by
  obtain ⟨C, hC⟩ := fr_cls (w := w) (s := s)
  refine CallOk.go TO rfl rfl ?_
  exact Cmp.isN (r := true) rfl <| AttrOk.of h1 rfl rfl hC.cls hC.piece <| AttrOk.of h1 rfl rfl hC.cls hC.place q
theorem nt_no (TO : TopOk (T12 w s)) {p : Pt} {i t h l k la : Nat} (h1 : σ[l]? = some (.inst "Frame" (frF (Pt.nt p).v i t h k))) (q : Q (.tup [.none, .tup [.int i, .ref σ.length]]) (σ ++ [.list []])) : CallOk (T12 w s) (d + 2) X (.glob "of_not") [.ref l, .tup [.none, .ref la]] Q σ := by
  obtain ⟨C, hC⟩ := fr_cls (w := w) (s := s)
  refine CallOk.go TO rfl rfl ?_
  exact Cmp.isN (r := false) rfl <| Cmp.isN (r := true) rfl <| AttrOk.of h1 rfl rfl hC.cls hC.place q
theorem nt_yes (TO : TopOk (T12 w s)) {l la e : Nat} (q : Q (.tup [.none, .tup [.none, .ref σ.length]]) (σ ++ [.list []])) : CallOk (T12 w s) (d + 2) X (.glob "of_not") [.ref l, .tup [.int e, .ref la]] Q σ := by
  refine CallOk.go TO rfl rfl ?_
  exact Cmp.isN (r := false) rfl <| Cmp.isN (r := false) rfl q
end Mine

open PySem PySem.W PyProof.Rows
set_option maxRecDepth 100000
namespace Mine
variable {w : World} {s : Shared} {d : Nat} {X : QX} {Q : QE} {σ : Hp}
set_option maxHeartbeats 4000000

structure MmCls (T : Tp) (C : Addr) : Prop where
  cls : ClsAt T "Memory" C
  kept : FldAt T C "kept"
  order : FldAt T C "order"
  look : MetAt T C "look"
  known : MetAt T C "known"
  begun : MetAt T C "begin"
  ended : MetAt T C "ended"
theorem mm_cls : ∃ C, MmCls (T12 w s) C := ⟨_, ⟨rfl, rfl, rfl, rfl, rfl, rfl⟩, ⟨rfl, rfl⟩, ⟨rfl, rfl⟩, ⟨_, rfl, rfl, rfl⟩, ⟨_, rfl, rfl, rfl⟩, ⟨_, rfl, rfl, rfl⟩, ⟨_, rfl, rfl, rfl⟩⟩
noncomputable def mmF (a b : Nat) : List (Str × V) := [("kept", .ref a), ("order", .ref b)]
noncomputable def prV (n : Str) (i : Int) : V := .tup [.str n, .int i]
theorem fn_memory (TO : TopOk (T12 w s)) (q : Q (.ref σ.length) (σ ++ [.inst "Memory" (mmF (σ.length + 1) (σ.length + 2)), .tdict [], .list []])) : CallOk (T12 w s) (d + 3) X (.glob "Memory") [] Q σ := by
  obtain ⟨C, hC⟩ := mm_cls (w := w) (s := s)
  refine CallOk.retag <| CallOk.make TO rfl rfl rfl rfl <| CodeOk.goM TO rfl rfl ?_
  refine SetAttrOk.of [("kept", .ref (σ ++ [MObj.inst "Memory" []]).length)] (get_up get_new) hC.cls hC.kept (by simp) rfl ?_
  rw [set_end2]
  refine SetAttrOk.of (mmF (σ ++ [MObj.inst "Memory" []]).length (σ ++ [MObj.inst "Memory" [("kept", .ref (σ ++ [MObj.inst "Memory" []]).length)], .sdict []]).length) (gs := [("kept", .ref (σ ++ [MObj.inst "Memory" []]).length)]) (get_up (by simp)) hC.cls hC.order (by simp) rfl ?_
  refine ⟨rfl, σ.length + 1, by simp, ?_⟩
  have e : ((σ ++ [MObj.inst "Memory" [("kept", .ref (σ ++ [MObj.inst "Memory" []]).length)], MObj.sdict []] ++ [MObj.list []]).set σ.length (.inst "Memory" (mmF (σ ++ [MObj.inst "Memory" []]).length (σ ++ [MObj.inst "Memory" [("kept", .ref (σ ++ [MObj.inst "Memory" []]).length)], .sdict []]).length))).set (σ.length + 1) (.tdict []) = σ ++ [.inst "Memory" (mmF (σ.length + 1) (σ.length + 2)), .tdict [], .list []] := by simp [mmF]
  rw [e]; exact q
theorem fn_look (TO : TopOk (T12 w s)) {v : V} (q : Q .none σ) : CallOk (T12 w s) (d + 1) X (.mth "Memory" "look") [v] Q σ := by
  refine CallOk.goM TO rfl rfl ?_
  exact q
theorem fn_begin (TO : TopOk (T12 w s)) {m a b : Nat} {os : List V} {n : Str} {i : Int} (h1 : σ[m]? = some (.inst "Memory" (mmF a b))) (h2 : σ[b]? = some (.list os)) (hz : os.length ≤ sizeLine) (q : Q .none (σ.set b (.list (os ++ [prV n i])))) : CallOk (T12 w s) (d + 2) X (.mth "Memory" "begin") [.ref m, .str n, .int i] Q σ := by
  obtain ⟨C, hC⟩ := mm_cls (w := w) (s := s)
  refine CallOk.goM TO rfl rfl ?_
  exact AttrOk.of h1 rfl rfl hC.cls hC.order <| MethOk.append h2 <| Cal.mk <| CallOk.append h2 hz q
theorem fn_known (TO : TopOk (T12 w s)) {m a b : Nat} {kvs : List ((Str × Int) × V)} {n : Str} {i : Int} (h1 : σ[m]? = some (.inst "Memory" (mmF a b))) (h2 : σ[a]? = some (.tdict kvs))
    (q0 : kvs.find? (fun kv => kv.1 = (n, i)) = none → Q .none σ)
    (q1 : ∀ v, (kvs.find? fun kv => kv.1 = (n, i)).map (·.2) = some v → (∃ l, v = .tup [.none, .ref l] ∧ Q (.tup [.none, .ref σ.length]) (σ ++ [.list []])) ∨ ∃ e l, v = .tup [.int e, .ref l] ∧ Q (.tup [.int e, .ref σ.length]) (σ ++ [.list [prV n i]])) :
    CallOk (T12 w s) (d + 2) X (.mth "Memory" "known") [.ref m, .str n, .int i] Q σ := by
  obtain ⟨C, hC⟩ := mm_cls (w := w) (s := s)
  refine CallOk.goM TO rfl rfl ?_
  refine AttrOk.of h1 rfl rfl hC.cls hC.kept <| Cmp.pairs (neg := true) (k := (n, i)) h2 ?_
  cases hf : kvs.find? (fun kv => kv.1 = (n, i)) with
  | none =>
    refine Br.t ?_ (q0 hf)
    simp only [Bool.true_bne, Bool.not_eq_true', List.any_eq_false]
    exact List.find?_eq_none.mp hf
  | some p =>
    have hm : (kvs.find? fun kv => kv.1 = (n, i)).map (·.2) = some p.2 := by rw [hf]; rfl
    refine Br.f ?_ ?_
    · simp only [Bool.true_bne, Bool.not_eq_false', List.any_eq_true]
      have := List.find?_some hf
      exact ⟨p, List.mem_of_find?_eq_some hf, this⟩
    rcases q1 _ hm with ⟨l, e, q⟩ | ⟨x, l, e, q⟩
    · rw [e] at hm
      exact AttrOk.of h1 rfl rfl hC.cls hC.kept <| Itm.pair (k := (n, i)) h2 hm <| Cmp.isN (r := true) rfl q
    · rw [e] at hm
      exact AttrOk.of h1 rfl rfl hC.cls hC.kept <| Itm.pair (k := (n, i)) h2 hm <| Cmp.isN (r := false) rfl <| AttrOk.of h1 rfl rfl hC.cls hC.kept <| Itm.pair (k := (n, i)) h2 hm q
theorem setTK_get {kvs : List ((Str × Int) × V)} {k : Str × Int} {v : V} : ((setTK kvs k v).find? fun kv => kv.1 = k).map (·.2) = some v := by
  unfold setTK
  split
  · rename_i h
    induction kvs with
    | nil => cases h
    | cons p r ih =>
      by_cases hp : p.1 = k
      · simp [hp]
      · simp only [List.any_cons, hp, decide_false, Bool.false_or] at h
        simp only [List.map_cons, hp, if_false, List.find?_cons, decide_false]
        exact ih h
  · rename_i h
    rw [List.find?_append, List.find?_eq_none.mpr (fun x hx hk => h (List.any_eq_true.mpr ⟨x, hx, hk⟩))]
    simp
theorem fn_ended (TO : TopOk (T12 w s)) {m a b la : Nat} {kvs : List ((Str × Int) × V)} {n : Str} {i : Int} {ev : V} {us : List V} (h1 : σ[m]? = some (.inst "Memory" (mmF a b))) (h2 : σ[a]? = some (.tdict kvs)) (h3 : σ[la]? = some (.list us)) (hm : m ≠ a) (hz : kvs.length ≤ sizeLine) (hu : us.length ≤ sizeLine)
    (q : ∀ σ₁, σ₁ = (σ ++ [MObj.list us]).set a (.tdict (setTK kvs (n, i) (.tup [ev, .ref σ.length]))) → (ev = .none ∧ Q (.tup [.none, .ref σ₁.length]) (σ₁ ++ [.list []])) ∨ ∃ e, ev = .int e ∧ Q (.tup [.int e, .ref σ₁.length]) (σ₁ ++ [.list [prV n i]])) :
    CallOk (T12 w s) (d + 3) X (.mth "Memory" "ended") [.ref m, .str n, .int i, .tup [ev, .ref la]] Q σ := by
  obtain ⟨C, hC⟩ := mm_cls (w := w) (s := s)
  refine CallOk.goM TO rfl rfl ?_
  refine Cal.list (vs := us) (seq_list h3) hu <| AttrOk.of (get_up h1) rfl rfl hC.cls hC.kept <| SetItemOk.pair (k := (n, i)) (get_up h2) hz ?_
  have g1 : ((σ ++ [MObj.list us]).set a (.tdict (setTK kvs (n, i) (.tup [ev, .ref σ.length]))))[m]? = some (.inst "Memory" (mmF a b)) := by rw [List.getElem?_set_ne (Ne.symm hm)]; exact get_up h1
  have g2 : ((σ ++ [MObj.list us]).set a (.tdict (setTK kvs (n, i) (.tup [ev, .ref σ.length]))))[a]? = some (.tdict (setTK kvs (n, i) (.tup [ev, .ref σ.length]))) := List.getElem?_set_self (by rw [List.length_append]; exact Nat.lt_add_right _ (List.getElem?_eq_some_iff.mp h2).1)
  replace q := q _ rfl
  generalize (σ ++ [MObj.list us]).set a (.tdict (setTK kvs (n, i) (.tup [ev, .ref σ.length]))) = σ₁ at g1 g2 q
  refine MethOk.own g1 rfl hC.cls hC.known <| Cal.mk <| fn_known (d := d) TO g1 g2 (fun h => ?_) fun v hv => ?_
  · have := setTK_get (kvs := kvs) (k := (n, i)) (v := .tup [ev, .ref σ.length])
    rw [h] at this; cases this
  · rw [setTK_get] at hv
    cases hv
    rcases q with ⟨rfl, q5⟩ | ⟨e, rfl, q5⟩
    · exact .inl ⟨_, rfl, q5⟩
    · exact .inr ⟨e, _, rfl, q5⟩
end Mine

open PySem PySem.W PyProof.Rows
set_option maxRecDepth 100000
namespace Mine
variable {w : World} {s : Shared} {d : Nat} {X : QX} {Q : QE} {σ : Hp}
set_option maxHeartbeats 4000000

noncomputable def Pt.isLf : Pt → Bool
  | .sign _ | .span _ _ | .any => true
  | _ => false
theorem fn_takes (TO : TopOk (T12 w s)) {p : Pt} {c : Nat} (hp : p.isLf = true) (q : Q (.bool (p.takesC c)) σ) : CallOk (T12 w s) (d + 2) X (.glob "takes") [p.v, .str ⟨#[c]⟩] Q σ := by
  refine CallOk.go TO rfl rfl ?_
  cases p <;> first | cases hp | skip
  · simp only [Pt.takesC] at q
    rw [← beq_ch] at q
    exact q
  · rename_i a b
    refine Cal.ord <| Cal.ord <| Br.mk (fun h1 => Cal.ord ?_) fun h1 => ?_
    · simp only [Pt.takesC] at q
      have : a ≤ c := by simpa using h1
      rw [decide_eq_true this, Bool.true_and] at q
      show Q (.bool (decide ((c : Int) ≤ (b : Int)))) σ
      rw [show decide ((c : Int) ≤ (b : Int)) = decide (c ≤ b) by simp]; exact q
    · simp only [Pt.takesC] at q
      have : ¬ a ≤ c := by simpa using h1
      rw [decide_eq_false this] at q
      exact q
  · exact q
theorem Itm.strN {cs : List Nat} {j c : Nat} (hj : cs[j]? = some c) (hb : cs.length < 100000) (q : Q (.str ⟨#[c]⟩) σ) : Itm (.str (S cs)) (.int j) Q σ := by
  have hl := (List.getElem?_eq_some_iff.mp hj).1
  refine ⟨_, .str _ _ c ?_ ⟨by exact Int.NonNeg.mk (j + Nat.succ 9223372036854775807), by lia⟩, q⟩
  have e : seqIndex? (j : Int) (S cs).length = some j := by
    unfold seqIndex?
    simp only [show ¬ ((j : Int) < 0) by lia, if_false]
    rw [if_pos (by simp only [Bool.and_eq_true, decide_eq_true_eq]; have : (S cs).length = cs.length := by simp [S, Str.length]
                   lia)]
    simp
  rw [e]
  show (cs.toArray)[j]? = some c
  simpa using hj
/-- of_sign with a Memory -/
theorem sign_mem (TO : TopOk (T12 w s)) {p : Pt} {i t h l k m a b : Nat} {cs : List Nat} (hp : p.isLf = true) (h1 : σ[l]? = some (.inst "Frame" (frF p.v i t h k))) (hm : σ[m]? = some (.inst "Memory" (mmF a b))) (hc : cs.length < 100000)
    (q1 : ∀ c, cs[i]? = some c → p.takesC c = true → Q (.tup [.none, .tup [.int (i + 1 : Nat), .ref σ.length]]) (σ ++ [.list []]))
    (q2 : (∀ c, cs[i]? = some c → p.takesC c = false) → Q (.tup [.none, .tup [.none, .ref σ.length]]) (σ ++ [.list []])) :
    CallOk (T12 w s) (d + 3) X (.glob "of_sign") [.ref l, .str (S cs), .ref m] Q σ := by
  obtain ⟨C, hC⟩ := fr_cls (w := w) (s := s)
  obtain ⟨M, hM⟩ := mm_cls (w := w) (s := s)
  refine CallOk.go TO rfl rfl ?_
  have hS : (S cs).length = cs.length := by simp [S, Str.length]
  refine MethOk.own hm rfl hM.cls hM.look <| Cal.mk <| fn_look (d := d + 1) TO <| AttrOk.of h1 rfl (by cases p <;> rfl) hC.cls hC.place <| Cal.len (n := cs.length) (len_str_ hS) (by exact Nat.le_trans (by assumption) (by decide)) <| Br.mk (fun h2 => ?_) fun h2 => ?_
  · have hlt : i < cs.length := by simpa using h2
    have hg := List.getElem?_eq_getElem hlt
    refine AttrOk.of h1 rfl (by cases p <;> rfl) hC.cls hC.piece <| Itm.strN hg hc <| Cal.mk <| fn_takes TO hp <| Br.mk (fun h3 => ?_) fun h3 => ?_
    · exact q1 _ hg h3
    · exact q2 fun c hc' => by rw [hg] at hc'; cases hc'; exact h3
  · exact q2 fun c hc' => by
      have := (List.getElem?_eq_some_iff.mp hc').1
      simp at h2; lia

/-- what part and need look at of a grammar -/
inductive GrT (rs : List (Str × Pt)) (g b : Nat) (σ : Hp) : Prop where
  | mk (a c e : Nat) (h1 : σ[g]? = some (.inst "Grammar" [("pairs", .ref a), ("table", .ref b), ("bare", .ref c), ("leads", .ref e)])) (h2 : σ[b]? = some (.sdict (tabKV rs))) : GrT rs g b σ
theorem GrAt.t {rs : List (Str × Pt)} {bs : List Str} {g : Nat} (h : GrAt rs bs g σ) : ∃ b, GrT rs g b σ := by
  obtain ⟨a, b, c, e, kl, h1, h2, h3, h4, h5, h6, h7, h8, h9, h10⟩ := h
  exact ⟨b, a, c, e, h5, h7⟩
theorem GrT.keep {rs : List (Str × Pt)} {g b : Nat} {σ' : Hp} {A A' : List Nat} (h : GrT rs g b σ) (o : On σ A σ' A') (hg : g ∉ A) (hb : b ∉ A) : GrT rs g b σ' := by
  obtain ⟨a, c, e, h1, h2⟩ := h
  exact ⟨a, c, e, o.keep _ _ h1 hg, o.keep _ _ h2 hb⟩
variable {rs : List (Str × Pt)} {g gb : Nat}
theorem fn_needT (TO : TopOk (T12 w s)) (hG : GrT rs g gb σ) {x : Str} (q : x ∈ rs.map (·.1) → Q .none σ) (qx : x ∉ rs.map (·.1) → X "NoRule" σ) : CallOk (T12 w s) (d + 1) X (.mth "Grammar" "need") [.ref g, .str x] Q σ := by
  obtain ⟨C, hC⟩ := gr_cls (w := w) (s := s)
  obtain ⟨a, c, e, h5, h7⟩ := hG
  refine CallOk.goM TO rfl rfl ?_
  refine AttrOk.of h5 rfl rfl hC.cls hC.table <| Cmp.ninD h7 tabKV_any ?_
  refine Br.mk (fun h => Stx.mk <| StOk.raise TO rfl rfl rfl rfl rfl (by kernel_rfl) (qx (by simpa using h))) fun h => q (by simpa using h)
theorem fn_partT (TO : TopOk (T12 w s)) (hn : (rs.map (·.1)).Nodup) (hG : GrT rs g gb σ) {x : Str} (q : ∀ r ∈ rs, r.1 = x → Q r.2.v σ) (qx : x ∉ rs.map (·.1) → X "NoRule" σ) : CallOk (T12 w s) (d + 2) X (.mth "Grammar" "part") [.ref g, .str x] Q σ := by
  obtain ⟨C, hC⟩ := gr_cls (w := w) (s := s)
  have hG' := hG
  obtain ⟨a, c, e, h5, h7⟩ := hG
  refine CallOk.goM TO rfl rfl ?_
  refine MethOk.own h5 rfl hC.cls hC.need <| Cal.mk <| fn_needT TO hG' (fun hx => ?_) qx
  obtain ⟨r, hr, rfl⟩ := List.mem_map.mp hx
  exact AttrOk.of h5 rfl rfl hC.cls hC.table <| Itm.dict h7 (tabKV_get hn hr) (q r hr rfl)

/-- of_rule with a Memory: an answer has come -/
theorem rule_ans (TO : TopOk (T12 w s)) {n : Str} {i t h l k m a b la : Nat} {gv : V} {kvs : List ((Str × Int) × V)} {ev : V} {us : List V} (h0 : σ[l]? = some (.inst "Frame" (frF (Pt.rule n).v i t h k))) (h1 : σ[m]? = some (.inst "Memory" (mmF a b))) (h2 : σ[a]? = some (.tdict kvs)) (h3 : σ[la]? = some (.list us)) (hm : m ≠ a) (hz : kvs.length ≤ sizeLine) (hu : us.length ≤ sizeLine)
    (q : ∀ σ₁, σ₁ = (σ ++ [MObj.list us]).set a (.tdict (setTK kvs (n, i) (.tup [ev, .ref σ.length]))) → (ev = .none ∧ Q (.tup [.none, .tup [.none, .ref σ₁.length]]) (σ₁ ++ [.list []])) ∨ ∃ e, ev = .int e ∧ Q (.tup [.none, .tup [.int e, .ref σ₁.length]]) (σ₁ ++ [.list [prV n i]])) :
    CallOk (T12 w s) (d + 4) X (.glob "of_rule") [.ref l, .tup [ev, .ref la], gv, .ref m] Q σ := by
  obtain ⟨C, hC⟩ := fr_cls (w := w) (s := s)
  obtain ⟨M, hM⟩ := mm_cls (w := w) (s := s)
  refine CallOk.go TO rfl rfl ?_
  exact AttrOk.of h0 rfl rfl hC.cls hC.piece <| Cmp.notN (r := false) rfl <| MethOk.own h1 rfl hM.cls hM.ended <| AttrOk.of h0 rfl rfl hC.cls hC.place <| Cal.mk <| fn_ended (d := d) TO h1 h2 h3 hm hz hu q
/-- of_rule with a Memory: no answer yet -/
theorem rule_none (TO : TopOk (T12 w s)) (hn : (rs.map (·.1)).Nodup) {n : Str} {i t h l k m a b : Nat} {kvs : List ((Str × Int) × V)} {os : List V} (h0 : σ[l]? = some (.inst "Frame" (frF (Pt.rule n).v i t h k))) (h1 : σ[m]? = some (.inst "Memory" (mmF a b))) (h2 : σ[a]? = some (.tdict kvs)) (h3 : σ[b]? = some (.list os)) (hz : os.length ≤ sizeLine)
    (hG : GrT rs g gb (σ.set b (.list (os ++ [prV n i])))) (hb : b ≠ l)
    (q0 : kvs.find? (fun kv => kv.1 = (n, (i : Int))) = none → ∀ r ∈ rs, r.1 = n → Q (.tup [.tup [r.2.v, .int i], .none]) (σ.set b (.list (os ++ [prV n i]))))
    (qx : n ∈ rs.map (·.1))
    (q1 : ∀ v, (kvs.find? fun kv => kv.1 = (n, (i : Int))).map (·.2) = some v → (∃ l, v = .tup [.none, .ref l] ∧ Q (.tup [.none, .tup [.none, .ref σ.length]]) (σ ++ [.list []])) ∨ ∃ e l, v = .tup [.int e, .ref l] ∧ Q (.tup [.none, .tup [.int e, .ref σ.length]]) (σ ++ [.list [prV n i]])) :
    CallOk (T12 w s) (d + 4) X (.glob "of_rule") [.ref l, .none, .ref g, .ref m] Q σ := by
  obtain ⟨C, hC⟩ := fr_cls (w := w) (s := s)
  obtain ⟨M, hM⟩ := mm_cls (w := w) (s := s)
  obtain ⟨G, hGc⟩ := gr_cls (w := w) (s := s)
  refine CallOk.go TO rfl rfl ?_
  refine AttrOk.of h0 rfl rfl hC.cls hC.piece <| Cmp.notN (r := true) rfl <| MethOk.own h1 rfl hM.cls hM.known <| AttrOk.of h0 rfl rfl hC.cls hC.place <| Cal.mk <| fn_known (d := d + 1) TO h1 h2 (fun hf => ?_) fun v hv => ?_
  · have g0 : (σ.set b (.list (os ++ [prV n i])))[l]? = some (.inst "Frame" (frF (Pt.rule n).v i t h k)) := by rw [List.getElem?_set_ne hb]; exact h0
    refine Cmp.notN (r := true) rfl <| MethOk.own h1 rfl hM.cls hM.begun <| AttrOk.of h0 rfl rfl hC.cls hC.place <| Cal.mk <| fn_begin (d := d + 1) TO h1 h3 hz ?_
    have hG2 := hG
    obtain ⟨ga, gc, ge, h5, h7⟩ := hG
    refine MethOk.own h5 rfl hGc.cls hGc.part <| Cal.mk <| fn_partT (d := d + 1) TO hn hG2 (fun r hr e => ?_) fun h => absurd qx h
    exact AttrOk.of g0 rfl rfl hC.cls hC.place <| q0 hf r hr e
  · rcases q1 v hv with ⟨l', e, q⟩ | ⟨x, l', e, q⟩
    · exact .inl ⟨l', e, Cmp.notN (r := false) rfl q⟩
    · exact .inr ⟨x, l', e, Cmp.notN (r := false) rfl q⟩
end Mine

open PySem PySem.W PyProof.Rows
set_option maxRecDepth 100000
namespace Mine
variable {w : World} {s : Shared} {d : Nat} {X : QX} {Q : QE} {σ : Hp} {β κ : Type} {B : Bk β κ} {R : BRep β κ} {G : Str → Pt}
set_option maxHeartbeats 4000000

noncomputable def PcOk (ns : List Str) (p : Pt) : Prop := Pt.All Pt.few p ∧ ∀ n, p.Asks n → n ∈ ns
theorem PcOk.kid {ns : List Str} {p q : Pt} (h : PcOk ns p) (hq : q ∈ p.kids) : PcOk ns q := by
  obtain ⟨⟨_, h1⟩, h2⟩ := h
  exact ⟨h1 q hq, fun n hn => h2 n (.deep hq hn)⟩
noncomputable def partOf (rs : List (Str × Pt)) (n : Str) : Pt := ((rs.find? fun r => r.1 = n).map (·.2)).getD .any
theorem partOf_eq {rs : List (Str × Pt)} (hn : (rs.map (·.1)).Nodup) {r : Str × Pt} (hr : r ∈ rs) : partOf rs r.1 = r.2 := by
  unfold partOf
  induction rs with
  | nil => cases hr
  | cons x xs ih =>
    rw [List.map_cons, List.nodup_cons] at hn
    rw [List.find?_cons]
    by_cases hx : x.1 = r.1
    · rcases List.mem_cons.mp hr with rfl | hr
      · simp
      · exact absurd (List.mem_map.mpr ⟨r, hr, hx.symm⟩) hn.1
    · rcases List.mem_cons.mp hr with rfl | hr
      · exact absurd rfl hx
      · rw [decide_eq_false hx]; exact ih hn.2 hr
noncomputable def Fr.wait (f : Fr κ) : Prop := match f.piece with
  | .row ps | .alt ps => f.turn < ps.length
  | _ => True
theorem On.put2 {A : List Nat} {k l : Nat} {x y : MObj} (hk : k ∈ A) (hl : l ∈ A) : On σ A ((σ.set k x).set l y) A := (On.put hk).trans (On.put hl) (by simp)
theorem less_on {τ : Hp} {A : List Nat} {l k : Nat} : On τ (l :: k :: A) τ A := .less fun x hx => List.mem_cons_of_mem _ (List.mem_cons_of_mem _ hx)
/-- what a step leaves; A: the places that may change, but for the frame's own -/
inductive StepR (R : BRep β κ) (σ' : Hp) (A : List Nat) (l k : Nat) : Out β κ → V → Prop where
  | push {f : Fr κ} {p : Pt} {i : Nat} {b' : β} (h1 : FrAt R.K σ' (l :: k :: A) f l k) (h2 : R.is σ' (l :: k :: A) b') : StepR R σ' A l k (.push f p i b') (.tup [.tup [p.v, .int i], .none])
  | pop {an : An κ} {b' : β} {av : V} (h1 : AnAt R.K σ' A an av) (h2 : R.is σ' A b') : StepR R σ' A l k (.pop an b') (.tup [.none, av])
/-- all is ready for a step -/
structure Rdy (B : Bk β κ) (R : BRep β κ) (σ : Hp) (A : List Nat) (l k : Nat) (f : Fr κ) (b : β) (an : Option (An κ)) (av : V) : Prop where
  fr : FrAt R.K σ (l :: k :: A) f l k
  bk : R.is σ (l :: k :: A) b
  ans : AnO R.K σ (l :: k :: A) an av
  few : FewS B f an b
  hk : k ∉ A
  hl : l ∉ A
  own : ∀ x ∈ R.own, x ∈ A
  hA : ∀ x ∈ A, x < σ.length
/-- what is asked of a step -/
structure StepQ (B : Bk β κ) (R : BRep β κ) (G : Str → Pt) (cs : List Nat) (σ : Hp) (A : List Nat) (l k : Nat) (f : Fr κ) (b : β) (an : Option (An κ)) (Q : QE) (X : QX) : Prop where
  q : ∀ v σ', On σ (l :: k :: R.own) σ' (l :: k :: R.own) → σ.length ≤ σ'.length → StepR R σ' A l k (stepOf G cs B f an b) v → Q v σ'
  x : ∀ σ', On σ (l :: k :: R.own) σ' (l :: k :: R.own) → σ.length ≤ σ'.length → stepOf G cs B f an b = .stop → X "TooLong" σ'
variable {cs : List Nat} {A : List Nat} {i t h l k : Nat} {ks : List κ} {b : β} {an : Option (An κ)} {av : V}
theorem StepQ.to {f : Fr κ} {o : Out β κ} {v : V} {σ' : Hp} (q : StepQ B R G cs σ A l k f b an Q X) (e : stepOf G cs B f an b = o) (on : On σ (l :: k :: R.own) σ' (l :: k :: R.own)) (hl : σ.length ≤ σ'.length) (h : StepR R σ' A l k o v) : Q v σ' := q.q v σ' on hl (e ▸ h)
theorem Rdy.fresh {f : Fr κ} (r : Rdy B R σ A l k f b an av) {e : Option Nat} : AnAt R.K (σ ++ [.list []]) A (e, []) (.tup [endV e, .ref σ.length]) := ⟨σ.length, [], rfl, fun hx => Nat.lt_irrefl _ (r.hA _ hx), get_new, rfl⟩
theorem Rdy.lk {f : Fr κ} (r : Rdy B R σ A l k f b an av) : l ≠ k := by
  obtain ⟨vs, f1, f2, f3⟩ := r.fr
  exact fun e => by rw [e, f2] at f1; cases f1
/-- the book, behind what was laid -/
theorem Rdy.bkU {f : Fr κ} (r : Rdy B R σ A l k f b an av) {x : MObj} : R.is (σ ++ [x]) A b := (R.keep r.bk .up fun x hx => List.getElem?_append_left (r.hA x (r.own x hx))) |> fun h => R.keep h less_on fun _ _ => rfl
theorem Rdy.bkA {f : Fr κ} (r : Rdy B R σ A l k f b an av) : R.is σ A b := R.keep r.bk less_on fun _ _ => rfl
theorem Rdy.bkP {f : Fr κ} (r : Rdy B R σ A l k f b an av) {x y : MObj} : R.is ((σ.set k x).set l y) (l :: k :: A) b := R.keep r.bk (.put2 (by simp) (by simp)) fun z hz => by
  have h1 := r.own z hz
  rw [List.getElem?_set_ne (fun e : l = z => r.hl (e ▸ h1)), List.getElem?_set_ne (fun e : k = z => r.hk (e ▸ h1))]
theorem Rdy.sz {f : Fr κ} {e : Option Nat} {us : List κ} {la : Nat} {vs us' : List V} (r : Rdy B R σ A l k f b (some (e, us)) av) (h1 : KRs R.K σ (l :: k :: A) f.kids vs) (h2 : KRs R.K σ (l :: k :: A) us us') : vs.length + us'.length ≤ sizeLine := by
  have e1 := r.few.1
  have e2 : us.length ≤ 5000000 := r.few.2.1 _ rfl
  rw [h1.length, h2.length]
  exact szo (by lia)

theorem fn_row (TO : TopOk (T12 w s)) {ps : List Pt} (r : Rdy B R σ A l k ⟨.row ps, i, t, h, ks⟩ b an av) (hp : ps.length < 1000) (hw : an ≠ none → t < ps.length) (hw0 : t ≤ ps.length) (q : StepQ B R G cs σ A l k ⟨.row ps, i, t, h, ks⟩ b an Q X) :
    CallOk (T12 w s) (d + 2) X (.glob "of_row") [.ref l, av] Q σ := by
  obtain ⟨vs, f1, f2, f3⟩ := r.fr
  have han := r.ans
  rcases an with _ | ⟨_ | e, us⟩
  · cases han
    refine row_none TO f1 hp (fun hn => ?_) (fun p hp' => ?_) hw0
    · refine q.to (o := .pop (some h, ks) b) ?_ .refl (Nat.le_refl _) (.pop ⟨k, vs, rfl, r.hk, f2, f3.keep less_on⟩ r.bkA)
      simp only [stepOf, rowOut, hn]
    · refine q.to (o := .push ⟨.row ps, i, t, h, ks⟩ p h b) ?_ .refl (Nat.le_refl _) (.push r.fr r.bk)
      simp only [stepOf, rowOut, hp']
  · obtain ⟨la, us', rfl, h1, h2, h3⟩ := han
    exact row_no TO (q.to (o := .pop (none, []) b) rfl .up (by simp) (.pop r.fresh r.bkU))
  · obtain ⟨la, us', rfl, h1, h2, h3⟩ := han
    have on : ∀ {x y : MObj}, On σ (l :: k :: R.own) ((σ.set k x).set l y) (l :: k :: R.own) := .put2 (by simp) (by simp)
    have fr : ∀ {x : Nat}, FrAt R.K ((σ.set k (.list (vs ++ us'))).set l (.inst "Frame" (frF (Pt.row ps).v i (x : Nat) e k))) (l :: k :: A) ⟨.row ps, i, x, e, ks ++ us⟩ l k := fun {x} => by
      refine ⟨vs ++ us', List.getElem?_set_self (by simp; exact (List.getElem?_eq_some_iff.mp f1).1), ?_, (f3.append h3).keep (.put2 (by simp) (by simp))⟩
      rw [List.getElem?_set_ne r.lk, List.getElem?_set_self (List.getElem?_eq_some_iff.mp f2).1]
    refine row_yes TO f1 f2 h2 r.lk (fun e => h1 (by simp [e])) hp (r.sz (la := la) f3 h3) (fun σ' e' hn => ?_) (fun σ' e' p hp' => ?_) (hw (by simp))
    · subst e'
      obtain ⟨vs', g1, g2, g3⟩ := fr (x := t + 1)
      refine q.to (o := .pop (some e, ks ++ us) b) ?_ on (by simp) (.pop ⟨k, vs', rfl, r.hk, g2, g3.keep less_on⟩ (R.keep r.bkP less_on fun _ _ => rfl))
      simp only [stepOf, rowOut, Fr.on, Fr.nxt, hn]
    · subst e'
      refine q.to (o := .push ⟨.row ps, i, t + 1, e, ks ++ us⟩ p e b) ?_ on (by simp) (.push fr r.bkP)
      simp only [stepOf, rowOut, Fr.on, Fr.nxt, hp']
theorem fn_alt (TO : TopOk (T12 w s)) {ps : List Pt} (r : Rdy B R σ A l k ⟨.alt ps, i, t, h, ks⟩ b an av) (hp : ps.length < 1000) (hw : an ≠ none → t < ps.length) (hw0 : t ≤ ps.length) (q : StepQ B R G cs σ A l k ⟨.alt ps, i, t, h, ks⟩ b an Q X) :
    CallOk (T12 w s) (d + 2) X (.glob "of_choice") [.ref l, av] Q σ := by
  obtain ⟨vs, f1, f2, f3⟩ := r.fr
  have han := r.ans
  rcases an with _ | ⟨_ | e, us⟩
  · cases han
    refine alt_none TO f1 hp (fun hn => ?_) (fun p hp' => ?_) hw0
    · refine q.to (o := .pop (none, []) b) ?_ .up (by simp) (.pop r.fresh r.bkU)
      simp only [stepOf, altOut, hn]
    · refine q.to (o := .push ⟨.alt ps, i, t, h, ks⟩ p i b) ?_ .refl (Nat.le_refl _) (.push r.fr r.bk)
      simp only [stepOf, altOut, hp']
  rotate_left
  · obtain ⟨la, us', rfl, h1, h2, h3⟩ := han
    exact alt_yes TO (q.to (o := .pop (some e, us) b) rfl .refl (Nat.le_refl _) (.pop (AnAt.keep less_on ⟨la, us', rfl, h1, h2, h3⟩) r.bkA))
  · obtain ⟨la, us', rfl, h1, h2, h3⟩ := han
    have e0 : ∀ {o : MObj}, σ.set l o = (σ.set k (.list vs)).set l o := fun {o} => by
      congr 1
      apply List.ext_getElem?
      intro j
      by_cases hj : k = j
      · subst hj; rw [List.getElem?_set_self (List.getElem?_eq_some_iff.mp f2).1]; exact f2
      · rw [List.getElem?_set_ne hj]
    have on : ∀ {y : MObj}, On σ (l :: k :: R.own) (σ.set l y) (l :: k :: R.own) := .put (by simp)
    have fr : FrAt R.K (σ.set l (.inst "Frame" (frF (Pt.alt ps).v i (t + 1 : Nat) h k))) (l :: k :: A) ⟨.alt ps, i, t + 1, h, ks⟩ l k :=
      ⟨vs, List.getElem?_set_self (List.getElem?_eq_some_iff.mp f1).1, by rw [List.getElem?_set_ne r.lk]; exact f2, f3.keep (.put (by simp))⟩
    have bk2 : ∀ {y : MObj}, R.is (σ.set l y) (l :: k :: A) b := fun {y} => by rw [e0]; exact r.bkP
    refine alt_no TO f1 hp (fun σ' e hn => ?_) (fun σ' e p hp' => ?_) (hw (by simp))
    · subst e
      refine q.to (o := .pop (none, []) b) ?_ (on.trans .up (by simp)) (by simp) (.pop ⟨_, [], rfl, fun hx => by have := r.hA _ hx; simp at this, get_new, rfl⟩ (R.keep (R.keep bk2 .up fun x hx => List.getElem?_append_left (by rw [List.length_set]; exact r.hA x (r.own x hx))) less_on fun _ _ => rfl))
      simp only [stepOf, altOut, Fr.nxt, hn]
    · subst e
      refine q.to (o := .push ⟨.alt ps, i, t + 1, h, ks⟩ p i b) ?_ on (by simp) (.push fr bk2)
      simp only [stepOf, altOut, Fr.nxt, hp']
theorem fn_nt (TO : TopOk (T12 w s)) {p : Pt} (r : Rdy B R σ A l k ⟨.nt p, i, t, h, ks⟩ b an av) (q : StepQ B R G cs σ A l k ⟨.nt p, i, t, h, ks⟩ b an Q X) : CallOk (T12 w s) (d + 2) X (.glob "of_not") [.ref l, av] Q σ := by
  obtain ⟨vs, f1, f2, f3⟩ := r.fr
  have han := r.ans
  rcases an with _ | ⟨_ | e, us⟩
  · cases han
    exact nt_none TO f1 (q.to rfl .refl (Nat.le_refl _) (.push r.fr r.bk))
  rotate_left
  · obtain ⟨la, us', rfl, h1, h2, h3⟩ := han
    exact nt_yes TO (q.to rfl .up (by simp) (.pop r.fresh r.bkU))
  · obtain ⟨la, us', rfl, h1, h2, h3⟩ := han
    exact nt_no TO f1 (q.to rfl .up (by simp) (.pop r.fresh r.bkU))
theorem fn_many (TO : TopOk (T12 w s)) {p : Pt} (r : Rdy B R σ A l k ⟨.many p, i, t, h, ks⟩ b an av) (q : StepQ B R G cs σ A l k ⟨.many p, i, t, h, ks⟩ b an Q X) : CallOk (T12 w s) (d + 2) X (.glob "of_many") [.ref l, av] Q σ := by
  obtain ⟨vs, f1, f2, f3⟩ := r.fr
  have han := r.ans
  rcases an with _ | ⟨_ | e, us⟩
  · cases han
    exact many_none TO f1 (q.to rfl .refl (Nat.le_refl _) (.push r.fr r.bk))
  · obtain ⟨la, us', rfl, h1, h2, h3⟩ := han
    exact many_no TO f1 (q.to rfl .refl (Nat.le_refl _) (.pop ⟨k, vs, rfl, r.hk, f2, f3.keep less_on⟩ r.bkA))
  · obtain ⟨la, us', rfl, h1, h2, h3⟩ := han
    by_cases he : e = h
    · subst he
      refine many_same TO f1 (q.to (o := .pop (some e, ks) b) ?_ .refl (Nat.le_refl _) (.pop ⟨k, vs, rfl, r.hk, f2, f3.keep less_on⟩ r.bkA))
      simp only [stepOf, if_true]
    · refine many_yes TO f1 f2 h2 r.lk (fun e => h1 (by simp [e])) (r.sz (la := la) f3 h3) he fun σ' e' => ?_
      subst e'
      refine q.to (o := .push ⟨.many p, i, t, e, ks ++ us⟩ p e b) ?_ (.put2 (by simp) (by simp)) (by simp) (.push ⟨vs ++ us', List.getElem?_set_self (by simp; exact (List.getElem?_eq_some_iff.mp f1).1), ?_, (f3.append h3).keep (.put2 (by simp) (by simp))⟩ r.bkP)
      · simp only [stepOf, he, if_false, Fr.on]
      · rw [List.getElem?_set_ne r.lk, List.getElem?_set_self (List.getElem?_eq_some_iff.mp f2).1]
end Mine

open PySem PySem.W PyProof.Rows
set_option maxRecDepth 100000
namespace Mine
variable {w : World} {s : Shared} {d : Nat} {X : QX} {Q : QE} {σ : Hp} {rs : List (Str × Pt)} {g gb : Nat}
variable {cs : List Nat} {A : List Nat} {i t h l k m a b : Nat} {ks : List Kid} {mem : Mm} {an : Option (An Kid)} {av : V}
set_option maxHeartbeats 4000000

/-! a Memory -/
inductive MmAt (σ : Hp) (A : List Nat) (m a b : Nat) (mem : Mm) : Prop where
  | mk (kvs : List ((Str × Int) × V)) (h1 : σ[m]? = some (.inst "Memory" (mmF a b))) (h2 : σ[a]? = some (.tdict kvs)) (h3 : σ[b]? = some (.list (mem.order.map pV'))) (h4 : KeptR σ A mem.kept kvs) : MmAt σ A m a b mem
theorem MmAt.use {P : Prop} {σ : Hp} {A : List Nat} {m a b : Nat} {mem : Mm} (h : MmAt σ A m a b mem) (c : ∀ (kvs : List ((Str × Int) × V)), σ[m]? = some (.inst "Memory" (mmF a b)) → σ[a]? = some (.tdict kvs) → σ[b]? = some (.list (mem.order.map pV')) → KeptR σ A mem.kept kvs → P) : P := by
  obtain ⟨kvs, h1, h2, h3, h4⟩ := h
  exact c kvs h1 h2 h3 h4
theorem KeptR.got {P : Prop} {σ : Hp} {A : List Nat} {k : Kid} {e : Nat} {ks : List Kid} {xs : List (Kid × An Kid)} {kvs : List ((Str × Int) × V)} (h : KeptR σ A xs kvs) (hk : getM xs k = some (some e, ks)) (c : ∀ la, (kvs.find? fun kv => kv.1 = (k.1, (k.2 : Int))).map (·.2) = some (.tup [endV (some e), .ref la]) → la ∉ A → σ[la]? = some (.list (ks.map pV')) → P) : P := by
  rcases h.get (k := k) with ⟨x1, _⟩ | ⟨an2, v, x1, x2, la, vs, rfl, x3, x4, x5⟩
  · rw [hk] at x1; cases x1
  rw [hk] at x1; cases x1
  obtain rfl := memKid_eq x5
  exact c la x2 x3 x4
noncomputable def memRep (m a b : Nat) : BRep Mm Kid where
  K := memKid
  own := [m, a, b]
  is := fun σ A mem => MmAt σ A m a b mem
  keep := fun h o e => by
    obtain ⟨kvs, h1, h2, h3, h4⟩ := h
    exact ⟨kvs, (e m (by simp)).trans h1, (e a (by simp)).trans h2, (e b (by simp)).trans h3, h4.keep o⟩
theorem fn_sgn (TO : TopOk (T12 w s)) {p : Pt} (hp : p.isLf = true) (hc : cs.length < 100000) (r : Rdy memBk (memRep m a b) σ A l k ⟨p, i, t, h, ks⟩ mem an av) (q : StepQ memBk (memRep m a b) (partOf rs) cs σ A l k ⟨p, i, t, h, ks⟩ mem an Q X) :
    CallOk (T12 w s) (d + 3) X (.glob "of_sign") [.ref l, .str (S cs), .ref m] Q σ := by
  obtain ⟨vs, f1, f2, f3⟩ := r.fr
  refine MmAt.use r.bk fun kvs h1 h2 h3 h4 => ?_
  have e : stepOf (partOf rs) cs memBk ⟨p, i, t, h, ks⟩ an mem = leafOut cs memBk p ⟨p, i, t, h, ks⟩ mem := by cases p <;> first | rfl | cases hp
  refine sign_mem TO hp f1 h1 hc (fun c hc' ht => ?_) fun hno => ?_
  · refine q.to (o := .pop (some (i + 1), []) mem) ?_ .up (by simp) (.pop r.fresh r.bkU)
    rw [e]; simp [leafOut, memBk, hc', ht]
  · refine q.to (o := .pop (none, []) mem) ?_ .up (by simp) (.pop r.fresh r.bkU)
    rw [e]
    cases hg : cs[i]? with
    | none => simp [leafOut, memBk, hg]
    | some c => simp [leafOut, memBk, hg, hno c hg]
theorem fn_rul (TO : TopOk (T12 w s)) (hn : (rs.map (·.1)).Nodup) {n : Str} (hG : GrT rs g gb σ) (hg : g ∉ A) (hgb : gb ∉ A) (hin : n ∈ rs.map (·.1)) (r : Rdy memBk (memRep m a b) σ A l k ⟨.rule n, i, t, h, ks⟩ mem an av) (q : StepQ memBk (memRep m a b) (partOf rs) cs σ A l k ⟨.rule n, i, t, h, ks⟩ mem an Q X) :
    CallOk (T12 w s) (d + 4) X (.glob "of_rule") [.ref l, av, .ref g, .ref m] Q σ := by
  obtain ⟨vs, f1, f2, f3⟩ := r.fr
  refine MmAt.use r.bk fun kvs h1 h2 h3 h4 => ?_
  have z1 : kvs.length ≤ sizeLine := by rw [h4.length]; have : mem.kept.length ≤ 5000000 := r.few.2.2.1; exact szo (by exact Nat.le_trans this (of_decide_eq_true (id (Eq.refl true))))
  have z2 : (mem.order.map pV').length ≤ sizeLine := by rw [List.length_map]; have : mem.order.length ≤ 5000000 := r.few.2.2.2; exact szo (by exact Nat.le_trans this (of_decide_eq_true (id (Eq.refl true))))
  have nma : m ≠ a := fun e => by rw [e, h2] at h1; cases h1
  have nab : a ≠ b := fun e => by rw [e, h3] at h2; cases h2
  have nmb : b ≠ m := fun e => by rw [e, h1] at h3; cases h3
  have hbA : b ∈ A := r.own b (by simp [memRep])
  have haA : a ∈ A := r.own a (by simp [memRep])
  have nbl : b ≠ l := fun e => r.hl (e ▸ hbA)
  have nbk : b ≠ k := fun e => r.hk (e ▸ hbA)
  have ob : b ∈ (memRep m a b).own := by simp [memRep]
  have oa : a ∈ (memRep m a b).own := by simp [memRep]
  have han := r.ans
  rcases an with _ | x
  · cases han
    have hG2 : GrT rs g gb (σ.set b (.list (mem.order.map pV' ++ [prV n i]))) := hG.keep (A' := A) (.put hbA) hg hgb
    refine rule_none TO hn f1 h1 h2 h3 z2 hG2 nbl (fun hf x hx hxn => ?_) hin fun v hv => ?_
    · subst hxn
      rcases h4.get (k := (x.1, i)) with ⟨k0, _⟩ | ⟨_, _, _, k1, _⟩
      · have o : On σ (l :: k :: A) (σ.set b (.list (mem.order.map pV' ++ [prV x.1 i]))) (l :: k :: A) := .put (by simp [hbA])
        refine q.to (o := .push ⟨.rule x.1, i, t, h, ks⟩ x.2 i ⟨mem.kept, mem.order ++ [(x.1, i)]⟩) (by simp [stepOf, memBk, k0, partOf_eq hn hx]) (.put (by simp [ob])) (by simp) ?_
        refine .push ⟨vs, by rw [List.getElem?_set_ne nbl]; exact f1, by rw [List.getElem?_set_ne nbk]; exact f2, f3.keep o⟩ ⟨kvs, by rw [List.getElem?_set_ne nmb]; exact h1, by rw [List.getElem?_set_ne (Ne.symm nab)]; exact h2, ?_, h4.keep o⟩
        rw [List.getElem?_set_self (List.getElem?_eq_some_iff.mp h3).1]
        simp [pV', prV]
      · rw [hf] at k1; cases k1
    · rcases h4.get (k := (n, i)) with ⟨_, k0⟩ | ⟨x, u, k0, k1, la, us', rfl, k2, k3, k4⟩
      · rw [k0] at hv; cases hv
      · rw [k1] at hv; cases hv
        have e : stepOf (partOf rs) cs memBk ⟨.rule n, i, t, h, ks⟩ none mem = .pop (tell (n, i) x) mem := by simp [stepOf, memBk, k0]
        obtain ⟨x1, x2⟩ := x
        cases x1 with
        | none => exact .inl ⟨la, rfl, q.to e .up (by simp) (.pop r.fresh r.bkU)⟩
        | some y => exact .inr ⟨y, la, rfl, q.to e .up (by simp) (.pop ⟨σ.length, _, rfl, fun hx => Nat.lt_irrefl _ (r.hA _ hx), get_new, memKid_krs⟩ r.bkU)⟩
  · obtain ⟨la, us', rfl, k1, k2, k3⟩ := han
    have e : stepOf (partOf rs) cs memBk ⟨.rule n, i, t, h, ks⟩ (some x) mem = .pop (tell (n, i) x) ⟨setM mem.kept (n, i) x, mem.order⟩ := rfl
    have hu : us'.length ≤ sizeLine := by
      have l2 : us'.length = x.2.length := k3.length
      have e2 : x.2.length ≤ 5000000 := r.few.2.1 _ rfl
      exact szo (by lia)
    refine rule_ans TO f1 h1 h2 k2 nma z1 hu fun σ₁ e1 => ?_
    have o0 : On σ (l :: k :: A) σ₁ (l :: k :: A) := by rw [e1]; exact On.trans .up (.put (by simp [haA])) (by simp)
    have oq : On σ (l :: k :: (memRep m a b).own) σ₁ (l :: k :: (memRep m a b).own) := by rw [e1]; exact On.trans .up (.put (by simp [oa])) (by simp)
    have la1 : σ.length ≠ a := fun e => Nat.lt_irrefl _ (e ▸ r.hA _ haA)
    have len1 : σ₁.length = σ.length + 1 := by rw [e1]; simp
    have mm1 : MmAt σ₁ A m a b ⟨setM mem.kept (n, i) x, mem.order⟩ := by
      refine ⟨_, ?_, ?_, ?_, (h4.keep (o0.trans less_on (by lia))).set (k := (n, i)) (v := .tup [endV x.1, .ref σ.length]) ⟨σ.length, us', rfl, fun hx => Nat.lt_irrefl _ (r.hA _ hx), ?_, k3.keep (o0.trans less_on (by lia))⟩⟩
      · rw [e1, List.getElem?_set_ne (Ne.symm nma)]; exact get_up h1
      · rw [e1, List.getElem?_set_self (by simp; have := r.hA _ haA; lia)]
      · rw [e1, List.getElem?_set_ne nab]; exact get_up h3
      · rw [e1, List.getElem?_set_ne (Ne.symm la1)]; exact get_new
    have mm2 : ∀ {x : MObj}, (memRep m a b).is (σ₁ ++ [x]) A _ := fun {x} => (memRep m a b).keep (b := ⟨setM mem.kept _ _, mem.order⟩) mm1 .up fun y hy => List.getElem?_append_left (by have := r.hA y (r.own y hy); lia)
    obtain ⟨x1, x2⟩ := x
    have nf : σ₁.length ∉ A := fun hx => by have := r.hA _ hx; lia
    cases x1 with
    | none => exact .inl ⟨rfl, q.to e (oq.trans .up (by lia)) (by simp; lia) (.pop ⟨σ₁.length, [], rfl, nf, get_new, rfl⟩ mm2)⟩
    | some y => exact .inr ⟨y, rfl, q.to e (oq.trans .up (by lia)) (by simp; lia) (.pop ⟨σ₁.length, _, rfl, nf, get_new, memKid_krs⟩ mm2)⟩
end Mine

open PySem PySem.W PyProof.Rows
set_option maxRecDepth 100000
namespace Mine
variable {w : World} {s : Shared} {d : Nat} {X : QX} {Q : QE} {σ : Hp} {rs : List (Str × Pt)} {g gb m : Nat} {β κ : Type} {B : Bk β κ} {R : BRep β κ}
variable {cs : List Nat} {A : List Nat} {l k : Nat} {b : β} {an : Option (An κ)} {av : V} {f : Fr κ}
set_option maxHeartbeats 4000000

/-- what a book at m does with signs and rules -/
structure BookOk (T : Tp) (B : Bk β κ) (R : BRep β κ) (rs : List (Str × Pt)) (g gb m : Nat) : Prop where
  sgn : ∀ {d X Q σ cs A p i t h l k ks b an av}, p.isLf = true → cs.length < 100000 → Rdy B R σ A l k ⟨p, i, t, h, ks⟩ b an av → StepQ B R (partOf rs) cs σ A l k ⟨p, i, t, h, ks⟩ b an Q X → CallOk T (d + 3) X (.glob "of_sign") [.ref l, .str (S cs), .ref m] Q σ
  rul : ∀ {d X Q σ cs A n i t h l k ks b an av}, GrT rs g gb σ → g ∉ A → gb ∉ A → n ∈ rs.map (·.1) → Rdy B R σ A l k ⟨.rule n, i, t, h, ks⟩ b an av → StepQ B R (partOf rs) cs σ A l k ⟨.rule n, i, t, h, ks⟩ b an Q X → CallOk T (d + 4) X (.glob "of_rule") [.ref l, av, .ref g, .ref m] Q σ

theorem fn_stepped (TO : TopOk (T12 w s)) (hB : BookOk (T12 w s) B R rs g gb m) (hG : GrT rs g gb σ) (hg : g ∉ A) (hgb : gb ∉ A) (hc : cs.length < 100000) (hpc : PcOk (rs.map (·.1)) f.piece) (hw : an ≠ none → f.wait) (hw0 : an = none → f.turn = 0) (r : Rdy B R σ A l k f b an av) (q : StepQ B R (partOf rs) cs σ A l k f b an Q X) :
    CallOk (T12 w s) (d + 5) X (.glob "stepped") [.ref l, av, .ref g, .str (S cs), .ref m] Q σ := by
  obtain ⟨C, hC⟩ := fr_cls (w := w) (s := s)
  obtain ⟨vs, f1, f2, f3⟩ := r.fr
  refine CallOk.go TO rfl rfl ?_
  obtain ⟨p, i, t, h, ks⟩ := f
  obtain ⟨⟨few, _⟩, asks⟩ := hpc
  have w0 : an ≠ none → (∀ ps, (p = .row ps ∨ p = .alt ps) → t < ps.length) := fun e ps hp => by
    have := hw e
    rcases hp with rfl | rfl <;> exact this
  have w1 : ∀ ps, (p = .row ps ∨ p = .alt ps) → t ≤ ps.length := fun ps hp => by
    cases an with
    | none => rw [show t = 0 from hw0 rfl]; exact Nat.zero_le _
    | some x => exact Nat.le_of_lt (w0 (by simp) ps hp)
  cases p with
  | row ps => exact AttrOk.of f1 rfl rfl hC.cls hC.piece <| Cal.mk <| fn_row (d := d + 2) TO r few (fun e => w0 e ps (.inl rfl)) (w1 ps (.inl rfl)) q
  | alt ps => exact AttrOk.of f1 rfl rfl hC.cls hC.piece <| Cal.mk <| fn_alt (d := d + 2) TO r few (fun e => w0 e ps (.inr rfl)) (w1 ps (.inr rfl)) q
  | many p => exact AttrOk.of f1 rfl rfl hC.cls hC.piece <| Cal.mk <| fn_many (d := d + 2) TO r q
  | nt p => exact AttrOk.of f1 rfl rfl hC.cls hC.piece <| Cal.mk <| fn_nt (d := d + 2) TO r q
  | rule n => exact AttrOk.of f1 rfl rfl hC.cls hC.piece <| Cal.mk <| hB.rul (d := d) hG hg hgb (asks n .here) r q
  | sign c => exact AttrOk.of f1 rfl rfl hC.cls hC.piece <| Cal.mk <| hB.sgn (d := d + 1) rfl hc r q
  | span c e => exact AttrOk.of f1 rfl rfl hC.cls hC.piece <| Cal.mk <| hB.sgn (d := d + 1) rfl hc r q
  | any => exact AttrOk.of f1 rfl rfl hC.cls hC.piece <| Cal.mk <| hB.sgn (d := d + 1) rfl hc r q
end Mine

open PySem PySem.W PyProof.Rows
set_option maxRecDepth 100000
namespace Mine
variable {w : World} {s : Shared} {d : Nat} {X : QX} {Q : QE} {σ : Hp} {rs : List (Str × Pt)} {g gb : Nat} {β κ : Type} {B : Bk β κ} {R : BRep β κ}
set_option maxHeartbeats 4000000

noncomputable def FrsAt (K : KRep κ) (σ : Hp) (A : List Nat) : List (Nat × Nat) → List (Fr κ) → Prop
  | [], fs => fs = []
  | p :: ls, fs => ∃ f r, fs = f :: r ∧ FrAt K σ A f p.1 p.2 ∧ FrsAt K σ A ls r
noncomputable def locsOf (ls : List (Nat × Nat)) : List Nat := ls.flatMap fun p => [p.1, p.2]
noncomputable def Waits (an : Option (An κ)) (fr : List (Fr κ)) : Prop := match an with
  | some _ => ∀ f ∈ fr, f.wait
  | none => match fr with
    | [] => True
    | f :: r => f.turn = 0 ∧ ∀ f ∈ r, f.wait
theorem FrsAt.length {K : KRep κ} {σ : Hp} {A : List Nat} : ∀ {ls : List (Nat × Nat)} {fs : List (Fr κ)}, FrsAt K σ A ls fs → fs.length = ls.length
  | [], _, h => by cases h; rfl
  | _ :: _, _, h => by
    obtain ⟨f, r, rfl, _, h2⟩ := h
    simp [FrsAt.length h2]
/-- frames whose places stay -/
theorem FrsAt.keep {K : KRep κ} {σ σ' : Hp} {A A' : List Nat} (o : On σ A σ' A') : ∀ {ls : List (Nat × Nat)} {fs : List (Fr κ)}, FrsAt K σ A ls fs → (∀ x ∈ locsOf ls, σ'[x]? = σ[x]?) → FrsAt K σ' A' ls fs
  | [], _, h, _ => h
  | p :: ls, _, h, e => by
    obtain ⟨f, r, rfl, h1, h2⟩ := h
    exact ⟨f, r, rfl, h1.keep o (e _ (by simp [locsOf])) (e _ (by simp [locsOf])), FrsAt.keep o h2 fun x hx => e x (by simp only [locsOf, List.flatMap_cons]; exact List.mem_append_right _ hx)⟩
theorem seq_last {n : Nat} : seqIndex? (-1) (n + [V.none].length) = some n := by
  unfold seqIndex?
  simp
  lia
/-- what a step that asks for a part leaves -/
noncomputable def OutW (ns : List Str) (q : Pt) : Out β κ → Prop
  | .push f p _ _ => f.wait ∧ f.piece = q ∧ PcOk ns p
  | _ => True
theorem step_push {cs : List Nat} {f : Fr κ} {an : Option (An κ)} {b : β} (hp : PcOk (rs.map (·.1)) f.piece) (hr : ∀ n ∈ rs.map (·.1), PcOk (rs.map (·.1)) (partOf rs n)) : OutW (rs.map (·.1)) f.piece (stepOf (partOf rs) cs B f an b) := by
  obtain ⟨q, j, t, e, ks⟩ := f
  have row : ∀ {ps : List Pt} {F : Fr κ}, F.piece = .row ps → PcOk (rs.map (·.1)) (.row ps) → OutW (rs.map (·.1)) (.row ps) (rowOut ps F b) := fun {ps F} hF h => by
    unfold rowOut
    cases hg : ps[F.turn]? with
    | some p => exact ⟨by unfold Fr.wait; rw [hF]; exact (List.getElem?_eq_some_iff.mp hg).1, hF, h.kid (List.mem_of_getElem? hg)⟩
    | none => exact trivial
  have alt : ∀ {ps : List Pt} {F : Fr κ}, F.piece = .alt ps → PcOk (rs.map (·.1)) (.alt ps) → OutW (rs.map (·.1)) (.alt ps) (altOut ps F b) := fun {ps F} hF h => by
    unfold altOut
    cases hg : ps[F.turn]? with
    | some p => exact ⟨by unfold Fr.wait; rw [hF]; exact (List.getElem?_eq_some_iff.mp hg).1, hF, h.kid (List.mem_of_getElem? hg)⟩
    | none => exact trivial
  have leaf : ∀ {p q : Pt} {F : Fr κ}, OutW (rs.map (·.1)) p (leafOut cs B q F b) := fun {p q F} => by
    unfold leafOut
    cases B.look b with
    | none => exact trivial
    | some b' =>
      dsimp only
      cases cs[F.place]? with
      | none => exact trivial
      | some c =>
        dsimp only
        cases q.takesC c with
        | false => exact trivial
        | true => exact trivial
  cases q with
  | row ps =>
    rcases an with _ | ⟨_ | e', us⟩
    · exact row rfl hp
    · exact trivial
    · exact row rfl hp
  | alt ps =>
    rcases an with _ | ⟨_ | e', us⟩
    · exact alt rfl hp
    · exact alt rfl hp
    · exact trivial
  | many x =>
    have hx := hp.kid (List.mem_singleton.mpr rfl)
    rcases an with _ | ⟨_ | e', us⟩
    · exact ⟨trivial, rfl, hx⟩
    · exact trivial
    · show OutW _ _ (if e' = e then _ else _)
      by_cases he : e' = e
      · rw [if_pos he]; exact trivial
      · rw [if_neg he]; exact ⟨trivial, rfl, hx⟩
  | nt x =>
    rcases an with _ | ⟨_ | e', us⟩
    · exact ⟨trivial, rfl, hp.kid (List.mem_singleton.mpr rfl)⟩
    · exact trivial
    · exact trivial
  | rule n =>
    cases an with
    | some x => exact trivial
    | none =>
      simp only [stepOf]
      cases B.known b n j with
      | some x => exact trivial
      | none =>
        dsimp only
        cases B.begun b n j with
        | none => exact trivial
        | some b' => exact ⟨trivial, rfl, hr n (hp.2 n .here)⟩
  | sign c => exact leaf
  | span c e => exact leaf
  | any => exact leaf
theorem loc_cons {l k lf : Nat} {ls : List (Nat × Nat)} {o : List Nat} : locsOf ((l, k) :: ls) ++ lf :: o = l :: k :: (locsOf ls ++ lf :: o) := by simp [locsOf]
/-- the machine in the heap: the frames' list at lf, the frames at ls -/
structure Wk (R : BRep β κ) (rs : List (Str × Pt)) (lf : Nat) (σ : Hp) (st : Ms β κ) (ls : List (Nat × Nat)) (av : V) (σ' : Hp) : Prop where
  fl : σ'[lf]? = some (.list (ls.map fun p => V.ref p.1).reverse)
  frs : FrsAt R.K σ' (locsOf ls ++ lf :: R.own) ls st.fr
  an : AnO R.K σ' (locsOf ls ++ lf :: R.own) st.an av
  bk : R.is σ' (locsOf ls ++ lf :: R.own) st.bk
  nd : (locsOf ls ++ lf :: R.own).Nodup
  lt : ∀ x ∈ locsOf ls ++ lf :: R.own, x < σ'.length
  pc : ∀ f ∈ st.fr, PcOk (rs.map (·.1)) f.piece
  wt : Waits st.an st.fr
  on : On σ R.own σ' (locsOf ls ++ lf :: R.own)
  len : σ.length ≤ σ'.length
section
variable {lf l k : Nat} {f : Fr κ} {r : List (Fr κ)} {an : Option (An κ)} {b : β} {ls : List (Nat × Nat)} {av : V} {σ' σ₂ : Hp}
theorem Wk.init {name : Str} {i : Nat} (hnd : R.own.Nodup) (hlt : ∀ x ∈ R.own, x < σ.length) (hm : R.is σ R.own b) (hin : name ∈ rs.map (·.1)) : Wk R rs (σ.length + 2) σ ⟨[.new (.rule name) i], none, b⟩ [(σ.length, σ.length + 1)] .none (σ ++ [.inst "Frame" (frF (Pt.rule name).v i 0 i (σ.length + 1)), .list []] ++ [.list [.ref σ.length]]) := by
  have new2 : ∀ {x : Nat}, x ∈ R.own → x ≠ σ.length ∧ x ≠ σ.length + 1 ∧ x ≠ σ.length + 2 := fun hx => by have := hlt _ hx; lia
  have on0 : ∀ {x y z : MObj}, On σ R.own (σ ++ [x, y] ++ [z]) (locsOf [(σ.length, σ.length + 1)] ++ (σ.length + 2) :: R.own) := ⟨fun _ _ e _ => get_up (get_up e), fun x hx hl => by
    rcases List.mem_cons.mp hx with rfl | hx
    · exact absurd hl (Nat.lt_irrefl _)
    · rcases List.mem_cons.mp hx with rfl | hx
      · exact absurd hl (Nat.not_lt.mpr (Nat.le_succ _))
      · rcases List.mem_cons.mp hx with rfl | hx
        · exact absurd hl (Nat.not_lt.mpr (Nat.le_add_right _ _))
        · exact hx⟩
  refine ⟨by simp, ⟨_, _, rfl, ⟨[], ?_, by simp, rfl⟩, rfl⟩, rfl, R.keep hm on0 fun x hx => by rw [List.append_assoc]; exact List.getElem?_append_left (hlt x hx), ?_, fun x hx => ?_, fun f hf => ?_, ⟨rfl, nofun⟩, on0, by simp⟩
  · simp [frF]; exact ⟨rfl, rfl, rfl, rfl⟩
  · show (σ.length :: (σ.length + 1) :: (σ.length + 2) :: R.own).Nodup
    refine List.nodup_cons.mpr ⟨fun h => ?_, List.nodup_cons.mpr ⟨fun h => ?_, List.nodup_cons.mpr ⟨fun h => (new2 h).2.2 rfl, hnd⟩⟩⟩
    · rcases List.mem_cons.mp h with h | h
      · exact Nat.ne_of_lt (Nat.lt_succ_self _) h
      · rcases List.mem_cons.mp h with h | h
        · exact Nat.ne_of_lt (Nat.lt_add_of_pos_right (by decide)) h
        · exact (new2 h).1 rfl
    · rcases List.mem_cons.mp h with h | h
      · exact Nat.ne_of_lt (Nat.lt_succ_self _) h
      · exact (new2 h).2.1 rfl
  · have hx : x ∈ σ.length :: (σ.length + 1) :: (σ.length + 2) :: R.own := hx
    have e : ∀ {a b c : MObj}, (σ ++ [a, b] ++ [c]).length = σ.length + 3 := by simp
    rw [e]
    rcases List.mem_cons.mp hx with rfl | hx
    · exact Nat.lt_add_of_pos_right (by decide)
    · rcases List.mem_cons.mp hx with rfl | hx
      · exact Nat.add_lt_add_left (by decide) _
      · rcases List.mem_cons.mp hx with rfl | hx
        · exact Nat.lt_succ_self _
        · exact Nat.lt_add_right _ (hlt x hx)
  · cases List.mem_singleton.mp hf
    exact ⟨⟨by simp [Pt.few, Fr.new, Pt.kids], fun q hq => by simp [Fr.new, Pt.kids] at hq⟩, fun n hn => by
      cases hn with
      | here => exact hin
      | deep hq _ => simp [Fr.new, Pt.kids] at hq⟩
/-- the last frame is gone -/
theorem Wk.done {a : An κ} (W : Wk R rs lf σ ⟨[], some a, b⟩ [] av σ') : AnAt R.K σ' R.own a av ∧ R.is σ' R.own b ∧ On σ R.own σ' R.own := by
  have lo : On σ' (locsOf [] ++ lf :: R.own) σ' R.own := .less fun y hy => List.mem_cons_of_mem _ hy
  exact ⟨AnAt.keep lo W.an, R.keep W.bk lo fun _ _ => rfl, W.on.trans lo W.len⟩
variable (W : Wk R rs lf σ ⟨f :: r, an, b⟩ ((l, k) :: ls) av σ')
include W
theorem Wk.rdy (few : FewS B f an b) : Rdy B R σ' (locsOf ls ++ lf :: R.own) l k f b an av := by
  have nd := W.nd
  have lt := W.lt
  obtain ⟨_, _, e, hf, _⟩ := W.frs
  cases e
  have han := W.an
  have bk := W.bk
  rw [loc_cons] at nd lt hf han bk
  have nd2 := List.nodup_cons.mp nd
  exact ⟨hf, bk, han, few, (List.nodup_cons.mp nd2.2).1, fun h => nd2.1 (List.mem_cons_of_mem _ h), fun x hx => List.mem_append_right _ (List.mem_cons_of_mem _ hx), fun x hx => lt x (List.mem_cons_of_mem _ (List.mem_cons_of_mem _ hx))⟩
theorem Wk.out {g : Nat} (hg : g ∉ R.own) (hl : g < σ.length) : g ∉ locsOf ls ++ lf :: R.own := fun h => hg (W.on.live g (by rw [loc_cons]; exact List.mem_cons_of_mem _ (List.mem_cons_of_mem _ h)) hl)
theorem Wk.waits : (an ≠ none → f.wait) ∧ (an = none → f.turn = 0) ∧ ∀ x ∈ r, x.wait := by
  have wt := W.wt
  cases an with
  | none => exact ⟨fun e => absurd rfl e, fun _ => wt.1, wt.2⟩
  | some x => exact ⟨fun _ => wt f (List.mem_cons_self ..), nofun, fun y hy => wt y (List.mem_cons_of_mem _ hy)⟩
/-- what a step leaves as it was -/
theorem Wk.kept (o : On σ' (l :: k :: R.own) σ₂ (l :: k :: R.own)) : On σ' (l :: k :: (locsOf ls ++ lf :: R.own)) σ₂ (l :: k :: (locsOf ls ++ lf :: R.own)) ∧ (∀ x ∈ locsOf ls, σ₂[x]? = σ'[x]?) ∧ σ₂[lf]? = σ'[lf]? ∧ (∀ x ∈ locsOf ls, lf ≠ x) ∧ (∀ x ∈ R.own, lf ≠ x) ∧ lf ≠ l ∧ lf ≠ k := by
  have nd := W.nd
  have lt := W.lt
  rw [loc_cons] at nd lt
  have nd2 := List.nodup_cons.mp nd
  have nd3 := List.nodup_cons.mp nd2.2
  have nd4 := List.nodup_append.mp nd3.2
  have hln : l ∉ locsOf ls ++ lf :: R.own := fun h => nd2.1 (List.mem_cons_of_mem _ h)
  have same : ∀ x ∈ locsOf ls ++ [lf], σ₂[x]? = σ'[x]? := fun x hx => by
    have hA : x ∈ locsOf ls ++ lf :: R.own := by
      rcases List.mem_append.mp hx with h | h
      · exact List.mem_append_left _ h
      · exact List.mem_append_right _ (List.mem_singleton.mp h ▸ List.mem_cons_self ..)
    have hx' : x ∉ l :: k :: R.own := fun h => by
      rcases List.mem_cons.mp h with h | h
      · exact hln (h ▸ hA)
      · rcases List.mem_cons.mp h with h | h
        · exact nd3.1 (h ▸ hA)
        · rcases List.mem_append.mp hx with q | q
          · exact nd4.2.2 x q x (List.mem_cons_of_mem _ h) rfl
          · exact (List.nodup_cons.mp nd4.2.1).1 (List.mem_singleton.mp q ▸ h)
    have hl := lt x (List.mem_cons_of_mem _ (List.mem_cons_of_mem _ hA))
    rw [List.getElem?_eq_getElem hl]
    exact o.keep _ _ (List.getElem?_eq_getElem hl) hx'
  refine ⟨⟨fun x y e h => o.keep x y e fun hq => h ?_, fun _ h _ => h⟩, fun x hx => same x (List.mem_append_left _ hx), same lf (List.mem_append_right _ (List.mem_singleton.mpr rfl)), fun x hx e => nd4.2.2 x hx lf (List.mem_cons_self ..) e.symm, fun x hx e => (List.nodup_cons.mp nd4.2.1).1 (e ▸ hx), fun e => hln (e ▸ List.mem_append_right _ (List.mem_cons_self ..)), fun e => nd3.1 (e ▸ List.mem_append_right _ (List.mem_cons_self ..))⟩
  rcases List.mem_cons.mp hq with rfl | hq
  · exact List.mem_cons_self ..
  · rcases List.mem_cons.mp hq with rfl | hq
    · exact List.mem_cons_of_mem _ (List.mem_cons_self ..)
    · exact List.mem_cons_of_mem _ (List.mem_cons_of_mem _ (List.mem_append_right _ (List.mem_cons_of_mem _ hq)))
theorem Wk.pop {a' : An κ} {b' : β} {av' : V} (o : On σ' (l :: k :: R.own) σ₂ (l :: k :: R.own)) (hl : σ'.length ≤ σ₂.length) (h1 : AnAt R.K σ₂ (locsOf ls ++ lf :: R.own) a' av') (h2 : R.is σ₂ (locsOf ls ++ lf :: R.own) b') : Wk R rs lf σ ⟨r, some a', b'⟩ ls av' (σ₂.set lf (.list (ls.map fun p => V.ref p.1).reverse)) := by
  obtain ⟨k1, k2, k3, k4, k5, k6, k7⟩ := W.kept o
  have nd := W.nd
  have lt := W.lt
  have on := W.on
  obtain ⟨_, _, e, _, hrs⟩ := W.frs
  cases e
  rw [loc_cons] at nd lt on hrs
  have hlA : lf ∈ locsOf ls ++ lf :: R.own := List.mem_append_right _ (List.mem_cons_self ..)
  have o2 : On σ' (l :: k :: (locsOf ls ++ lf :: R.own)) (σ₂.set lf (.list (ls.map fun p => V.ref p.1).reverse)) (locsOf ls ++ lf :: R.own) := (k1.trans less_on hl).trans (.put hlA) hl
  refine ⟨List.getElem?_set_self (Nat.lt_of_lt_of_le (lt lf (List.mem_cons_of_mem _ (List.mem_cons_of_mem _ hlA))) hl), hrs.keep o2 fun x hx => ?_, AnAt.keep (.put hlA) h1, R.keep h2 (.put hlA) fun x hx => List.getElem?_set_ne (k5 x hx), (List.nodup_cons.mp (List.nodup_cons.mp nd).2).2, fun x hx => ?_, fun y hy => W.pc y (List.mem_cons_of_mem _ hy), W.waits.2.2, on.trans o2 W.len, by rw [List.length_set]; exact Nat.le_trans W.len hl⟩
  · rw [List.getElem?_set_ne (k4 x hx)]; exact k2 x hx
  · rw [List.length_set]; exact Nat.lt_of_lt_of_le (lt x (List.mem_cons_of_mem _ (List.mem_cons_of_mem _ hx))) hl
theorem Wk.push {f' : Fr κ} {p : Pt} {i : Nat} {b' : β} (o : On σ' (l :: k :: R.own) σ₂ (l :: k :: R.own)) (hl : σ'.length ≤ σ₂.length) (h1 : FrAt R.K σ₂ (l :: k :: (locsOf ls ++ lf :: R.own)) f' l k) (h2 : R.is σ₂ (l :: k :: (locsOf ls ++ lf :: R.own)) b') (sp1 : f'.wait) (sp2 : f'.piece = f.piece) (sp3 : PcOk (rs.map (·.1)) p) :
    Wk R rs lf σ ⟨.new p i :: f' :: r, none, b'⟩ ((σ₂.length, σ₂.length + 1) :: (l, k) :: ls) .none ((σ₂ ++ [MObj.inst "Frame" (frF p.v i 0 i (σ₂.length + 1)), .list []]).set lf (.list ((((l, k) :: ls).map fun p => V.ref p.1).reverse ++ [V.ref σ₂.length]))) := by
  obtain ⟨k1, k2, k3, k4, k5, k6, k7⟩ := W.kept o
  have nd := W.nd
  have lt := W.lt
  have on := W.on
  obtain ⟨_, _, e, _, hrs⟩ := W.frs
  cases e
  rw [loc_cons] at nd lt on hrs
  have hlA : lf ∈ locsOf ls ++ lf :: R.own := List.mem_append_right _ (List.mem_cons_self ..)
  have lt2 : ∀ x ∈ l :: k :: (locsOf ls ++ lf :: R.own), x < σ₂.length := fun x hx => Nat.lt_of_lt_of_le (lt x hx) hl
  have hlf := lt2 lf (List.mem_cons_of_mem _ (List.mem_cons_of_mem _ hlA))
  have up : ∀ {u v y : MObj} x, x < σ₂.length → lf ≠ x → ((σ₂ ++ [u, v]).set lf y)[x]? = σ₂[x]? := fun {u v y} x hx hne => by
    rw [List.getElem?_set_ne hne]; exact List.getElem?_append_left hx
  have o2 : ∀ {u v y : MObj}, On σ₂ (l :: k :: (locsOf ls ++ lf :: R.own)) ((σ₂ ++ [u, v]).set lf y) (σ₂.length :: (σ₂.length + 1) :: l :: k :: (locsOf ls ++ lf :: R.own)) := fun {u v y} => ⟨fun x o e hx => by
      rw [up x (List.getElem?_eq_some_iff.mp e).1 (fun q => hx (q ▸ List.mem_cons_of_mem _ (List.mem_cons_of_mem _ hlA)))]; exact e, fun x hx hl => by
      rcases List.mem_cons.mp hx with rfl | hx
      · exact absurd hl (Nat.lt_irrefl _)
      · rcases List.mem_cons.mp hx with rfl | hx
        · exact absurd hl (Nat.not_lt.mpr (Nat.le_succ _))
        · exact hx⟩
  have e2 : locsOf ((σ₂.length, σ₂.length + 1) :: (l, k) :: ls) ++ lf :: R.own = σ₂.length :: (σ₂.length + 1) :: l :: k :: (locsOf ls ++ lf :: R.own) := by rw [loc_cons, loc_cons]
  refine ⟨?_, ?_, rfl, ?_, ?_, ?_, fun y hy => ?_, ⟨rfl, fun y hy => ?_⟩, ?_, ?_⟩
  · rw [List.getElem?_set_self (by simp; exact Nat.lt_add_right _ hlf)]; simp
  · rw [e2]
    refine ⟨_, _, rfl, ⟨[], ?_, ?_, rfl⟩, ⟨_, _, rfl, h1.keep o2 (up l (lt2 l (List.mem_cons_self ..)) k6) (up k (lt2 k (List.mem_cons_of_mem _ (List.mem_cons_self ..))) k7), hrs.keep (k1.trans o2 hl) fun x hx => ?_⟩⟩
    · rw [List.getElem?_set_ne (Nat.ne_of_lt hlf)]; simp [frF]; exact ⟨rfl, rfl, rfl, rfl⟩
    · rw [List.getElem?_set_ne (Nat.ne_of_lt (Nat.lt_succ_of_lt hlf))]; simp
    · rw [up x (lt2 x (List.mem_cons_of_mem _ (List.mem_cons_of_mem _ (List.mem_append_left _ hx)))) (k4 x hx)]; exact k2 x hx
  · rw [e2]
    exact R.keep h2 o2 fun x hx => up x (lt2 x (List.mem_cons_of_mem _ (List.mem_cons_of_mem _ (List.mem_append_right _ (List.mem_cons_of_mem _ hx))))) (k5 x hx)
  · rw [e2]
    refine List.nodup_cons.mpr ⟨fun hx => ?_, List.nodup_cons.mpr ⟨fun hx => ?_, nd⟩⟩
    · rcases List.mem_cons.mp hx with e | hx
      · exact absurd e (Nat.ne_of_lt (Nat.lt_succ_self _))
      · exact Nat.lt_irrefl _ (lt2 _ hx)
    · exact absurd (lt2 _ hx) (Nat.not_lt.mpr (Nat.le_succ _))
  · rw [e2]
    intro x hx
    rw [List.length_set, List.length_append]
    rcases List.mem_cons.mp hx with rfl | hx
    · exact Nat.lt_add_of_pos_right (by simp)
    · rcases List.mem_cons.mp hx with rfl | hx
      · exact Nat.add_lt_add_left (by simp) _
      · exact Nat.lt_add_right _ (lt2 x hx)
  · rcases List.mem_cons.mp hy with rfl | hy
    · exact sp3
    · rcases List.mem_cons.mp hy with rfl | hy
      · rw [sp2]; exact W.pc f (List.mem_cons_self ..)
      · exact W.pc y (List.mem_cons_of_mem _ hy)
  · rcases List.mem_cons.mp hy with rfl | hy
    · exact sp1
    · exact W.waits.2.2 y hy
  · rw [e2]; exact on.trans (k1.trans o2 hl) W.len
  · rw [List.length_set, List.length_append]; exact Nat.le_trans W.len (Nat.le_add_right_of_le hl)
end
inductive Jw (B : Bk β κ) (R : BRep β κ) (P : Option (An κ × β) → Prop) (rs : List (Str × Pt)) (cs : List Nat) (g m lf : Nat) (σ : Hp) (n : Nat) (ρ : Loc) (σ' : Hp) : Prop where
  | mk (st : Ms β κ) (ls : List (Nat × Nat)) (av : V) (fin : Fin (partOf rs) cs B P n st) (has : Has ρ [("grammar", .ref g), ("text", .str (S cs)), ("book", .ref m), ("frames", .ref lf), ("answer", av)]) (w : Wk R rs lf σ st ls av σ') : Jw B R P rs cs g m lf σ n ρ σ'
/-- what a turn of the loop comes to -/
inductive Trn (B : Bk β κ) (R : BRep β κ) (P : Option (An κ × β) → Prop) (rs : List (Str × Pt)) (cs : List Nat) (lf l : Nat) (σ : Hp) (n : Nat) (σ₂ : Hp) : V → Prop where
  | push (p : Pt) (i : Nat) (st : Ms β κ) (ls : List (Nat × Nat)) (us : List V) (m : Nat) (hm : m < n) (fin : Fin (partOf rs) cs B P m st) (hf : σ₂[lf]? = some (.list us)) (hz : us.length ≤ 5000001) (w : Wk R rs lf σ st ls .none ((σ₂ ++ [MObj.inst "Frame" (frF p.v i 0 i (σ₂.length + 1)), .list []]).set lf (.list (us ++ [V.ref σ₂.length])))) : Trn B R P rs cs lf l σ n σ₂ (.tup [.tup [p.v, .int i], .none])
  | pop (st : Ms β κ) (ls : List (Nat × Nat)) (us : List V) (m : Nat) (av : V) (hm : m < n) (fin : Fin (partOf rs) cs B P m st) (hf : σ₂[lf]? = some (.list (us ++ [.ref l]))) (hz : us.length ≤ 5000000) (w : Wk R rs lf σ st ls av (σ₂.set lf (.list us))) : Trn B R P rs cs lf l σ n σ₂ (.tup [.none, av])
theorem Wk.turn {cs : List Nat} {P : Option (An κ × β) → Prop} {lf l k n : Nat} {f : Fr κ} {r : List (Fr κ)} {an : Option (An κ)} {b : β} {ls : List (Nat × Nat)} {av v : V} {σ' σ₂ : Hp} (hg : GoodRules rs) (W : Wk R rs lf σ ⟨f :: r, an, b⟩ ((l, k) :: ls) av σ') (fin : Fin (partOf rs) cs B P n ⟨f :: r, an, b⟩) (o : On σ' (l :: k :: R.own) σ₂ (l :: k :: R.own)) (hl : σ'.length ≤ σ₂.length) (sr : StepR R σ₂ (locsOf ls ++ lf :: R.own) l k (stepOf (partOf rs) cs B f an b) v) : Trn B R P rs cs lf l σ n σ₂ v := by
  obtain ⟨hr, _, hfin⟩ := fin.inv
  have hz : ls.length ≤ 5000000 := by
    obtain ⟨_, _, e, _, hrs⟩ := W.frs
    cases e
    exact hrs.length ▸ hr
  have fl : σ₂[lf]? = some (.list ((ls.map fun p => V.ref p.1).reverse ++ [.ref l])) := by rw [(W.kept o).2.2.1, W.fl]; simp
  have sp := step_push (B := B) (cs := cs) (an := an) (b := b) (W.pc f (List.mem_cons_self ..)) fun n hn => by
    obtain ⟨y, hy, rfl⟩ := List.mem_map.mp hn
    rw [partOf_eq hg.nodup hy]
    exact ⟨(hg.all y hy).few, (hg.all y hy).asks⟩
  have hfin : FinO (partOf rs) cs B P n r (stepOf (partOf rs) cs B f an b) := hfin
  clear fin
  generalize stepOf (partOf rs) cs B f an b = out at sr sp hfin
  cases sr with
  | push h1 h2 =>
    obtain ⟨m, hm, hf⟩ := hfin
    refine .push _ _ _ _ ((((l, k) :: ls).map fun p => V.ref p.1).reverse) m hm hf (fl.trans (by simp)) ?_ (W.push o hl h1 h2 sp.1 sp.2.1 sp.2.2)
    simp; exact hz
  | pop h1 h2 =>
    obtain ⟨m, hm, hf⟩ := hfin
    exact .pop _ _ _ m _ hm hf fl (by simp; exact hz) (W.pop o hl h1 h2)
theorem fn_worked (TO : TopOk (T12 w s)) {cs : List Nat} {m i : Nat} {b : β} {name : Str} {P : Option (An κ × β) → Prop} (hB : BookOk (T12 w s) B R rs g gb m) (hg : GoodRules rs) (hG : GrT rs g gb σ) (hga : g ∉ R.own) (hgb : gb ∉ R.own) (hnd : R.own.Nodup) (hlt : ∀ x ∈ R.own, x < σ.length) (hc : cs.length < 100000) (hm : R.is σ R.own b) (hin : name ∈ rs.map (·.1))
    (hfin : ∃ n, Fin (partOf rs) cs B P n ⟨[.new (.rule name) i], none, b⟩) (hX : ∀ σ', P none → On σ R.own σ' R.own → σ.length ≤ σ'.length → X "TooLong" σ')
    (q : ∀ an b' av σ', P (some (an, b')) → AnAt R.K σ' R.own an av → R.is σ' R.own b' → On σ R.own σ' R.own → σ.length ≤ σ'.length → Q av σ') :
    CallOk (T12 w s) (d + 7) X (.glob "worked") [.ref g, .str (S cs), .ref m, .str name, .int i] Q σ := by
  refine CallOk.go TO rfl rfl ?_
  obtain ⟨n, hfin⟩ := hfin
  refine Cal.mk <| fn_frame (d := d + 3) (pv := (Pt.rule name).v) TO ?_
  refine Stx.mk <| StOk.while (Jw B R P rs cs g m (σ.length + 2) σ) n ⟨_, _, _, hfin, ⟨rfl, rfl, rfl, congrArg (fun n => some (V.ref n)) (by simp), rfl, trivial⟩, Wk.init hnd hlt hm hin⟩ ?_
  rintro n ρ' σ' ⟨⟨fr, an, bk⟩, ls, av, fin, has, W⟩
  rw [← Has.eq has]
  generalize σ.length + 2 = lf at W
  have hfl := W.fl
  cases ls with
  | nil =>
    refine vT_ok TO rfl 40 10 _ _ _ <| tvc.of (b := false) (truth_list hfl (by decide)) ?_
    show ite _ _ _
    refine ite_no (by simp) ?_
    cases W.frs
    refine Exists.elim fin.inv fun a h => ?_
    have ha := h.1
    have hp := h.2
    clear h
    cases ha
    exact q _ _ _ _ hp W.done.1 W.done.2.1 W.done.2.2 W.len
  | cons p ls =>
    obtain ⟨l, k⟩ := p
    refine Exists.elim W.frs fun f h => h.elim fun r h' => ?_
    have e := h'.1
    have hrs := h'.2.2
    clear h h'
    cases e
    have rl := fin.inv.1
    have fw := fin.inv.2.1
    have hstop := fin.inv.2.2
    have ll : ls.length ≤ 5000000 := hrs.length ▸ rl
    refine vT_ok TO rfl 40 10 _ _ _ <| tvc.of (b := true) (truth_cons hfl (by simp; lia) (by simp)) ?_
    show ite _ _ _
    refine ite_yes rfl ?_
    refine vB_ok TO rfl 60 _ _ _ _ ?_
    have fl' : σ'[lf]? = some (.list ((ls.map fun p => V.ref p.1).reverse ++ [.ref l])) := by rw [hfl]; simp
    refine Itm.list (j := ls.length) (v := .ref l) fl' (by rw [List.length_append, List.length_reverse, List.length_map]; exact seq_last) (by simp) ⟨by decide, by decide⟩ ?_
    have gl : g < σ.length ∧ gb < σ.length := by
      obtain ⟨_, _, _, h1, h2⟩ := hG
      exact ⟨(List.getElem?_eq_some_iff.mp h1).1, (List.getElem?_eq_some_iff.mp h2).1⟩
    refine Cal.mk <| fn_stepped (d := d + 1) TO hB (hG.keep W.on hga hgb) (W.out hga gl.1) (W.out hgb gl.2) hc (W.pc f (List.mem_cons_self ..)) W.waits.1 W.waits.2.1 (W.rdy fw) ⟨fun v σ₂ o hl₂ sr => ?_, fun σ₂ o hl₂ hs => ?_⟩
    rotate_left
    · have on := W.on
      rw [loc_cons] at on
      exact hX _ (by have hq := hstop; rw [show stepOf (partOf rs) cs B f an bk = .stop from hs] at hq; exact hq) (on.trans ((W.kept o).1.trans (.less fun x hx => List.mem_cons_of_mem _ (List.mem_cons_of_mem _ (List.mem_append_right _ (List.mem_cons_of_mem _ hx)))) hl₂) W.len) (Nat.le_trans W.len hl₂)
    cases W.turn hg fin o hl₂ sr with
    | push p i st ls us mm hmm fin' hf hz w' => exact Cmp.isN (r := false) rfl <| MethOk.append hf <| Cal.mk <| fn_frame (d := d + 3) TO <| Cal.mk <| CallOk.append (get_up hf) (szo (Nat.le_trans hz (by decide))) ⟨mm, hmm, ⟨st, ls, .none, fin', ⟨rfl, rfl, rfl, rfl, rfl, trivial⟩, w'⟩⟩
    | pop st ls us mm av' hmm fin' hf hz w' => exact Cmp.isN (r := true) rfl <| MethOk.pop hf <| Cal.mk <| CallOk.pop hf (by rw [sizeLine_eq]; exact Nat.lt_of_le_of_lt hz (by decide)) ⟨mm, hmm, ⟨st, ls, av', fin', ⟨rfl, rfl, rfl, rfl, rfl, trivial⟩, w'⟩⟩
end Mine

open PySem PySem.W PyProof.Rows
set_option maxRecDepth 100000
namespace Mine
variable {w : World} {s : Shared} {d : Nat} {X : QX} {Q : QE} {σ : Hp} {rs : List (Str × Pt)} {g gb : Nat}
set_option maxHeartbeats 4000000

theorem fn_need_place (TO : TopOk (T12 w s)) (hn : (rs.map (·.1)).Nodup) (hG : GrT rs g gb σ) {cs : List Nat} {x : Str} {i : Int} (hc : cs.length < 100000) (q : x ∈ rs.map (·.1) → 0 ≤ i → i ≤ cs.length → Q .none σ) (qx : x ∉ rs.map (·.1) → X "NoRule" σ) (qy : x ∈ rs.map (·.1) → (i < 0 ∨ cs.length < i) → X "OutOfPlace" σ) :
    CallOk (T12 w s) (d + 3) X (.glob "need_place") [.ref g, .str (S cs), .str x, .int i] Q σ := by
  obtain ⟨C, hC⟩ := gr_cls (w := w) (s := s)
  refine CallOk.go TO rfl rfl ?_
  have hG' := hG
  obtain ⟨a, c, e, h5, h7⟩ := hG
  refine MethOk.own h5 rfl hC.cls hC.part <| Cal.mk <| fn_partT TO hn hG' (fun r hr hx => ?_) qx
  have hin : x ∈ rs.map (·.1) := List.mem_map.mpr ⟨r, hr, hx⟩
  have hS : (S cs).length = cs.length := by simp [S, Str.length]
  refine Br.mk (fun h0 => Cal.len (n := cs.length) (len_str_ hS) (by exact Nat.le_trans (by assumption) (by decide)) <| Br.mk (fun h1 => ?_) fun h1 => ?_) fun h0 => ?_
  · exact Stx.mk <| StOk.raise TO rfl rfl rfl rfl rfl (by kernel_rfl) (qy hin (.inr (by simpa using h1)))
  · exact q hin (by simpa using h0) (by simpa using h1)
  · exact Stx.mk <| StOk.raise TO rfl rfl rfl rfl rfl (by kernel_rfl) (qy hin (.inl (by simpa using h0)))

structure RdCls (T : Tp) (C : Addr) : Prop where
  cls : ClsAt T "Reading" C
  grammar : FldAt T C "grammar"
  signs : FldAt T C "signs"
  memory : FldAt T C "memory"
  read : MetAt T C "read"
  tree : MetAt T C "tree"
  begun : MetAt T C "begun"
theorem rd_cls : ∃ C, RdCls (T12 w s) C := ⟨_, ⟨rfl, rfl, rfl, rfl, rfl, rfl⟩, ⟨rfl, rfl⟩, ⟨rfl, rfl⟩, ⟨rfl, rfl⟩, ⟨_, rfl, rfl, rfl⟩, ⟨_, rfl, rfl, rfl⟩, ⟨_, rfl, rfl, rfl⟩⟩
noncomputable def rdF (g : Nat) (cs : List Nat) (m : Nat) : List (Str × V) := [("grammar", .ref g), ("signs", .str (S cs)), ("memory", .ref m)]
theorem fn_reading (TO : TopOk (T12 w s)) {cs : List Nat} (q : Q (.ref σ.length) (σ ++ [.inst "Reading" (rdF g cs (σ.length + 1)), .inst "Memory" (mmF (σ.length + 2) (σ.length + 3)), .tdict [], .list []])) : CallOk (T12 w s) (d + 5) X (.glob "Reading") [.ref g, .str (S cs)] Q σ := by
  obtain ⟨C, hC⟩ := rd_cls (w := w) (s := s)
  refine CallOk.make TO rfl rfl rfl rfl <| CodeOk.goM TO rfl rfl ?_
  refine SetAttrOk.of [("grammar", .ref g)] get_new hC.cls hC.grammar (by decide) rfl ?_
  rw [set_end]
  refine SetAttrOk.of [("grammar", .ref g), ("signs", .str (S cs))] get_new hC.cls hC.signs (by simp) rfl ?_
  rw [set_end]
  refine Cal.mk <| fn_memory TO ?_
  refine SetAttrOk.of (gs := [("grammar", .ref g), ("signs", .str (S cs))]) (rdF g cs (σ.length + 1)) (get_up get_new) hC.cls hC.memory (by simp) (by simp [setKV, rdF]; decide) ?_
  refine ⟨rfl, ?_⟩
  have e : ∀ {x y u v z : MObj}, ((σ ++ [x]) ++ [u, v, z]).set σ.length y = σ ++ [y, u, v, z] := by simp
  rw [e]
  simpa using q
theorem fn_begun (TO : TopOk (T12 w s)) {l m a b : Nat} {cs : List Nat} {os : List V} (h0 : σ[l]? = some (.inst "Reading" (rdF g cs m))) (h1 : σ[m]? = some (.inst "Memory" (mmF a b))) (h2 : σ[b]? = some (.list os)) (hz : os.length ≤ sizeLine) (q : Q (.ref σ.length) (σ ++ [.list os])) : CallOk (T12 w s) (d + 2) X (.mth "Reading" "begun") [.ref l] Q σ := by
  obtain ⟨C, hC⟩ := rd_cls (w := w) (s := s)
  obtain ⟨M, hM⟩ := mm_cls (w := w) (s := s)
  refine CallOk.goM TO rfl rfl ?_
  exact AttrOk.of h0 rfl rfl hC.cls hC.memory <| AttrOk.of h1 rfl rfl hM.cls hM.order <| Cal.list (vs := os) (seq_list h2) hz q

/-- a Memory, as a book -/
theorem mem_book (TO : TopOk (T12 w s)) (hn : (rs.map (·.1)).Nodup) {m a b : Nat} : BookOk (T12 w s) memBk (memRep m a b) rs g gb m where
  sgn := fun hp hc r q => fn_sgn TO hp hc r q
  rul := fun hG hg hgb hin r q => fn_rul TO hn hG hg hgb hin r q
theorem MmAt.nodup {A : List Nat} {m a b : Nat} {mem : Mm} (h : MmAt σ A m a b mem) : (memRep m a b).own.Nodup ∧ ∀ x ∈ (memRep m a b).own, x < σ.length := by
  obtain ⟨kvs, h1, h2, h3, h4⟩ := h
  have n1 : m ≠ a := fun e => by rw [e, h2] at h1; cases h1
  have n2 : a ≠ b := fun e => by rw [e, h3] at h2; cases h2
  have n3 : m ≠ b := fun e => by rw [e, h3] at h1; cases h1
  refine ⟨by simp [memRep, n1, n2, n3], fun x hx => ?_⟩
  simp only [memRep, List.mem_cons, List.not_mem_nil, or_false] at hx
  rcases hx with rfl | rfl | rfl
  · exact (List.getElem?_eq_some_iff.mp h1).1
  · exact (List.getElem?_eq_some_iff.mp h2).1
  · exact (List.getElem?_eq_some_iff.mp h3).1
theorem fn_read (TO : TopOk (T12 w s)) {cs : List Nat} {l m a b : Nat} {i : Int} {mem : Mm} {name : Str} {P : Option (An Kid × Mm) → Prop} (hg : GoodRules rs) (hG : GrT rs g gb σ) (hga : g ∉ [m, a, b]) (hgb : gb ∉ [m, a, b]) (hc : cs.length < 100000) (h0 : σ[l]? = some (.inst "Reading" (rdF g cs m))) (hm : MmAt σ [m, a, b] m a b mem)
    (qx : name ∉ rs.map (·.1) → X "NoRule" σ) (qy : name ∈ rs.map (·.1) → (i < 0 ∨ cs.length < i) → X "OutOfPlace" σ)
    (hfin : name ∈ rs.map (·.1) → ∀ j : Nat, i = j → j ≤ cs.length → ∃ n, Fin (partOf rs) cs memBk P n ⟨[.new (.rule name) j], none, mem⟩) (hP : ¬ P none)
    (q : ∀ an mem' σ', P (some (an, mem')) → MmAt σ' [m, a, b] m a b mem' → On σ [m, a, b] σ' [m, a, b] → σ.length ≤ σ'.length → Q (endV an.1) σ') :
    CallOk (T12 w s) (d + 8) X (.mth "Reading" "read") [.ref l, .str name, .int i] Q σ := by
  obtain ⟨C, hC⟩ := rd_cls (w := w) (s := s)
  refine CallOk.goM TO rfl rfl ?_
  refine AttrOk.of h0 rfl rfl hC.cls hC.grammar <| AttrOk.of h0 rfl rfl hC.cls hC.signs <| Cal.mk <| fn_need_place (d := d + 4) TO hg.nodup hG hc (fun hin hi0 hi1 => ?_) qx qy
  obtain ⟨j, rfl⟩ := Int.eq_ofNat_of_zero_le hi0
  refine AttrOk.of h0 rfl rfl hC.cls hC.grammar <| AttrOk.of h0 rfl rfl hC.cls hC.signs <| AttrOk.of h0 rfl rfl hC.cls hC.memory <| Cal.mk <| fn_worked (d := d) (P := P) (R := memRep m a b) TO (mem_book TO hg.nodup) hg hG hga hgb hm.nodup.1 hm.nodup.2 hc hm hin (hfin hin j rfl (by lia)) (fun _ h => absurd h hP) fun an mem' av σ' hp ha hm' ho hl => ?_
  obtain ⟨la, vs, rfl, _⟩ := ha
  exact q an mem' σ' hp hm' ho hl
end Mine

open PySem PySem.W PyProof.Rows
set_option maxRecDepth 100000
namespace Mine
variable {w : World} {s : Shared} {d : Nat} {X : QX} {Q : QE} {σ : Hp} {rs : List (Str × Pt)} {g gb : Nat}
set_option maxHeartbeats 4000000

noncomputable def rowV (r : Row) : V := .tup [.int r.1, .str r.2.1.1, .int r.2.1.2, .int r.2.2]
noncomputable def wtV (x : Nat × Kid) : V := .tup [.int x.1, .str x.2.1, .int x.2.2]
/-- while a tree is written down; the rows at l, what waits at k -/
inductive Jt (K : Kid → Option (An Kid)) (tot : List Row) (σ : Hp) (a l k : Nat) (n : Nat) (ρ : Loc) (σ' : Hp) : Prop where
  | mk (done t : List Row) (st : List (Nat × Kid)) (h1 : Walk K st t) (h2 : done ++ t = tot) (h3 : n = t.length) (h4 : Has ρ [("kept", .ref a), ("rows", .ref l), ("waiting", .ref k)]) (h5 : σ' = σ ++ [.list (done.map rowV), .list ((st.map wtV).reverse)]) : Jt K tot σ a l k n ρ σ'
inductive Ju (σ : Hp) (a l k d : Nat) (ts : List V) (st : List (Nat × Kid)) (ks : List Kid) (one : V) (i : Nat) (ρ : Loc) (σ' : Hp) : Prop where
  | mk (h4 : Has ρ [("kept", .ref a), ("rows", .ref l), ("waiting", .ref k), ("one", one)]) (h5 : σ' = σ ++ [.list ts, .list ((st.map wtV).reverse ++ (ks.reverse.take i).map fun x => wtV (d + 1, x))]) : Ju σ a l k d ts st ks one i ρ σ'
theorem two_set {x y z : MObj} : (σ ++ [x, y]).set (σ.length + 1) z = σ ++ [x, z] := set1
theorem two_set0 {x y z : MObj} : (σ ++ [x, y]).set σ.length z = σ ++ [z, y] := set0
theorem two_get {x y : MObj} : (σ ++ [x, y])[σ.length + 1]? = some y := get1
theorem two_get0 {x y : MObj} : (σ ++ [x, y])[σ.length]? = some x := get0
theorem Cal.pop2 {T : Tp} {d : Nat} {X : QX} {Q : QE} {σ : Hp} {o : MObj} {L vs : List V} {v : V} (e : L = vs ++ [v]) (hn : vs.length ≤ 5000000) (q : Q v (σ ++ [o, .list vs])) : Cal T d X (.bi "list.pop") [.ref (σ.length + 1)] Q (σ ++ [o, .list L]) := by
  subst e
  exact Cal.mk (CallOk.pop two_get (by rw [sizeLine_eq]; exact Nat.lt_of_le_of_lt hn (by decide)) (by rw [two_set]; exact q))
theorem Cal.app2 {T : Tp} {d : Nat} {X : QX} {Q : QE} {σ : Hp} {o : MObj} {vs : List V} {v : V} (hn : vs.length ≤ 5000000) (q : Q .none (σ ++ [o, .list (vs ++ [v])])) : Cal T d X (.bi "list.append") [.ref (σ.length + 1), v] Q (σ ++ [o, .list vs]) :=
  Cal.mk (CallOk.append two_get (szo (Nat.le_trans hn (by decide))) (by rw [two_set]; exact q))
theorem Cal.app0 {T : Tp} {d : Nat} {X : QX} {Q : QE} {σ : Hp} {o : MObj} {vs : List V} {v : V} (hn : vs.length ≤ 5000000) (q : Q .none (σ ++ [.list (vs ++ [v]), o])) : Cal T d X (.bi "list.append") [.ref σ.length, v] Q (σ ++ [.list vs, o]) :=
  Cal.mk (CallOk.append two_get0 (szo (Nat.le_trans hn (by decide))) (by rw [two_set0]; exact q))
/-- the walk over what is kept -/
theorem tree_loop {body : List Stmt} {test : Expr} {pos : Pos} {sc : Scope} {XX : XS} {QQ : QS} {ρ : Loc} {mem : Mm} {m a b : Nat} {t : List Row} {k0 : Kid} (hm : MmAt σ [m, a, b] m a b mem) (ht : Tr (getM mem.kept) 0 [k0] t) (hz : t.length ≤ 5000000)
    (h0 : Has ρ [("kept", .ref a), ("rows", .ref σ.length), ("waiting", .ref (σ.length + 1))])
    (turn : ∀ n ρ σ', Jt (getM mem.kept) t σ a σ.length (σ.length + 1) n ρ σ' → TsOk (T12 w s) d sc ρ XX test (fun b σ₁ => if b then ExOk (T12 w s) d sc ρ XX body (loopQ QQ fun ρ₂ σ₂ => ∃ m, m < n ∧ Jt (getM mem.kept) t σ a σ.length (σ.length + 1) m ρ₂ σ₂) σ₁ else QQ .next ρ σ₁) σ') :
    StOk (T12 w s) d sc ρ XX (.While test body [] pos) QQ (σ ++ [.list [], .list [wtV (0, k0)]]) :=
  StOk.while (Jt (getM mem.kept) t σ a σ.length (σ.length + 1)) t.length ⟨[], t, [(0, k0)], by simpa using ht.walk .nil, rfl, rfl, h0, rfl⟩ turn
theorem fn_tree (TO : TopOk (T12 w s)) {cs : List Nat} {l m a b : Nat} {i : Int} {mem : Mm} {name : Str} {P : Option (An Kid × Mm) → Prop} (hg : GoodRules rs) (hG : GrT rs g gb σ) (hga : g ∉ [m, a, b]) (hgb : gb ∉ [m, a, b]) (hc : cs.length < 100000) (h0 : σ[l]? = some (.inst "Reading" (rdF g cs m))) (hl0 : l ∉ [m, a, b]) (hm : MmAt σ [m, a, b] m a b mem)
    (qx : name ∉ rs.map (·.1) → X "NoRule" σ) (qy : name ∈ rs.map (·.1) → (i < 0 ∨ cs.length < i) → X "OutOfPlace" σ)
    (hfin : name ∈ rs.map (·.1) → ∀ j : Nat, i = j → j ≤ cs.length → ∃ n, Fin (partOf rs) cs memBk P n ⟨[.new (.rule name) j], none, mem⟩) (hP : ¬ P none)
    (htr : ∀ an mem' e, P (some (an, mem')) → an.1 = some e → ∀ j : Nat, i = j → j ≤ cs.length → ∃ t, Tr (getM mem'.kept) 0 [(name, j)] t ∧ t.length ≤ 5000000)
    (q0 : ∀ an mem' σ', P (some (an, mem')) → an.1 = none → MmAt σ' [m, a, b] m a b mem' → On σ [m, a, b] σ' [m, a, b] → σ.length ≤ σ'.length → Q .none σ')
    (q1 : ∀ an mem' e σ' t (j : Nat), P (some (an, mem')) → an.1 = some e → i = j → MmAt σ' [m, a, b] m a b mem' → On σ [m, a, b] σ' [m, a, b] → σ.length ≤ σ'.length → Tr (getM mem'.kept) 0 [(name, j)] t → Q (.ref σ'.length) (σ' ++ [.list (t.map rowV), .list []])) :
    CallOk (T12 w s) (d + 9) X (.mth "Reading" "tree") [.ref l, .str name, .int i] Q σ := by
  obtain ⟨C, hC⟩ := rd_cls (w := w) (s := s)
  obtain ⟨M, hM⟩ := mm_cls (w := w) (s := s)
  refine CallOk.goM TO rfl rfl ?_
  refine MethOk.own h0 rfl hC.cls hC.read <| Cal.mk <| fn_read (d := d) (P := fun o => P o ∧ ∃ j : Nat, i = j ∧ j ≤ cs.length) TO hg hG hga hgb hc h0 hm qx qy (fun hin j hj hjl => ?_) (fun h => hP h.1) fun an mem' σ' hp0 hm' ho hl => ?_
  · obtain ⟨n, hn⟩ := hfin hin j hj hjl
    exact ⟨n, hn.mono fun o ho => ⟨ho, j, hj, hjl⟩⟩
  refine hp0.elim fun hp h => h.elim fun j h => h.elim fun hj hjl => ?_
  clear hp0
  subst hj
  obtain ⟨x, us⟩ := an
  cases x with
  | none => exact Cmp.isN (r := true) rfl <| q0 _ mem' σ' hp rfl hm' ho hl
  | some e =>
    refine (htr _ mem' e hp rfl j rfl hjl).elim fun t h => h.elim fun ht hz => ?_
    have h0' : σ'[l]? = some (.inst "Reading" (rdF g cs m)) := ho.keep _ _ h0 hl0
    refine MmAt.use hm' fun kvs m1 m2 m3 m4 => ?_
    refine Cmp.isN (r := false) rfl <| AttrOk.of h0' rfl rfl hC.cls hC.memory <| AttrOk.of m1 rfl rfl hM.cls hM.kept ?_
    have e1 : σ' ++ [MObj.list []] ++ [.list [.tup [.int 0, .str name, .int j]]] = σ' ++ [.list [], .list [wtV (0, (name, j))]] := by simp [wtV]
    show Stx _ _ _ _ _ _ _ (σ' ++ [MObj.list []] ++ [.list [.tup [.int 0, .str name, .int j]]])
    rw [e1]
    refine Stx.mk <| tree_loop (t := t) (k0 := (name, j)) hm' ht hz ⟨rfl, rfl, congrArg (fun n => some (V.ref n)) (by simp), trivial⟩ ?_
    rintro n ρ' σ₂ ⟨done, t', st, k1, k2, k3, k4, rfl⟩
    rw [← Has.eq k4]
    have zt : t'.length ≤ 5000000 := by rw [← k2, List.length_append] at hz; exact Nat.le_trans (Nat.le_add_left _ _) hz
    have zs : st.length ≤ 5000000 := Nat.le_trans k1.len zt
    have zd : done.length ≤ 5000000 := by rw [← k2, List.length_append] at hz; exact Nat.le_trans (Nat.le_add_right _ _) hz
    cases k1 with
    | nil =>
      refine vT_ok TO rfl 40 10 _ _ _ <| tvc.of (b := false) (truth_list two_get (by decide)) ?_
      show ite _ _ _
      refine ite_no (by simp) ?_
      rw [List.append_nil] at k2
      subst k2
      exact q1 _ mem' e σ' done j hp rfl rfl hm' ho hl ht
    | @cons dp e2 k ks r t2 hk hw =>
      refine vT_ok TO rfl 40 10 _ _ _ <| tvc.of (b := true) (truth_cons two_get (by rw [List.length_reverse, List.length_map]; exact Nat.lt_of_le_of_lt zs (by decide)) (by simp)) ?_
      show ite _ _ _
      refine ite_yes rfl ?_
      refine vB_ok TO rfl 60 _ _ _ _ ?_
      have w1 : (((dp, k) :: r).map wtV).reverse = (r.map wtV).reverse ++ [wtV (dp, k)] := by simp
      have zr : r.length ≤ 5000000 := Nat.le_of_succ_le zs
      refine MethOk.pop two_get <| Cal.pop2 w1 (by rw [List.length_reverse, List.length_map]; exact zr) ?_
      refine m4.got hk fun la x2 x3 x4 => ?_
      refine Itm.pair (k := (k.1, (k.2 : Int))) (get_up m2) x2 <| MethOk.append two_get0 <| Cal.app0 (by rw [List.length_map]; exact zd) ?_
      have zk : ks.length + r.length ≤ 5000000 := by have := hw.len; simp at this zt; exact Nat.le_trans (Nat.le_trans (by assumption) (by assumption)) (by decide)
      refine gd.of (by rfl) ?_
      refine RevOk.mk la (ks.map pV') rfl (get_up x4) ?_
      refine ForOk.mk (ks.map pV').reverse (Ju σ' a σ'.length (σ'.length + 1) dp (done.map rowV ++ [.tup [.int dp, .str k.1, .int k.2, .int e2]]) r ks (wtV (dp, k))) ⟨⟨rfl, rfl, rfl, rfl, trivial⟩, by rw [List.take_zero, List.map_nil, List.append_nil]; rfl⟩ (fun n ρ₂ σ₂ hJ => ?_) (fun ρ₂ σ₂ hJ => ?_) fun n x ρ₂ σ₂ hJ hx => ?_
      · obtain ⟨_, rfl⟩ := hJ
        exact iter_rev (get_up x4)
      · obtain ⟨h4, rfl⟩ := hJ
        rw [← Has.eq h4]
        refine ⟨t2.length, by simp [k3], done ++ [(dp, k, e2)], t2, ks.map (dp + 1, ·) ++ r, hw, by rw [← k2]; simp, rfl, ⟨rfl, rfl, rfl, trivial⟩, ?_⟩
        simp only [List.length_reverse, List.length_map, List.map_append, List.map_cons, List.map_nil, rowV, List.reverse_append]
        rw [show ks.reverse.take ks.length = ks.reverse from List.take_of_length_le (by simp)]
        simp only [List.map_map, List.map_reverse]; rfl
      · obtain ⟨h4, rfl⟩ := hJ
        rw [← Has.eq h4]
        rw [← List.map_reverse] at hx
        obtain ⟨kid, hkid, rfl⟩ := map_at hx
        have hlt := (List.getElem?_eq_some_iff.mp hkid).1
        rw [List.length_reverse] at hlt
        refine ⟨_, rfl, vB_ok TO rfl 60 _ _ _ _ ?_⟩
        refine MethOk.append two_get <| Cal.app2 (by rw [List.length_append, List.length_reverse, List.length_map, List.length_map, List.length_take, List.length_reverse, Nat.add_comm]; exact Nat.le_trans (Nat.add_le_add_right (Nat.min_le_right ..) _) zk) ?_
        refine ⟨⟨rfl, rfl, rfl, rfl, trivial⟩, ?_⟩
        rw [take_next hkid]; simp [wtV]
end Mine

open PySem PySem.W PyProof.Rows
set_option maxRecDepth 100000
namespace Mine
variable {w : World} {s : Shared} {d : Nat} {X : QX} {Q : QE} {σ : Hp} {rs : List (Str × Pt)} {g gb : Nat}
variable {cs : List Nat} {A : List Nat} {i t h l k m most c : Nat} {ks : List Nd} {an : Option (An Nd)} {av : V}
set_option maxHeartbeats 4000000

/-! a Counter -/
structure CtCls (T : Tp) (C : Addr) : Prop where
  cls : ClsAt T "Counter" C
  most : FldAt T C "most"
  steps : FldAt T C "steps"
  look : MetAt T C "look"
  known : MetAt T C "known"
  begun : MetAt T C "begin"
  ended : MetAt T C "ended"
theorem ct_cls : ∃ C, CtCls (T12 w s) C := ⟨_, ⟨rfl, rfl, rfl, rfl, rfl, rfl⟩, ⟨rfl, rfl⟩, ⟨rfl, rfl⟩, ⟨_, rfl, rfl, rfl⟩, ⟨_, rfl, rfl, rfl⟩, ⟨_, rfl, rfl, rfl⟩, ⟨_, rfl, rfl, rfl⟩⟩
noncomputable def ctF (most c : Nat) : List (Str × V) := [("most", .int most), ("steps", .int c)]
noncomputable def ctO (most c : Nat) : MObj := .inst "Counter" (ctF most c)
theorem fn_counter (TO : TopOk (T12 w s)) (q : Q (.ref σ.length) (σ ++ [ctO most 0])) : CallOk (T12 w s) (d + 3) X (.glob "Counter") [.int most] Q σ := by
  obtain ⟨C, hC⟩ := ct_cls (w := w) (s := s)
  refine CallOk.make TO rfl rfl rfl rfl <| CodeOk.goM TO rfl rfl ?_
  refine SetAttrOk.of [("most", .int most)] get_new hC.cls hC.most (by simp) rfl ?_
  rw [set_end]
  refine SetAttrOk.of (ctF most 0) get_new hC.cls hC.steps (by simp) rfl ?_
  rw [set_end]
  exact ⟨rfl, q⟩
theorem fn_clook (TO : TopOk (T12 w s)) (h1 : σ[m]? = some (ctO most c)) (q : c + 1 ≤ most → Q .none (σ.set m (ctO most (c + 1)))) (qx : most < c + 1 → X "TooLong" (σ.set m (ctO most (c + 1)))) : CallOk (T12 w s) (d + 1) X (.mth "Counter" "look") [.ref m] Q σ := by
  obtain ⟨C, hC⟩ := ct_cls (w := w) (s := s)
  refine CallOk.goM TO rfl rfl ?_
  refine AttrOk.of h1 rfl rfl hC.cls hC.steps <| SetAttrOk.of (ctF most (c + 1)) h1 hC.cls hC.steps (by simp [ctF]) rfl ?_
  have g1 : (σ.set m (ctO most (c + 1)))[m]? = some (ctO most (c + 1)) := List.getElem?_set_self (List.getElem?_eq_some_iff.mp h1).1
  refine AttrOk.of g1 rfl rfl hC.cls hC.steps <| AttrOk.of g1 rfl rfl hC.cls hC.most <| Br.mk (fun h2 => ?_) fun h2 => ?_
  · exact Stx.mk <| StOk.raise TO rfl rfl rfl rfl rfl (by kernel_rfl) (qx (by have := of_decide_eq_true h2; lia))
  · exact q (by have := of_decide_eq_false h2; lia)
theorem fn_cknown (TO : TopOk (T12 w s)) {a b c : V} (q : Q .none σ) : CallOk (T12 w s) (d + 1) X (.mth "Counter" "known") [a, b, c] Q σ := by
  refine CallOk.goM TO rfl rfl ?_
  exact q
theorem fn_cbegin (TO : TopOk (T12 w s)) {a b : V} (h1 : σ[m]? = some (ctO most c)) (q : c + 1 ≤ most → Q .none (σ.set m (ctO most (c + 1)))) (qx : most < c + 1 → X "TooLong" (σ.set m (ctO most (c + 1)))) : CallOk (T12 w s) (d + 2) X (.mth "Counter" "begin") [.ref m, a, b] Q σ := by
  obtain ⟨C, hC⟩ := ct_cls (w := w) (s := s)
  refine CallOk.goM TO rfl rfl ?_
  exact MethOk.own h1 rfl hC.cls hC.look <| Cal.mk <| fn_clook TO h1 q qx
theorem fn_cended (TO : TopOk (T12 w s)) {n : Str} {x : V} {e : Option Nat} {la : Nat} (q0 : e = none → Q (.tup [.none, .ref σ.length]) (σ ++ [.list []])) (q1 : ∀ y, e = some y → Q (.tup [.int y, .ref σ.length]) (σ ++ [.list [.tup [.str n, .int i, .int y, .ref la]]])) : CallOk (T12 w s) (d + 1) X (.mth "Counter" "ended") [x, .str n, .int i, .tup [endV e, .ref la]] Q σ := by
  refine CallOk.goM TO rfl rfl ?_
  cases e with
  | none => exact Cmp.isN (r := true) rfl (q0 rfl)
  | some y => exact Cmp.isN (r := false) rfl (q1 y rfl)
noncomputable def ctRep (m most : Nat) : BRep Nat Nd where
  K := ndKid
  own := [m]
  is := fun σ _ c => σ[m]? = some (ctO most c)
  keep := fun h _ e => (e m (by simp)).trans h
theorem ct_sgn (TO : TopOk (T12 w s)) {p : Pt} (hp : p.isLf = true) (hc : cs.length < 100000) (r : Rdy (ctBk most) (ctRep m most) σ A l k ⟨p, i, t, h, ks⟩ c an av) (q : StepQ (ctBk most) (ctRep m most) (partOf rs) cs σ A l k ⟨p, i, t, h, ks⟩ c an Q X) :
    CallOk (T12 w s) (d + 3) X (.glob "of_sign") [.ref l, .str (S cs), .ref m] Q σ := by
  obtain ⟨C, hC⟩ := fr_cls (w := w) (s := s)
  obtain ⟨M, hM⟩ := ct_cls (w := w) (s := s)
  obtain ⟨vs, f1, f2, f3⟩ := r.fr
  have hm : σ[m]? = some (ctO most c) := r.bk
  have e : stepOf (partOf rs) cs (ctBk most) ⟨p, i, t, h, ks⟩ an c = leafOut cs (ctBk most) p ⟨p, i, t, h, ks⟩ c := by cases p <;> first | rfl | cases hp
  have hmA : m ∈ A := r.own m (by simp [ctRep])
  have hml : m ≠ l := fun q => r.hl (q ▸ hmA)
  have on : ∀ {x : MObj}, On σ (l :: k :: (ctRep m most).own) (σ.set m x) (l :: k :: (ctRep m most).own) := .put (by simp [ctRep])
  refine CallOk.go TO rfl rfl ?_
  have hS : (S cs).length = cs.length := by simp [S, Str.length]
  refine MethOk.own hm rfl hM.cls hM.look <| Cal.mk <| fn_clook (d := d + 1) TO hm (fun hle => ?_) fun hlt => q.x _ on (by simp) (by rw [e]; simp [leafOut, ctBk, ctLook, Nat.not_le.mpr hlt])
  have hlk : (ctBk most).look c = some (c + 1) := by simp [ctBk, ctLook, hle]
  have f1' : (σ.set m (ctO most (c + 1)))[l]? = some (.inst "Frame" (frF p.v i t h k)) := by rw [List.getElem?_set_ne hml]; exact f1
  have mine : (σ.set m (ctO most (c + 1)))[m]? = some (ctO most (c + 1)) := List.getElem?_set_self (List.getElem?_eq_some_iff.mp hm).1
  generalize hσ : σ.set m (ctO most (c + 1)) = σ₁ at f1' mine
  have on1 : On σ (l :: k :: (ctRep m most).own) σ₁ (l :: k :: (ctRep m most).own) := hσ ▸ on
  have len1 : σ₁.length = σ.length := by rw [← hσ, List.length_set]
  have fin : ∀ {x : Option Nat}, stepOf (partOf rs) cs (ctBk most) ⟨p, i, t, h, ks⟩ an c = .pop (x, []) (c + 1) → Q (.tup [.none, .tup [endV x, .ref σ₁.length]]) (σ₁ ++ [.list []]) := fun hx =>
    q.to hx (on1.trans .up (by lia)) (by simp [len1]) (.pop ⟨σ₁.length, [], rfl, fun q => by have := r.hA _ q; exact Nat.ne_of_gt this (id (Eq.symm len1)), get_new, rfl⟩ (show (σ₁ ++ [.list []])[m]? = _ from get_up mine))
  have no : (∀ c, cs[i]? = some c → p.takesC c = false) → Q (.tup [.none, .tup [.none, .ref σ₁.length]]) (σ₁ ++ [.list []]) := fun hno => fin (x := none) (by
    rw [e]
    cases hg : cs[i]? with
    | none => simp [leafOut, hlk, hg]
    | some c => simp [leafOut, hlk, hg, hno c hg])
  refine AttrOk.of f1' rfl (by cases p <;> rfl) hC.cls hC.place <| Cal.len (n := cs.length) (len_str_ hS) (by exact Nat.le_trans (by assumption) (by decide)) <| Br.mk (fun h2 => ?_) fun h2 => ?_
  · have hlt : i < cs.length := by simpa using h2
    have hg := List.getElem?_eq_getElem hlt
    refine AttrOk.of f1' rfl (by cases p <;> rfl) hC.cls hC.piece <| Itm.strN hg hc <| Cal.mk <| fn_takes TO hp <| Br.mk (fun h3 => ?_) fun h3 => ?_
    · exact fin (x := some (i + 1)) (by rw [e]; simp [leafOut, hlk, hg, h3])
    · exact no fun c hc' => by rw [hg] at hc'; cases hc'; exact h3
  · exact no fun c hc' => by
      have := (List.getElem?_eq_some_iff.mp hc').1
      simp at h2; lia
theorem ct_rul (TO : TopOk (T12 w s)) (hn : (rs.map (·.1)).Nodup) {n : Str} (hG : GrT rs g gb σ) (hg : g ∉ A) (hgb : gb ∉ A) (hin : n ∈ rs.map (·.1)) (r : Rdy (ctBk most) (ctRep m most) σ A l k ⟨.rule n, i, t, h, ks⟩ c an av) (q : StepQ (ctBk most) (ctRep m most) (partOf rs) cs σ A l k ⟨.rule n, i, t, h, ks⟩ c an Q X) :
    CallOk (T12 w s) (d + 4) X (.glob "of_rule") [.ref l, av, .ref g, .ref m] Q σ := by
  obtain ⟨C, hC⟩ := fr_cls (w := w) (s := s)
  obtain ⟨M, hM⟩ := ct_cls (w := w) (s := s)
  obtain ⟨G, hGc⟩ := gr_cls (w := w) (s := s)
  obtain ⟨vs, f1, f2, f3⟩ := r.fr
  have hm : σ[m]? = some (ctO most c) := r.bk
  have hmA : m ∈ A := r.own m (by simp [ctRep])
  have hml : m ≠ l := fun q => r.hl (q ▸ hmA)
  have hmk : m ≠ k := fun q => r.hk (q ▸ hmA)
  have on : ∀ {x : MObj}, On σ (l :: k :: (ctRep m most).own) (σ.set m x) (l :: k :: (ctRep m most).own) := .put (by simp [ctRep])
  refine CallOk.go TO rfl rfl ?_
  have han := r.ans
  rcases an with _ | x
  · cases han
    refine AttrOk.of f1 rfl rfl hC.cls hC.piece <| Cmp.notN (r := true) rfl <| MethOk.own hm rfl hM.cls hM.known <| AttrOk.of f1 rfl rfl hC.cls hC.place <| Cal.mk <| fn_cknown (d := d + 2) TO <| Cmp.notN (r := true) rfl <| MethOk.own hm rfl hM.cls hM.begun <| AttrOk.of f1 rfl rfl hC.cls hC.place <| Cal.mk <| fn_cbegin (d := d + 1) TO hm (fun hle => ?_) fun hlt => q.x _ on (by simp) (by simp [stepOf, ctBk, ctLook, Nat.not_le.mpr hlt])
    have o : On σ (l :: k :: A) (σ.set m (ctO most (c + 1))) (l :: k :: A) := .put (by simp [hmA])
    have hG2 : GrT rs g gb (σ.set m (ctO most (c + 1))) := hG.keep (A' := A) (.put hmA) hg hgb
    have hG3 := hG2
    obtain ⟨ga, gc, ge, h5, h7⟩ := hG3
    have g0 : (σ.set m (ctO most (c + 1)))[l]? = some (.inst "Frame" (frF (Pt.rule n).v i t h k)) := by rw [List.getElem?_set_ne hml]; exact f1
    refine MethOk.own h5 rfl hGc.cls hGc.part <| Cal.mk <| fn_partT (d := d + 1) TO hn hG2 (fun x hx e => ?_) fun h => absurd hin h
    subst e
    refine AttrOk.of g0 rfl rfl hC.cls hC.place <| q.to (o := .push ⟨.rule x.1, i, t, h, ks⟩ x.2 i (c + 1)) (by simp [stepOf, ctBk, ctLook, hle, partOf_eq hn hx]) on (by simp) (.push ⟨vs, g0, by rw [List.getElem?_set_ne hmk]; exact f2, f3.keep o⟩ (show (σ.set m (ctO most (c + 1)))[m]? = _ from List.getElem?_set_self (List.getElem?_eq_some_iff.mp hm).1))
  · obtain ⟨la, us', rfl, k1, k2, k3⟩ := han
    obtain ⟨x1, x2⟩ := x
    have e : stepOf (partOf rs) cs (ctBk most) ⟨.rule n, i, t, h, ks⟩ (some (x1, x2)) c = .pop (ctTell n i (x1, x2)) c := rfl
    refine AttrOk.of f1 rfl rfl hC.cls hC.piece <| Cmp.notN (r := false) rfl <| MethOk.own hm rfl hM.cls hM.ended <| AttrOk.of f1 rfl rfl hC.cls hC.place <| Cal.mk <| fn_cended (d := d + 2) TO (fun hx => ?_) fun y hx => ?_
    · cases hx; exact q.to e .up (by simp) (.pop r.fresh r.bkU)
    · cases hx
      refine q.to e .up (by simp) (.pop ⟨σ.length, _, rfl, fun hx => Nat.lt_irrefl _ (r.hA _ hx), get_new, _, _, rfl, ?_, rfl⟩ r.bkU)
      show NdAt _ _ _ _
      unfold NdAt
      exact ⟨la, us', rfl, fun q => k1 (List.mem_cons_of_mem _ (List.mem_cons_of_mem _ q)), get_up k2, (nds_krs k3).keep (On.trans .up less_on (by simp))⟩
theorem ct_book (TO : TopOk (T12 w s)) (hn : (rs.map (·.1)).Nodup) : BookOk (T12 w s) (ctBk most) (ctRep m most) rs g gb m where
  sgn := fun hp hc r q => ct_sgn TO hp hc r q
  rul := fun hG hg hgb hin r q => ct_rul TO hn hG hg hgb hin r q
end Mine

open PySem PySem.W PyProof.Rows
set_option maxRecDepth 100000
namespace Mine
variable {w : World} {s : Shared} {d : Nat} {X : QX} {Q : QE} {σ : Hp} {rs : List (Str × Pt)} {g gb : Nat}
set_option maxHeartbeats 4000000

noncomputable def wnV (x : Wt) : V := .tup [.int x.1, x.2.2]
inductive Jp (tot : List Row) (σ : Hp) (l k : Nat) (n : Nat) (ρ : Loc) (σ' : Hp) : Prop where
  | mk (done : List Row) (st : List Wt) (h1 : ∀ x ∈ st, NdAt σ [] x.2.1 x.2.2) (h2 : done ++ wtRows st = tot) (h3 : n = (wtRows st).length) (h4 : Has ρ [("rows", .ref l), ("waiting", .ref k)]) (h5 : σ' = σ ++ [.list (done.map rowV), .list ((st.map wnV).reverse)]) : Jp tot σ l k n ρ σ'
inductive Jq (σ : Hp) (l k d : Nat) (ts : List V) (st : List Wt) (vs : List V) (one : V) (i : Nat) (ρ : Loc) (σ' : Hp) : Prop where
  | mk (h4 : Has ρ [("rows", .ref l), ("waiting", .ref k), ("pair", .tup [.int d, one])]) (h5 : σ' = σ ++ [.list ts, .list ((st.map wnV).reverse ++ (vs.reverse.take i).map fun v => .tup [.int (d + 1 : Nat), v])]) : Jq σ l k d ts st vs one i ρ σ'
theorem fn_plainly (TO : TopOk (T12 w s)) {cs : List Nat} {most : Nat} {i : Int} {name : Str} {P : Option (An Nd × Nat) → Prop} (hg : GoodRules rs) (hG : GrT rs g gb σ) (hc : cs.length < 100000)
    (qx : name ∉ rs.map (·.1) → X "NoRule" σ) (qy : name ∈ rs.map (·.1) → (i < 0 ∨ cs.length < i) → X "OutOfPlace" σ)
    (hfin : name ∈ rs.map (·.1) → ∀ j : Nat, i = j → j ≤ cs.length → ∃ n, Fin (partOf rs) cs (ctBk most) P n ⟨[.new (.rule name) j], none, 0⟩)
    (hX : ∀ σ', P none → On σ [] σ' [] → σ.length ≤ σ'.length → X "TooLong" σ')
    (hk : ∀ e us c, P (some ((some e, us), c)) → ∃ nd, us = [nd] ∧ (nd.rows 0).length ≤ 5000000)
    (q0 : ∀ us c σ', P (some ((none, us), c)) → On σ [] σ' [] → σ.length ≤ σ'.length → Q .none σ')
    (q1 : ∀ e nd c σ', P (some ((some e, [nd]), c)) → On σ [] σ' [] → σ.length ≤ σ'.length → Q (.ref σ'.length) (σ' ++ [.list ((nd.rows 0).map rowV), .list []])) :
    CallOk (T12 w s) (d + 8) X (.glob "plainly") [.ref g, .str (S cs), .str name, .int i, .int most] Q σ := by
  refine CallOk.go TO rfl rfl ?_
  refine Cal.mk <| fn_need_place (d := d + 4) TO hg.nodup hG hc (fun hin hi0 hi1 => ?_) qx qy
  obtain ⟨j, rfl⟩ := Int.eq_ofNat_of_zero_le hi0
  refine Cal.mk <| fn_counter (d := d + 4) TO ?_
  have gl : g < σ.length ∧ gb < σ.length := by
    obtain ⟨_, _, _, h1, h2⟩ := hG
    exact ⟨(List.getElem?_eq_some_iff.mp h1).1, (List.getElem?_eq_some_iff.mp h2).1⟩
  have back : ∀ {σ' : Hp}, On (σ ++ [ctO most 0]) [σ.length] σ' [σ.length] → (σ ++ [ctO most 0]).length ≤ σ'.length → On σ [] σ' [] ∧ σ.length ≤ σ'.length := fun o hl => ⟨⟨fun x y e _ => o.keep x y (get_up e) fun q => by
    have := (List.getElem?_eq_some_iff.mp e).1; simp at q; lia, nofun⟩, by simp at hl; lia⟩
  refine Cal.mk <| fn_worked (d := d) (P := P) (R := ctRep σ.length most) TO (ct_book TO hg.nodup) hg (hG.keep (A := []) (A' := []) .up nofun nofun) (by simp [ctRep]; lia) (by simp [ctRep]; lia) (by simp [ctRep]) (fun x hx => by simp [ctRep] at hx; simp [hx]) hc get_new hin (hfin hin j rfl (by lia)) (fun σ' h o hl => hX σ' h (back o hl).1 (back o hl).2) fun an c av σ' hp ha hm' ho hl => ?_
  have b1 := (back ho hl).1
  have b2 := (back ho hl).2
  obtain ⟨x, us⟩ := an
  refine Exists.elim ha fun la ha' => ha'.elim fun vs ha'' => ?_
  have ae := ha''.1
  have a2 := ha''.2.2.1
  have a3 := ha''.2.2.2
  clear ha ha' ha''
  subst ae
  cases x with
  | none => exact Cmp.isN (r := true) rfl <| q0 us c σ' hp b1 b2
  | some e =>
    refine (hk e us c hp).elim fun nd hnd => ?_
    have hz := hnd.2
    have e1 := hnd.1
    clear hnd
    subst e1
    refine Exists.elim a3 fun v a4 => a4.elim fun r a5 => ?_
    have e1 := a5.1
    have nd1 := a5.2.1
    have e2 := a5.2.2
    clear a3 a4 a5
    subst e1
    cases e2
    have nd1 : NdAt σ' [] nd v := NdAt.keep (On.less (A' := []) nofun) nd1
    refine Cmp.isN (r := false) rfl <| Itm.list (j := 0) (v := v) (get_up a2) rfl rfl ⟨by decide, by decide⟩ ?_
    have e1 : σ' ++ [MObj.list []] ++ [.list [.tup [.int 0, v]]] = σ' ++ [.list [], .list [wnV (0, nd, v)]] := by simp [wnV]
    show Stx _ _ _ _ _ _ _ (σ' ++ [MObj.list []] ++ [.list [.tup [.int 0, v]]])
    rw [e1]
    refine Stx.mk <| StOk.while (Jp (nd.rows 0) σ' σ'.length (σ'.length + 1)) (nd.rows 0).length ⟨[], [(0, nd, v)], fun x hx => by cases List.mem_singleton.mp hx; exact nd1, by simp [wtRows], by simp [wtRows], ⟨rfl, congrArg (fun n => some (V.ref n)) (by simp), trivial⟩, rfl⟩ ?_
    rintro n ρ' σ₂ ⟨done, st, k1, k2, k3, k4, rfl⟩
    rw [← Has.eq k4]
    have zt : done.length + (wtRows st).length ≤ 5000000 := by rw [← k2, List.length_append] at hz; exact hz
    have zs : st.length ≤ 5000000 := Nat.le_trans wtRows_len (Nat.le_trans (Nat.le_add_left _ _) zt)
    cases st with
    | nil =>
      refine vT_ok TO rfl 40 10 _ _ _ <| tvc.of (b := false) (truth_list two_get (by decide)) ?_
      show ite _ _ _
      refine ite_no (by simp) ?_
      rw [show wtRows [] = [] from rfl, List.append_nil] at k2
      subst k2
      exact q1 e nd c σ' hp b1 b2
    | cons x r =>
      obtain ⟨dp, ⟨n', i', e', ks⟩, v'⟩ := x
      have hv' : NdAt σ' [] (.mk n' i' e' ks) v' := k1 (dp, .mk n' i' e' ks, v') (by simp)
      unfold NdAt at hv'
      refine ex2 hv' fun lk us hu => ?_
      have u0 := hu.1
      have u1 := hu.2.2.1
      have u3 := hu.2.2.2.zip.1
      have u4 := hu.2.2.2.zip.2
      clear hv' hu
      subst u0
      refine vT_ok TO rfl 40 10 _ _ _ <| tvc.of (b := true) (truth_cons two_get (by rw [List.length_reverse, List.length_map]; exact Nat.lt_of_le_of_lt zs (by decide)) (by simp)) ?_
      show ite _ _ _
      refine ite_yes rfl ?_
      refine vB_ok TO rfl 60 _ _ _ _ ?_
      have w1 : (((dp, Nd.mk n' i' e' ks, V.tup [.str n', .int i', .int e', .ref lk]) :: r).map wnV).reverse = (r.map wnV).reverse ++ [wnV (dp, Nd.mk n' i' e' ks, V.tup [.str n', .int i', .int e', .ref lk])] := by simp
      have w2 : wtRows ((dp, Nd.mk n' i' e' ks, V.tup [.str n', .int i', .int e', .ref lk]) :: r) = (dp, (n', i'), e') :: wtRows (((ks.zip us).map fun x => (dp + 1, x.1, x.2)) ++ r) := by
        have := wtRows_kids (d := dp + 1) ks us u3
        simp only [wtRows] at this ⊢
        simp [Nd.rows, this]
      rw [w2] at k2 k3 zt
      have zr : r.length ≤ 5000000 := Nat.le_of_succ_le zs
      have zk : ks.length + r.length + done.length ≤ 5000000 := by
        have l : (((ks.zip us).map fun x => (dp + 1, x.1, x.2)) ++ r).length = ks.length + r.length := by rw [List.length_append, List.length_map, List.length_zip, u3, Nat.min_self]
        rw [← l, Nat.add_comm]
        exact Nat.le_trans (Nat.add_le_add_left (Nat.le_succ_of_le wtRows_len) _) zt
      refine MethOk.pop two_get <| Cal.pop2 w1 (by rw [List.length_reverse, List.length_map]; exact zr) <| MethOk.append two_get0 <| Cal.app0 (by rw [List.length_map]; exact Nat.le_trans (Nat.le_add_left _ _) zk) ?_
      refine gd.of (by rfl) ?_
      refine RevOk.mk lk us rfl (get_up u1) ?_
      refine ForOk.mk us.reverse (Jq σ' σ'.length (σ'.length + 1) dp (done.map rowV ++ [.tup [.int dp, .str n', .int i', .int e']]) r us (V.tup [.str n', .int i', .int e', .ref lk])) ⟨⟨rfl, rfl, rfl, trivial⟩, by rw [List.take_zero, List.map_nil, List.append_nil]⟩ (fun n ρ₂ σ₂ hJ => ?_) (fun ρ₂ σ₂ hJ => ?_) fun n x ρ₂ σ₂ hJ hx => ?_
      · obtain ⟨_, rfl⟩ := hJ
        exact iter_rev (get_up u1)
      · obtain ⟨h4, rfl⟩ := hJ
        rw [← Has.eq h4]
        refine ⟨(wtRows (((ks.zip us).map fun x => (dp + 1, x.1, x.2)) ++ r)).length, by simp [k3], done ++ [(dp, (n', i'), e')], ((ks.zip us).map fun x => (dp + 1, x.1, x.2)) ++ r, fun x hx => ?_, by rw [← k2]; simp, rfl, ⟨rfl, rfl, trivial⟩, ?_⟩
        · rcases List.mem_append.mp hx with hx | hx
          · obtain ⟨y, hy, rfl⟩ := List.mem_map.mp hx
            exact u4 y hy
          · exact k1 x (List.mem_cons_of_mem _ hx)
        · have e2 : (((ks.zip us).map fun x => ((dp + 1, x.1, x.2) : Wt)).map wnV) = us.map fun v => V.tup [.int (dp + 1 : Nat), v] := by
            rw [List.map_map]
            have : ((ks.zip us).map (·.2)) = us := List.map_snd_zip (Nat.le_of_eq u3)
            conv => rhs; rw [← this]
            rw [List.map_map]; rfl
          simp only [List.length_reverse, List.map_append, List.map_cons, List.map_nil, rowV, List.reverse_append, e2]
          rw [show us.reverse.take us.length = us.reverse from List.take_of_length_le (by simp)]
          simp only [List.map_reverse]
      · obtain ⟨h4, rfl⟩ := hJ
        rw [← Has.eq h4]
        have hlt := (List.getElem?_eq_some_iff.mp hx).1
        rw [List.length_reverse] at hlt
        refine ⟨_, rfl, vB_ok TO rfl 60 _ _ _ _ ?_⟩
        refine MethOk.append two_get <| Cal.app2 (by rw [List.length_append, List.length_reverse, List.length_map, List.length_map, List.length_take, List.length_reverse, u3, Nat.add_comm]; exact Nat.le_trans (Nat.add_le_add_right (Nat.min_le_right ..) _) (Nat.le_trans (Nat.le_add_right _ _) zk)) ?_
        refine ⟨⟨rfl, rfl, rfl, trivial⟩, ?_⟩
        rw [take_next hx]; simp
end Mine

open PySem PySem.W PyProof.Rows
set_option maxRecDepth 100000
namespace Mine
variable {w : World} {s : Shared} {d : Nat} {X : QX} {Q : QE} {σ : Hp}
set_option maxHeartbeats 4000000
noncomputable abbrev U12 (w : World) (s : Shared) : Tp := (T12 w s).at true
theorem Cal.isiX {T : Tp} {c x : Str} {C D : Addr} {b : Bool} (TO : TopOk T) (hc : T.c c = some C) (hx : T.g x = some (.ref D)) (ek : excK T.K C = true) (e : kitOne T.K (.ref C) (.ref D) = some b) (q : Q (.bool b) σ) : Cal T d X (.bi "isinstance") [.exc c, .glob x] Q σ := ⟨CallOk.isiX TO hc hx ek e q⟩
noncomputable def markB (p : Nat) : List Bool := (List.range 8).map fun k => decide (k = p) || decide (5 < k)
theorem bools_deep (σ : Hp) : ∀ l : List Bool, Deeps σ (l.map PyData.bool) (l.map V.bool)
  | [] => by unfold Deeps; rfl
  | b :: r => by unfold Deeps; exact ⟨_, _, rfl, by unfold Deep; rfl, bools_deep σ r⟩
theorem markB_at {p i : Nat} (h : i < 8) : (markB p)[i]? = some (decide (i = p) || decide (5 < i)) := by simp [markB, h]

theorem fn_marks1 (TO : TopOk (U12 w s)) (q : Q (.ref (σ.length + 4)) (σ ++ [.list [.bool false, .bool true, .bool false], .list [.bool false, .bool false, .bool false], .list [.bool false, .bool true, .bool false, .bool false, .bool false, .bool false], .list [.bool true, .bool true], .list [.bool false, .bool true, .bool false, .bool false, .bool false, .bool false, .bool true, .bool true]])) : CallOk (U12 w s) (d + 1) X (.glob "_law_marks") [.exc "NoRule"] Q σ := by
  refine CallOk.go TO rfl rfl ?_
  refine Cal.isiX (b := false) TO rfl rfl rfl rfl <| Cal.isiX (b := true) TO rfl rfl rfl rfl <| Cal.isiX (b := false) TO rfl rfl rfl rfl <| Cal.isiX (b := false) TO rfl rfl rfl rfl <| Cal.isiX (b := false) TO rfl rfl rfl rfl <| Cal.isiX (b := false) TO rfl rfl rfl rfl <| Bin.lists (get_up get_new) get_new (sz _ rfl) <| Cal.isiX (b := true) TO rfl rfl rfl rfl <| Cal.mk <| CallOk.isiXT (b := true) TO rfl rfl rfl <| Bin.lists (get_up get_new) get_new (sz _ rfl) ?_
  simp only [List.append_assoc, List.cons_append, List.nil_append, List.length_append, List.length_cons, List.length_nil]
  exact q
theorem fn_alone1 (TO : TopOk (U12 w s)) (q : ∀ junk, Q (.bool true) (σ ++ junk)) : CallOk (U12 w s) (d + 2) X (.glob "_law_alone") [.exc "NoRule", .int 1] Q σ := by
  refine CallOk.go TO rfl rfl ?_
  refine Cal.mk <| fn_marks1 TO ?_
  generalize hσ : σ ++ [MObj.list [.bool false, .bool true, .bool false], .list [.bool false, .bool false, .bool false], .list [.bool false, .bool true, .bool false, .bool false, .bool false, .bool false], .list [.bool true, .bool true], .list [.bool false, .bool true, .bool false, .bool false, .bool false, .bool false, .bool true, .bool true]] = σ₁
  have h4 : σ₁[σ.length + 4]? = some (.list ((markB 1).map V.bool)) := by rw [← hσ, List.getElem?_append_right (by lia)]; simp; rfl
  refine Evx.mk <| EvOk.compR rfl rfl rfl <| vE_ok TO rfl 40 _ _ _ <| Cal.range ⟨.inr ⟨_, rfl⟩, _, fun i acc σ' => acc = ((markB 1).take i).map V.bool ∧ i ≤ 8 ∧ σ' = σ₁, ⟨rfl, by lia, rfl⟩, fun i acc σ' hJ => ⟨rng_iter (by decide) (by decide), ?_⟩, fun acc σ' hJ => ?_, fun i y acc σ' hJ hy => ?_⟩
  · rw [hJ.1, List.length_map, List.length_take]; exact szo (by have := hJ.2.1; clear h4 hJ; lia)
  · obtain ⟨rfl, _, rfl⟩ := hJ
    refine Cmp.eqR (da := .list ((markB 1).map PyData.bool)) (db := .list ((markB 1).map PyData.bool)) ?_ ?_ (by decide) (r := true) (by decide) ?_
    · unfold Deep; exact ⟨_, _, rfl, get_up h4, bools_deep _ _⟩
    · unfold Deep; exact ⟨_, _, rfl, get_new, bools_deep _ (markB 1)⟩
    · rw [← hσ, List.append_assoc]
      exact q _
  · obtain ⟨rfl, hi, rfl⟩ := hJ
    obtain ⟨hi, rfl⟩ := rng_at hy
    have hi : i < 8 := hi
    have next : ∀ {b : Bool}, b = (decide (i = 1) || decide (5 < i)) → ((markB 1).take i).map V.bool ++ [.bool b] = ((markB 1).take (i + 1)).map V.bool ∧ i + 1 ≤ 8 ∧ σ' = σ' := fun {b} e => by
      refine ⟨?_, hi, rfl⟩
      rw [take_next (markB_at hi), List.map_append, e]; rfl
    refine vE_ok TO rfl 40 _ _ _ <| Br.mk (fun h => next ?_) fun h => next ?_
    · rw [Bool.eq_iff_iff]; simp at h ⊢; lia
    · rw [Bool.eq_iff_iff]; simp at h ⊢; lia

theorem fn_marks3 (TO : TopOk (U12 w s)) (q : Q (.ref (σ.length + 4)) (σ ++ [.list [.bool false, .bool false, .bool false], .list [.bool true, .bool false, .bool false], .list [.bool false, .bool false, .bool false, .bool true, .bool false, .bool false], .list [.bool true, .bool true], .list [.bool false, .bool false, .bool false, .bool true, .bool false, .bool false, .bool true, .bool true]])) : CallOk (U12 w s) (d + 1) X (.glob "_law_marks") [.exc "OutOfPlace"] Q σ := by
  refine CallOk.go TO rfl rfl ?_
  refine Cal.isiX (b := false) TO rfl rfl rfl rfl <| Cal.isiX (b := false) TO rfl rfl rfl rfl <| Cal.isiX (b := false) TO rfl rfl rfl rfl <| Cal.isiX (b := true) TO rfl rfl rfl rfl <| Cal.isiX (b := false) TO rfl rfl rfl rfl <| Cal.isiX (b := false) TO rfl rfl rfl rfl <| Bin.lists (get_up get_new) get_new (sz _ rfl) <| Cal.isiX (b := true) TO rfl rfl rfl rfl <| Cal.mk <| CallOk.isiXT (b := true) TO rfl rfl rfl <| Bin.lists (get_up get_new) get_new (sz _ rfl) ?_
  simp only [List.append_assoc, List.cons_append, List.nil_append, List.length_append, List.length_cons, List.length_nil]
  exact q
theorem fn_alone3 (TO : TopOk (U12 w s)) (q : ∀ junk, Q (.bool true) (σ ++ junk)) : CallOk (U12 w s) (d + 2) X (.glob "_law_alone") [.exc "OutOfPlace", .int 3] Q σ := by
  refine CallOk.go TO rfl rfl ?_
  refine Cal.mk <| fn_marks3 TO ?_
  generalize hσ : σ ++ [MObj.list [.bool false, .bool false, .bool false], .list [.bool true, .bool false, .bool false], .list [.bool false, .bool false, .bool false, .bool true, .bool false, .bool false], .list [.bool true, .bool true], .list [.bool false, .bool false, .bool false, .bool true, .bool false, .bool false, .bool true, .bool true]] = σ₁
  have h4 : σ₁[σ.length + 4]? = some (.list ((markB 3).map V.bool)) := by rw [← hσ, List.getElem?_append_right (by lia)]; simp; rfl
  refine Evx.mk <| EvOk.compR rfl rfl rfl <| vE_ok TO rfl 40 _ _ _ <| Cal.range ⟨.inr ⟨_, rfl⟩, _, fun i acc σ' => acc = ((markB 3).take i).map V.bool ∧ i ≤ 8 ∧ σ' = σ₁, ⟨rfl, by lia, rfl⟩, fun i acc σ' hJ => ⟨rng_iter (by decide) (by decide), ?_⟩, fun acc σ' hJ => ?_, fun i y acc σ' hJ hy => ?_⟩
  · rw [hJ.1, List.length_map, List.length_take]; exact szo (by have := hJ.2.1; clear h4 hJ; lia)
  · obtain ⟨rfl, _, rfl⟩ := hJ
    refine Cmp.eqR (da := .list ((markB 3).map PyData.bool)) (db := .list ((markB 3).map PyData.bool)) ?_ ?_ (by decide) (r := true) (by decide) ?_
    · unfold Deep; exact ⟨_, _, rfl, get_up h4, bools_deep _ _⟩
    · unfold Deep; exact ⟨_, _, rfl, get_new, bools_deep _ (markB 3)⟩
    · rw [← hσ, List.append_assoc]
      exact q _
  · obtain ⟨rfl, hi, rfl⟩ := hJ
    obtain ⟨hi, rfl⟩ := rng_at hy
    have hi : i < 8 := hi
    have next : ∀ {b : Bool}, b = (decide (i = 3) || decide (5 < i)) → ((markB 3).take i).map V.bool ++ [.bool b] = ((markB 3).take (i + 1)).map V.bool ∧ i + 1 ≤ 8 ∧ σ' = σ' := fun {b} e => by
      refine ⟨?_, hi, rfl⟩
      rw [take_next (markB_at hi), List.map_append, e]; rfl
    refine vE_ok TO rfl 40 _ _ _ <| Br.mk (fun h => next ?_) fun h => next ?_
    · rw [Bool.eq_iff_iff]; simp at h ⊢; lia
    · rw [Bool.eq_iff_iff]; simp at h ⊢; lia

theorem fn_marks4 (TO : TopOk (U12 w s)) (q : Q (.ref (σ.length + 4)) (σ ++ [.list [.bool false, .bool false, .bool false], .list [.bool false, .bool true, .bool false], .list [.bool false, .bool false, .bool false, .bool false, .bool true, .bool false], .list [.bool true, .bool true], .list [.bool false, .bool false, .bool false, .bool false, .bool true, .bool false, .bool true, .bool true]])) : CallOk (U12 w s) (d + 1) X (.glob "_law_marks") [.exc "TooLong"] Q σ := by
  refine CallOk.go TO rfl rfl ?_
  refine Cal.isiX (b := false) TO rfl rfl rfl rfl <| Cal.isiX (b := false) TO rfl rfl rfl rfl <| Cal.isiX (b := false) TO rfl rfl rfl rfl <| Cal.isiX (b := false) TO rfl rfl rfl rfl <| Cal.isiX (b := true) TO rfl rfl rfl rfl <| Cal.isiX (b := false) TO rfl rfl rfl rfl <| Bin.lists (get_up get_new) get_new (sz _ rfl) <| Cal.isiX (b := true) TO rfl rfl rfl rfl <| Cal.mk <| CallOk.isiXT (b := true) TO rfl rfl rfl <| Bin.lists (get_up get_new) get_new (sz _ rfl) ?_
  simp only [List.append_assoc, List.cons_append, List.nil_append, List.length_append, List.length_cons, List.length_nil]
  exact q
theorem fn_alone4 (TO : TopOk (U12 w s)) (q : ∀ junk, Q (.bool true) (σ ++ junk)) : CallOk (U12 w s) (d + 2) X (.glob "_law_alone") [.exc "TooLong", .int 4] Q σ := by
  refine CallOk.go TO rfl rfl ?_
  refine Cal.mk <| fn_marks4 TO ?_
  generalize hσ : σ ++ [MObj.list [.bool false, .bool false, .bool false], .list [.bool false, .bool true, .bool false], .list [.bool false, .bool false, .bool false, .bool false, .bool true, .bool false], .list [.bool true, .bool true], .list [.bool false, .bool false, .bool false, .bool false, .bool true, .bool false, .bool true, .bool true]] = σ₁
  have h4 : σ₁[σ.length + 4]? = some (.list ((markB 4).map V.bool)) := by rw [← hσ, List.getElem?_append_right (by lia)]; simp; rfl
  refine Evx.mk <| EvOk.compR rfl rfl rfl <| vE_ok TO rfl 40 _ _ _ <| Cal.range ⟨.inr ⟨_, rfl⟩, _, fun i acc σ' => acc = ((markB 4).take i).map V.bool ∧ i ≤ 8 ∧ σ' = σ₁, ⟨rfl, by lia, rfl⟩, fun i acc σ' hJ => ⟨rng_iter (by decide) (by decide), ?_⟩, fun acc σ' hJ => ?_, fun i y acc σ' hJ hy => ?_⟩
  · rw [hJ.1, List.length_map, List.length_take]; exact szo (by have := hJ.2.1; clear h4 hJ; lia)
  · obtain ⟨rfl, _, rfl⟩ := hJ
    refine Cmp.eqR (da := .list ((markB 4).map PyData.bool)) (db := .list ((markB 4).map PyData.bool)) ?_ ?_ (by decide) (r := true) (by decide) ?_
    · unfold Deep; exact ⟨_, _, rfl, get_up h4, bools_deep _ _⟩
    · unfold Deep; exact ⟨_, _, rfl, get_new, bools_deep _ (markB 4)⟩
    · rw [← hσ, List.append_assoc]
      exact q _
  · obtain ⟨rfl, hi, rfl⟩ := hJ
    obtain ⟨hi, rfl⟩ := rng_at hy
    have hi : i < 8 := hi
    have next : ∀ {b : Bool}, b = (decide (i = 4) || decide (5 < i)) → ((markB 4).take i).map V.bool ++ [.bool b] = ((markB 4).take (i + 1)).map V.bool ∧ i + 1 ≤ 8 ∧ σ' = σ' := fun {b} e => by
      refine ⟨?_, hi, rfl⟩
      rw [take_next (markB_at hi), List.map_append, e]; rfl
    refine vE_ok TO rfl 40 _ _ _ <| Br.mk (fun h => next ?_) fun h => next ?_
    · rw [Bool.eq_iff_iff]; simp at h ⊢; lia
    · rw [Bool.eq_iff_iff]; simp at h ⊢; lia
end Mine

open PySem PySem.W PyProof.Rows
set_option maxRecDepth 100000
namespace Mine
variable {w : World} {s : Shared} {d : Nat} {X : QX} {Q : QE} {σ : Hp}
set_option maxHeartbeats 4000000

noncomputable def names12 : List Str := ["a", "bc", "def"]
noncomputable def rules12 (c : Nat) : List (Str × Pt) := [("a", .many (.rule "bc")), ("bc", .alt [.rule "def", .any]), ("def", .sign c)]
theorem ask_row {p : Pt} {n x : Str} (h : p.Asks x) (hp : p.kids = [.rule n] ∨ p.kids = [.rule n, .any]) (hr : ∀ y, p ≠ .rule y) : x = n := by
  rcases Pt.asks_kids h with rfl | ⟨k, hk, ha⟩
  · exact absurd rfl (hr x)
  · have key : k = .rule n ∨ k = .any := by
      rcases hp with e | e <;> rw [e] at hk <;> simp at hk
      · exact .inl hk
      · exact hk
    rcases key with rfl | rfl
    · rcases Pt.asks_kids ha with e | ⟨_, hk, _⟩
      · cases e; rfl
      · cases hk
    · rcases Pt.asks_kids ha with e | ⟨_, hk, _⟩
      · cases e
      · cases hk
theorem good12 {c : Nat} (hc : isSignC c = true) : GoodRules (rules12 c) where
  one := by show 1 ≤ 3; decide
  most := by show 3 ≤ 40; decide
  nodup := by show names12.Nodup; decide +kernel
  all := fun r hr => by
    have hn : (rules12 c).map (·.1) = names12 := rfl
    rw [hn]
    have leaf : ∀ {p : Pt}, p.kids = [] → Pt.All Pt.few p := fun h => ⟨by simp [Pt.few, h], fun q hq => by rw [h] at hq; cases hq⟩
    simp only [rules12, List.mem_cons, List.not_mem_nil, or_false] at hr
    rcases hr with rfl | rfl | rfl
    · refine ⟨by decide +kernel, rfl, by decide +kernel, ⟨by simp [Pt.few, Pt.kids], fun q hq => ?_⟩, by decide +kernel, fun x hx => ?_⟩
      · cases List.mem_singleton.mp hq; exact leaf rfl
      · rw [ask_row hx (.inl rfl) nofun]; decide +kernel
    · refine ⟨by decide +kernel, rfl, by decide +kernel, ⟨by simp [Pt.few, Pt.kids], fun q hq => ?_⟩, by decide +kernel, fun x hx => ?_⟩
      · simp only [Pt.kids, List.mem_cons, List.not_mem_nil, or_false] at hq
        rcases hq with rfl | rfl <;> exact leaf rfl
      · rw [ask_row hx (.inr rfl) nofun]; decide +kernel
    · refine ⟨by show isName (Str.ofString "def") = true; decide +kernel, hc, by show 1 ≤ 12; decide, leaf rfl, by show 1 < 100000; decide, fun x hx => ?_⟩
      rcases Pt.asks_kids hx with e | ⟨_, hk, _⟩
      · cases e
      · cases hk
theorem later12 {c : Nat} : Later (rules12 c)
  | 0, r, h, B, y, hy => by
    cases h
    simp only [Pt.ahd, List.mem_singleton] at hy
    exact ⟨1, _, by decide, rfl, hy.symm⟩
  | 1, r, h, B, y, hy => by
    cases h
    simp only [Pt.ahd, Pt.ahdAlt, List.append_nil, List.mem_singleton] at hy
    exact ⟨2, _, by decide, rfl, hy.symm⟩
  | 2, r, h, B, y, hy => by
    cases h
    simp [Pt.ahd] at hy
  | n + 3, r, h, _, _, _ => by cases h
theorem gr12 {c : Nat} (hc : isSignC c = true) : GrOk (partOf (rules12 c)) names12 (inB (turnsE (rules12 c) 3)) (ixOf (rules12 c)) 3 2 :=
  grOk_of (fun _ hr => partOf_eq (good12 hc).nodup hr) (good12 hc) later12 fun r hr => by
    simp only [rules12, List.mem_cons, List.not_mem_nil, or_false] at hr
    rcases hr with rfl | rfl | rfl <;> simp [Pt.wt, Pt.wts]
/-- what a reading with a Memory comes to -/
inductive Read12 (c : Nat) (cs : List Nat) (name : Str) (i : Int) : Option (An Kid × Mm) → Prop where
  | mk (j : Nat) (x : An Kid) (b : Mm) (h1 : i = j) (h2 : getM b.kept (name, j) = some x) (h3 : Mc names12 (inB (turnsE (rules12 c) 3)) 2 cs.length [] b) (h4 : MI (partOf (rules12 c)) cs [] b) (h5 : ∃ t, b.order = (name, j) :: t) : Read12 c cs name i (some (tell (name, j) x, b))
theorem fin12 {c : Nat} (hc : isSignC c = true) {cs : List Nat} (hl : cs.length ≤ 41) {name : Str} (hn : name ∈ names12) {j : Nat} (hj : j ≤ cs.length) : ∃ n, Fin (partOf (rules12 c)) cs memBk (Read12 c cs name j) n ⟨[.new (.rule name) j], none, ⟨[], []⟩⟩ := by
  have z : ∀ k : Nat, k * (cs.length + 1) ≤ k * 42 := fun k => Nat.mul_le_mul_left _ (by exact Nat.lt_of_le_of_lt hl (of_decide_eq_true (id (Eq.refl true))))
  obtain ⟨n, x, b', h1, h2, h3, h4, _, h6⟩ := mem_read (b := ⟨[], []⟩) (txt := cs) (gr12 hc) (Nat.le_trans (z 3) (by decide)) (Nat.le_trans (z 3) (by decide)) (by have := z 1; lia) .nil .nil hn hj
  refine ⟨n, h1.mono fun o ho => ?_⟩
  subst ho
  cases h6 with
  | old h => cases h
  | new _ _ h =>
    obtain ⟨t, ht⟩ := h.pre
    exact ⟨j, x, b', rfl, h2, h3, h4, t, ht⟩
noncomputable def sz12 (k : Kid) : Nat := if k.1 = "a" then 7141 else if k.1 = "bc" then 85 else 1
theorem sum_le {α : Type} {f : α → Nat} {B : Nat} : ∀ {l : List α}, (∀ x ∈ l, f x ≤ B) → (l.map f).sum ≤ l.length * B
  | [], _ => by simp
  | x :: r, h => by
    have h1 := h x (by simp)
    have h2 := sum_le fun y hy => h y (List.mem_cons_of_mem x hy)
    simp only [List.map_cons, List.sum_cons, List.length_cons, Nat.add_mul, Nat.one_mul]; lia
theorem sz_a {k : Kid} (h : k.1 = "a") : sz12 k = 7141 := by rw [sz12, if_pos h]
theorem sz_bc {k : Kid} (h : k.1 = "bc") : sz12 k = 85 := by rw [sz12, if_neg (by rw [h]; decide +kernel), if_pos h]
theorem sz_def {k : Kid} (h : k.1 = "def") : sz12 k = 1 := by rw [sz12, if_neg (by rw [h]; decide +kernel), if_neg (by rw [h]; decide +kernel)]
theorem tree12 {c : Nat} (hc : isSignC c = true) {cs : List Nat} (hl : cs.length ≤ 41) {b : Mm} {k : Kid} {e : Nat} {ks : List Kid} (h3 : Mc names12 (inB (turnsE (rules12 c) 3)) 2 cs.length [] b) (h4 : MI (partOf (rules12 c)) cs [] b) (hk : getM b.kept k = some (some e, ks)) : ∃ t, Tr (getM b.kept) 0 [k] t ∧ t.length ≤ 5000000 := by
  obtain ⟨t, ht⟩ := mem_tree (gr12 hc) h3 h4 hk
  have part : ∀ {r : Str × Pt}, r ∈ rules12 c → partOf (rules12 c) r.1 = r.2 := fun hr => partOf_eq (good12 hc).nodup hr
  have nm : ∀ {k : Kid} {x : An Kid}, getM b.kept k = some x → k.1 = "a" ∨ k.1 = "bc" ∨ k.1 = "def" := fun hk => by
    have hn := (h3.rng _ (h4.kin _ _ hk)).1
    simpa [names12] using hn
  refine ⟨t, ht, Nat.le_trans (ht.size (f := sz12) fun k e ks hk => ?_) ?_⟩
  · obtain ⟨_, g2, g3⟩ := kept_kids h3 h4 hk
    have g3 : ks.length ≤ 84 := Nat.le_trans g3 (by lia)
    rcases nm hk with e | e | e
    · rw [e, part (r := ("a", .many (.rule "bc"))) (by simp [rules12])] at g2
      have := sum_le (f := sz12) (B := 85) (l := ks) fun x hx => Nat.le_of_eq (sz_bc (ask_row (g2 x hx) (.inl rfl) nofun))
      rw [sz_a e]; lia
    · rw [e, part (r := ("bc", .alt [.rule "def", .any])) (by simp [rules12])] at g2
      have := sum_le (f := sz12) (B := 1) (l := ks) fun x hx => Nat.le_of_eq (sz_def (ask_row (g2 x hx) (.inr rfl) nofun))
      rw [sz_bc e]; lia
    · rw [e, part (r := ("def", .sign c)) (by simp [rules12])] at g2
      cases ks with
      | nil => rw [sz_def e]; simp
      | cons x r =>
        rcases Pt.asks_kids (g2 x (by simp)) with q | ⟨_, q, _⟩
        · cases q
        · cases q
  · have : sz12 k ≤ 7141 := by
      rcases nm hk with e | e | e
      · rw [sz_a e]; exact Nat.le_refl _
      · rw [sz_bc e]; decide
      · rw [sz_def e]; decide
    simp; exact Nat.le_trans this (of_decide_eq_true (id (Eq.refl true)))
/-- what comes of the law's question -/
inductive Sp12 (name : Str) (i : Int) (len kind most : Nat) : Nat → Mm → Prop where
  | no (h : name ∉ names12) : Sp12 name i len kind most 1 ⟨[], []⟩
  | out (h : name ∈ names12) (h' : i < 0 ∨ len < i) : Sp12 name i len kind most 2 ⟨[], []⟩
  | read (j : Nat) (t : List Kid) (mem : Mm) (h : name ∈ names12) (h1 : i = j) (h2 : j ≤ len) (h3 : kind ≠ 2) (h4 : mem.order = (name, j) :: t) (h5 : mem.order.length ≤ 1000) : Sp12 name i len kind most 0 mem
  | plain (code : Nat) (h : name ∈ names12) (h0 : 0 ≤ i) (h1 : i ≤ len) (h2 : kind = 2) (h3 : code = 3 ∨ code = 0 ∧ 0 < most) : Sp12 name i len kind most code ⟨[], []⟩
inductive An12 (σ : Hp) (m a b : Nat) (name : Str) (i : Int) (len kind most code : Nat) (σ' : Hp) : Prop where
  | mk (mem : Mm) (h1 : MmAt σ' [m, a, b] m a b mem) (h2 : On σ [m, a, b] σ' [m, a, b]) (h3 : σ.length ≤ σ'.length) (h4 : Sp12 name i len kind most code mem) : An12 σ m a b name i len kind most code σ'
theorem MmAt.up {jk : Hp} {A : List Nat} {m a b : Nat} {mem : Mm} (h : MmAt σ A m a b mem) : MmAt (σ ++ jk) A m a b mem := by
  obtain ⟨kvs, h1, h2, h3, h4⟩ := h
  exact ⟨kvs, get_up h1, get_up h2, get_up h3, h4.keep .up⟩
theorem MmAt.on {A : List Nat} {m a b : Nat} {mem : Mm} {σ' : Hp} (h : MmAt σ A m a b mem) (o : On σ [] σ' []) : MmAt σ' A m a b mem := by
  obtain ⟨kvs, h1, h2, h3, h4⟩ := h
  exact ⟨kvs, o.keep _ _ h1 nofun, o.keep _ _ h2 nofun, o.keep _ _ h3 nofun, h4.keep ⟨fun l x e _ => o.keep l x e nofun, fun _ h _ => h⟩⟩
theorem An12.up {jk : Hp} {σ' : Hp} {m a b len kind most code : Nat} {name : Str} {i : Int} (h : An12 σ m a b name i len kind most code σ') : An12 σ m a b name i len kind most code (σ' ++ jk) := by
  obtain ⟨mem, h1, h2, h3, h4⟩ := h
  exact ⟨mem, h1.up, h2.trans .up h3, by rw [List.length_append]; lia, h4⟩
noncomputable def exc12 (c : Str) (code : Nat) : Prop := c = "NoRule" ∧ code = 1 ∨ c = "OutOfPlace" ∧ code = 2 ∨ c = "TooLong" ∧ code = 3
section
variable {c : Nat} {cs : List Nat} {g gb l m a b kind most : Nat} {name : Str} {i : Int}
noncomputable def Qg12 (σ : Hp) (m a b : Nat) (name : Str) (i : Int) (len kind most : Nat) : QE := fun _ σ' => An12 σ m a b name i len kind most 0 σ'
noncomputable def Xg12 (σ : Hp) (m a b : Nat) (name : Str) (i : Int) (len kind most : Nat) : QX := fun x σ' => ∃ code, exc12 x code ∧ An12 σ m a b name i len kind most code σ'
theorem sp_no (hm : MmAt σ [m, a, b] m a b ⟨[], []⟩) (h : name ∉ names12) : Xg12 σ m a b name i cs.length kind most "NoRule" σ := ⟨1, .inl ⟨rfl, rfl⟩, _, hm, .refl, Nat.le_refl _, .no h⟩
theorem sp_out (hm : MmAt σ [m, a, b] m a b ⟨[], []⟩) (h : name ∈ names12) (h' : i < 0 ∨ cs.length < i) : Xg12 σ m a b name i cs.length kind most "OutOfPlace" σ := ⟨2, .inr (.inl ⟨rfl, rfl⟩), _, hm, .refl, Nat.le_refl _, .out h h'⟩
theorem sp_read (hl : cs.length ≤ 41) {o : Option (An Kid × Mm)} {an : An Kid} {mem : Mm} {σ' : Hp} (ho : Read12 c cs name i o) (he : o = some (an, mem)) (hk : kind ≠ 2) (hn : name ∈ names12) (h1 : MmAt σ' [m, a, b] m a b mem) (h2 : On σ [m, a, b] σ' [m, a, b]) (h3 : σ.length ≤ σ'.length) : An12 σ m a b name i cs.length kind most 0 σ' := by
  obtain ⟨j, x, b', rfl, e2, e3, e4, t, e5⟩ := ho
  cases he
  exact ⟨_, h1, h2, h3, .read j t _ hn rfl (e3.rng (name, j) (by rw [e5]; simp)).2 hk e5 (Nat.le_trans e3.few.2 (Nat.le_trans (Nat.mul_le_mul_left 3 (show cs.length + 1 ≤ 42 by exact Nat.lt_of_le_of_lt hl (of_decide_eq_true (id (Eq.refl true))))) (by decide)))⟩
theorem ans_read (TO : TopOk (T12 w s)) (hc : isSignC c = true) (hl : cs.length ≤ 41) (hG : GrT (rules12 c) g gb σ) (hga : g ∉ [m, a, b]) (hgb : gb ∉ [m, a, b]) (h0 : σ[l]? = some (.inst "Reading" (rdF g cs m))) (hm : MmAt σ [m, a, b] m a b ⟨[], []⟩) (hk : kind ≠ 2) :
    CallOk (T12 w s) (d + 8) (Xg12 σ m a b name i cs.length kind most) (.mth "Reading" "read") [.ref l, .str name, .int i] (Qg12 σ m a b name i cs.length kind most) σ :=
  fn_read (P := fun o => Read12 c cs name i o ∧ name ∈ names12) TO (good12 hc) hG hga hgb (by exact Nat.lt_of_le_of_lt hl (of_decide_eq_true (id (Eq.refl true)))) h0 hm (sp_no hm) (sp_out hm) (fun hn j hj hjl => by
    subst hj
    obtain ⟨n, h⟩ := fin12 hc hl hn hjl
    exact ⟨n, h.mono fun o ho => ⟨ho, hn⟩⟩) (fun h => by cases h.1) fun an mem' σ' hp h1 h2 h3 => sp_read hl hp.1 rfl hk hp.2 h1 h2 h3
theorem ans_tree (TO : TopOk (T12 w s)) (hc : isSignC c = true) (hl : cs.length ≤ 41) (hG : GrT (rules12 c) g gb σ) (hga : g ∉ [m, a, b]) (hgb : gb ∉ [m, a, b]) (h0 : σ[l]? = some (.inst "Reading" (rdF g cs m))) (hl0 : l ∉ [m, a, b]) (hm : MmAt σ [m, a, b] m a b ⟨[], []⟩) (hk : kind ≠ 2) :
    CallOk (T12 w s) (d + 9) (Xg12 σ m a b name i cs.length kind most) (.mth "Reading" "tree") [.ref l, .str name, .int i] (Qg12 σ m a b name i cs.length kind most) σ :=
  fn_tree (P := fun o => Read12 c cs name i o ∧ name ∈ names12) TO (good12 hc) hG hga hgb (by exact Nat.lt_of_le_of_lt hl (of_decide_eq_true (id (Eq.refl true)))) h0 hl0 hm (sp_no hm) (sp_out hm) (fun hn j hj hjl => by
    subst hj
    obtain ⟨n, h⟩ := fin12 hc hl hn hjl
    exact ⟨n, h.mono fun o ho => ⟨ho, hn⟩⟩) (fun h => by cases h.1) (fun an mem' e hp he j hj hjl => by
      obtain ⟨hp, hn⟩ := hp
      generalize ho : some (an, mem') = o at hp
      obtain ⟨j', x, b', e1, e2, e3, e4, e5⟩ := hp
      cases ho
      rw [hj] at e1
      cases Int.ofNat_inj.mp e1
      obtain ⟨x1, x2⟩ := x
      cases x1 with
      | none => cases he
      | some y => exact tree12 hc hl e3 e4 e2) (fun an mem' σ' hp _ h1 h2 h3 => sp_read hl hp.1 rfl hk hp.2 h1 h2 h3) fun an mem' e σ' t j hp _ _ h1 h2 h3 _ => (sp_read hl hp.1 rfl hk hp.2 h1 h2 h3).up
theorem ans_plain (TO : TopOk (T12 w s)) (hc : isSignC c = true) (hl : cs.length ≤ 41) (hmo : most ≤ 2) (hG : GrT (rules12 c) g gb σ) (hm : MmAt σ [m, a, b] m a b ⟨[], []⟩) (hk : kind = 2) :
    CallOk (T12 w s) (d + 8) (Xg12 σ m a b name i cs.length kind most) (.glob "plainly") [.ref g, .str (S cs), .str name, .int i, .int most] (Qg12 σ m a b name i cs.length kind most) σ := by
  have on : ∀ {σ' : Hp}, On σ [] σ' [] → On σ [m, a, b] σ' [m, a, b] := fun o => ⟨fun x y e _ => o.keep x y e nofun, fun _ h _ => h⟩
  have z : ∀ k : Nat, k * (cs.length + 1) ≤ k * 42 := fun k => Nat.mul_le_mul_left _ (by exact Nat.lt_of_le_of_lt hl (of_decide_eq_true (id (Eq.refl true))))
  refine fn_plainly (P := fun o => (name ∈ names12 ∧ 0 ≤ i ∧ i ≤ cs.length) ∧ ∀ an n, o = some (an, n) → 1 ≤ most ∧ ∃ j, ∃ x : An Nd, an = ctTell name j x ∧ Nd.cnts an.2 ≤ most) TO (good12 hc) hG (by exact Nat.lt_of_le_of_lt hl (of_decide_eq_true (id (Eq.refl true)))) (sp_no hm) (sp_out hm) (fun hn j hj hjl => ?_) (fun σ' hp o hl' => ?_) (fun e us n hp => ?_) (fun us n σ' hp o hl' => ?_) fun e nd n σ' hp o hl' => ?_
  · obtain ⟨o, D, h1, h2, ⟨n, h3⟩, h4⟩ := ct_read (txt := cs) (most := most) (gr12 hc) (Nat.le_trans (z 3) (by decide)) (by have := z 1; lia) hn hjl
    exact ⟨n, h3.mono fun o' ho => ⟨⟨hn, by lia, by lia⟩, fun an n e => by
      obtain ⟨g1, g2, x, g3, g4⟩ := h4 an n (ho ▸ e)
      exact ⟨g1, j, x, g3, g4⟩⟩⟩
  · exact ⟨3, .inr (.inr ⟨rfl, rfl⟩), _, hm.on o, on o, hl', .plain 3 hp.1.1 hp.1.2.1 hp.1.2.2 hk (.inl rfl)⟩
  · obtain ⟨_, j, x, g1, g2⟩ := hp.2 _ _ rfl
    obtain ⟨x1, x2⟩ := x
    cases x1 with
    | none => cases g1
    | some y =>
      cases g1
      refine ⟨_, rfl, ?_⟩
      rw [Nd.rows_len]
      simp only [Nd.cnts] at g2
      exact Nat.le_trans g2 (by exact Nat.le_trans hmo (of_decide_eq_true (id (Eq.refl true))))
  · exact ⟨_, hm.on o, on o, hl', .plain 0 hp.1.1 hp.1.2.1 hp.1.2.2 hk (.inr ⟨rfl, (hp.2 _ _ rfl).1⟩)⟩
  · exact An12.up ⟨_, hm.on o, on o, hl', .plain 0 hp.1.1 hp.1.2.1 hp.1.2.2 hk (.inr ⟨rfl, (hp.2 _ _ rfl).1⟩)⟩
theorem fn_answer (TO : TopOk (T12 w s)) (hc : isSignC c = true) (hl : cs.length ≤ 41) (hmo : most ≤ 2) (hk : kind ≤ 2) (hG : GrT (rules12 c) g gb σ) (hga : g ∉ [m, a, b]) (hgb : gb ∉ [m, a, b]) (h0 : σ[l]? = some (.inst "Reading" (rdF g cs m))) (hl0 : l ∉ [m, a, b]) (hm : MmAt σ [m, a, b] m a b ⟨[], []⟩)
    (q : ∀ code r σ', An12 σ m a b name i cs.length kind most code σ' → σ'[r]? = some (.list [.int code, .bool true]) → Q (.ref r) σ') :
    CallOk (T12 w s) (d + 10) X (.glob "_law_answer") [.ref g, .ref l, .str (S cs), .tup [.str name, .int i], .int kind, .int most] Q σ := by
  obtain ⟨C, hC⟩ := rd_cls (w := w) (s := s)
  refine CallOk.go TO rfl rfl ?_
  have good : ∀ {σ' : Hp}, An12 σ m a b name i cs.length kind most 0 σ' → Q (.ref σ'.length) (σ' ++ [.list [.int 0, .bool true]]) := fun h => q 0 _ _ h.up get_new
  have bad : ∀ {σ' : Hp} {code : Nat}, An12 σ m a b name i cs.length kind most code σ' → ∀ jk, Q (.ref (σ' ++ jk).length) (σ' ++ jk ++ [.list [.int code, .bool true]]) := fun h jk => q _ _ _ h.up.up get_new
  have h3 : kind = 0 ∨ kind = 1 ∨ kind = 2 := by lia
  rcases h3 with rfl | rfl | rfl
  · refine Stx.mk <| StOk.try <| vB_ok TO rfl 60 _ _ _ _ <| MethOk.own h0 rfl hC.cls hC.read <| Cal.mk <| (ans_read (d := d + 1) (kind := 0) (most := most) TO hc hl hG hga hgb h0 hm nofun).mono (fun v σ' hv => good hv) fun x σ' hx => ?_
    obtain ⟨code, hx, hv⟩ := hx
    rcases hx with ⟨rfl, rfl⟩ | ⟨rfl, rfl⟩ | ⟨rfl, rfl⟩
    · exact HandOk.hit TO rfl rfl rfl rfl rfl rfl rfl fun ρ => vB_ok TO.at rfl 60 _ _ _ _ <| Cal.mk <| fn_alone1 (d := d + 7) TO.at fun jk ρ' => bad hv jk
    · exact HandOk.miss TO rfl rfl rfl rfl rfl rfl <| HandOk.hit TO rfl rfl rfl rfl rfl rfl rfl fun ρ => vB_ok TO.at rfl 60 _ _ _ _ <| Cal.mk <| fn_alone3 (d := d + 7) TO.at fun jk ρ' => bad hv jk
    · exact HandOk.miss TO rfl rfl rfl rfl rfl rfl <| HandOk.miss TO rfl rfl rfl rfl rfl rfl <| HandOk.hit TO rfl rfl rfl rfl rfl rfl rfl fun ρ => vB_ok TO.at rfl 60 _ _ _ _ <| Cal.mk <| fn_alone4 (d := d + 7) TO.at fun jk ρ' => bad hv jk
  · refine Stx.mk <| StOk.try <| vB_ok TO rfl 60 _ _ _ _ <| MethOk.own h0 rfl hC.cls hC.tree <| Cal.mk <| (ans_tree (d := d) (kind := 1) (most := most) TO hc hl hG hga hgb h0 hl0 hm nofun).mono (fun v σ' hv => good hv) fun x σ' hx => ?_
    obtain ⟨code, hx, hv⟩ := hx
    rcases hx with ⟨rfl, rfl⟩ | ⟨rfl, rfl⟩ | ⟨rfl, rfl⟩
    · exact HandOk.hit TO rfl rfl rfl rfl rfl rfl rfl fun ρ => vB_ok TO.at rfl 60 _ _ _ _ <| Cal.mk <| fn_alone1 (d := d + 7) TO.at fun jk ρ' => bad hv jk
    · exact HandOk.miss TO rfl rfl rfl rfl rfl rfl <| HandOk.hit TO rfl rfl rfl rfl rfl rfl rfl fun ρ => vB_ok TO.at rfl 60 _ _ _ _ <| Cal.mk <| fn_alone3 (d := d + 7) TO.at fun jk ρ' => bad hv jk
    · exact HandOk.miss TO rfl rfl rfl rfl rfl rfl <| HandOk.miss TO rfl rfl rfl rfl rfl rfl <| HandOk.hit TO rfl rfl rfl rfl rfl rfl rfl fun ρ => vB_ok TO.at rfl 60 _ _ _ _ <| Cal.mk <| fn_alone4 (d := d + 7) TO.at fun jk ρ' => bad hv jk
  · refine Stx.mk <| StOk.try <| vB_ok TO rfl 60 _ _ _ _ <| Cal.mk <| (ans_plain (d := d + 1) (kind := 2) (most := most) TO hc hl hmo hG hm rfl).mono (fun v σ' hv => good hv) fun x σ' hx => ?_
    obtain ⟨code, hx, hv⟩ := hx
    rcases hx with ⟨rfl, rfl⟩ | ⟨rfl, rfl⟩ | ⟨rfl, rfl⟩
    · exact HandOk.hit TO rfl rfl rfl rfl rfl rfl rfl fun ρ => vB_ok TO.at rfl 60 _ _ _ _ <| Cal.mk <| fn_alone1 (d := d + 7) TO.at fun jk ρ' => bad hv jk
    · exact HandOk.miss TO rfl rfl rfl rfl rfl rfl <| HandOk.hit TO rfl rfl rfl rfl rfl rfl rfl fun ρ => vB_ok TO.at rfl 60 _ _ _ _ <| Cal.mk <| fn_alone3 (d := d + 7) TO.at fun jk ρ' => bad hv jk
    · exact HandOk.miss TO rfl rfl rfl rfl rfl rfl <| HandOk.miss TO rfl rfl rfl rfl rfl rfl <| HandOk.hit TO rfl rfl rfl rfl rfl rfl rfl fun ρ => vB_ok TO.at rfl 60 _ _ _ _ <| Cal.mk <| fn_alone4 (d := d + 7) TO.at fun jk ρ' => bad hv jk
end
end Mine

open PySem PySem.W PyProof.Rows
set_option maxRecDepth 100000
namespace Mine
variable {w : World} {s : Shared} {d : Nat} {X : QX} {Q : QE} {σ : Hp}
set_option maxHeartbeats 4000000

theorem nat_lt {a : Int} {n : Nat} (h : 0 ≤ a ∧ a < n) : ∃ k : Nat, a = k ∧ k < n := by
  obtain ⟨k, rfl⟩ := Int.eq_ofNat_of_zero_le h.1
  exact ⟨k, rfl, Int.ofNat_lt.mp h.2⟩
theorem nat_use {P : Prop} {a : Int} {n : Nat} (h : 0 ≤ a ∧ a < n) (k : ∀ k : Nat, a = k → k < n → P) : P := (nat_lt h).elim fun x h => k x h.1 h.2
theorem Bin.catS {a b : List Nat} {Q : QE} {σ : Hp} (k : a.length + b.length ≤ 1000) (h : Q (.str (S (a ++ b))) σ) : Bin .Add (.str (S a)) (.str (S b)) Q σ := Bin.cat (by rw [S_length, S_length]; exact szo (Nat.le_trans k (by decide))) (by rw [S_app]; exact h)
noncomputable def chV (c : Nat) : V := .str (S [c])
theorem allS_map (l : List Nat) : allS (l.map chV) = some (l.map fun c => S [c]) := by
  induction l with
  | nil => rfl
  | cons a r ih => simp [allS, chV, ih]
theorem sum_len (l : List Nat) : ((l.map fun c => S [c]).map (·.length)).sum = l.length := by
  induction l with
  | nil => rfl
  | cons a r ih => simp only [List.map_cons, List.sum_cons, ih, S_length, List.length_cons, List.length_nil]; (clear ih; lia)
theorem str_nil : (Str.ofString "" : Str) = S [] := by decide +kernel
theorem Cal.joinS {T : Tp} {cs : List Nat} {l : Nat} (hl : σ[l]? = some (.list (cs.map chV))) (hn : cs.length ≤ 2000) (q : Q (.str (S cs)) σ) : Cal T d X (.bi "str.join") [.str (Str.ofString ""), .ref l] Q σ :=
  ⟨CallOk.join hl (allS_map _) (by rw [sum_len, List.length_map]; lia) (by decide +kernel) (by rw [str_nil, S_join]; exact q)⟩
/-- a list of signs, one for each turn -/
theorem comp_signs {T : Tp} {sc scope : Scope} {ρ : Loc} {x : Str} {elt : Expr} {m : Int} {n : Nat} (hm : m = n) (hn : n ≤ 2000) (q : ∀ cs : List Nat, cs.length = n → Q (.ref σ.length) (σ ++ [.list (cs.map chV)]))
    (h : ∀ i : Nat, i < n → EvOk T d (relab scope sc) (upd (compLoc scope ρ) x (some (.int i))) X elt (fun v σ' => ∃ c, v = chV c ∧ σ' = σ) σ) : CompOk T d sc ρ X scope x [] elt Q (.rng m) σ := by
  subst hm
  refine ⟨_, fun i acc σ' => ∃ cs : List Nat, acc = cs.map chV ∧ cs.length = i ∧ i ≤ n ∧ σ' = σ, ⟨[], rfl, rfl, Nat.zero_le _, rfl⟩, fun i acc σ' hJ => ⟨rng_iter (by exact Int.NonNeg.mk (n + 0)) (by lia), ?_⟩, fun acc σ' hJ => ?_, fun i y acc σ' hJ hy => ?_⟩
  · obtain ⟨cs, rfl, h1, h2, _⟩ := hJ
    rw [List.length_map]; exact szo (by lia)
  · obtain ⟨cs, rfl, h1, h2, rfl⟩ := hJ
    exact q cs (by simpa using h1)
  · obtain ⟨cs, rfl, h1, h2, rfl⟩ := hJ
    obtain ⟨hi, rfl⟩ := rng_at hy
    rw [Int.toNat_natCast] at hi
    refine (h i hi).mono (fun v σ' hv => ?_) fun _ _ h => h
    obtain ⟨c, rfl, rfl⟩ := hv
    exact ⟨cs ++ [c], by simp, by simp [h1], hi, rfl⟩
noncomputable def all12 : List Str := ["a", "bc", "def", "", "b", "A", "defg"]
theorem all_ok : ∀ n ∈ all12, sOk n := by
  have : all12.all (fun n => PyData.strOk n) = true := by decide +kernel
  exact fun n hn => List.all_eq_true.mp this n hn
theorem names_ok : ∀ n ∈ names12, sOk n := fun n hn => all_ok n (by
  simp only [names12, List.mem_cons, List.not_mem_nil, or_false] at hn
  rcases hn with rfl | rfl | rfl <;> simp [all12])
theorem Cmp.names {neg : Bool} {x : Str} {l : Nat} {ns : List Str} {Q : QE} {σ : Hp} (hx : sOk x) (hns : ∀ n ∈ ns, sOk n) (hl : σ[l]? = some (.list (ns.map V.str))) (q : Q (.bool (neg != inB ns x)) σ) : Cmp (if neg then .NotIn else .In) (.str x) (.ref l) Q σ := .inR (in_strs hx hns hl) q
theorem Cmp.both {x : Str} {l : Nat} {ns : List Str} {Q : QE} {σ : Hp} (hx : sOk x) (hns : ∀ n ∈ ns, sOk n) (hl : σ[l]? = some (.list (ns.map V.str))) (q : (x ∈ ns → Q (.bool false) σ) ∧ (x ∉ ns → Q (.bool true) σ)) : Cmp .NotIn (.str x) (.ref l) Q σ := Cmp.names (neg := true) hx hns hl (by
  cases h : inB ns x with
  | true => exact q.1 (inB_iff.mp h)
  | false => exact q.2 fun k => by rw [inB_iff.mpr k] at h; cases h)
theorem goP {A P G : Prop} (ng : A → P) (k : (A → P) → G) : G := k ng
theorem Cmp.isT (q : Q (.bool true) σ) : Cmp .Is (.bool true) (.bool true) Q σ := ⟨true, .isB _ _ _ rfl, q⟩
theorem Cmp.notT (q : Q (.bool false) σ) : Cmp .IsNot (.bool true) (.bool true) Q σ := ⟨_, .notB _ _ true rfl, q⟩
theorem nil_deep {l : Nat} (h : σ[l]? = some (.list [])) : Deep σ (.list []) (.ref l) := by unfold Deep; exact ⟨l, [], rfl, h, by unfold Deeps; rfl⟩
theorem Cmp.eqN {l k : Nat} (h1 : σ[l]? = some (.list [])) (h2 : σ[k]? = some (.list [])) (q : Q (.bool true) σ) : Cmp .Eq (.ref l) (.ref k) Q σ := .eqR (nil_deep h1) (nil_deep h2) (by simp [PyData.depth, PyData.depthAll]) rfl q
theorem Cmp.neN {l k : Nat} (h1 : σ[l]? = some (.list [])) (h2 : σ[k]? = some (.list [])) (q : Q (.bool false) σ) : Cmp .NotEq (.ref l) (.ref k) Q σ := .neR (nil_deep h1) (nil_deep h2) (by simp [PyData.depth, PyData.depthAll]) rfl q
theorem pair_deep {n : Str} {i : Int} (h : sOk n) : Deep σ (.tuple [.str n, .int i]) (.tup [.str n, .int i]) := by
  simp only [Deep, Deeps]
  exact ⟨_, rfl, _, _, rfl, ⟨rfl, h⟩, _, _, rfl, rfl, rfl⟩
theorem Cmp.eqP {n : Str} {j i : Int} (h : sOk n) (e : j = i) (q : Q (.bool true) σ) : Cmp .Eq (.tup [.str n, .int j]) (.tup [.str n, .int i]) Q σ := by
  subst e
  exact .eqR (pair_deep h) (pair_deep h) (by simp [PyData.depth, PyData.depthAll]) (by simp [PyData.eqv, PyData.eqvAll]) q
/-- two readings in the heap -/
inductive Two12 (c g gb n0 : Nat) (cs : List Nat) (r1 r2 m a b m2 a2 b2 : Nat) (H : Hp) : Prop where
  | mk (cs2 : List Nat) (e1 : H[r1]? = some (.inst "Reading" (rdF g cs m))) (e2 : H[r2]? = some (.inst "Reading" (rdF g cs2 m2))) (M1 : MmAt H [m, a, b] m a b ⟨[], []⟩) (M2 : H[m2]? = some (.inst "Memory" (mmF a2 b2))) (B2 : H[b2]? = some (.list [])) (N : H[n0]? = some (.list (names12.map V.str))) (G : GrT (rules12 c) g gb H)
      (dj : ∀ x ∈ [g, gb, r1, r2, m2, b2, n0], x ∉ [m, a, b]) (lt : ∀ x ∈ [m, a, b], x < H.length) : Two12 c g gb n0 cs r1 r2 m a b m2 a2 b2 H
theorem two12 {c g gb n0 : Nat} {cs cs2 : List Nat} (h0 : σ[n0]? = some (.list (names12.map V.str))) (hG : GrT (rules12 c) g gb σ) :
    Two12 c g gb n0 cs σ.length (σ.length + 4) (σ.length + 1) (σ.length + 2) (σ.length + 3) (σ.length + 5) (σ.length + 6) (σ.length + 7) (σ ++ [MObj.inst "Reading" (rdF g cs (σ.length + 1)), .inst "Memory" (mmF (σ.length + 2) (σ.length + 3)), .tdict [], .list [], .inst "Reading" (rdF g cs2 (σ.length + 5)), .inst "Memory" (mmF (σ.length + 6) (σ.length + 7)), .tdict [], .list []]) := by
  have at_ : ∀ {jk : Hp} (k : Nat) {o : MObj}, jk[k]? = some o → (σ ++ jk)[σ.length + k]? = some o := fun {jk} k {o} h => by rw [List.getElem?_append_right (by exact Nat.le_add_right (List.length σ) k), Nat.add_sub_cancel_left]; exact h
  obtain ⟨x, y, z, h1, h2⟩ := hG
  have l1 := (List.getElem?_eq_some_iff.mp h1).1
  have l2 := (List.getElem?_eq_some_iff.mp h2).1
  have l3 := (List.getElem?_eq_some_iff.mp h0).1
  refine ⟨cs2, at_ 0 rfl, at_ 4 rfl, ⟨[], at_ 1 rfl, at_ 2 rfl, at_ 3 rfl, rfl⟩, at_ 5 rfl, at_ 7 rfl, get_up h0, ⟨x, y, z, get_up h1, get_up h2⟩, fun x hx h => ?_, fun x hx => ?_⟩
  · simp only [List.mem_cons, List.not_mem_nil, or_false] at hx h
    obtain ⟨k, hk, rfl⟩ : ∃ k, (k = 1 ∨ k = 2 ∨ k = 3) ∧ x = σ.length + k := h.elim (fun e => ⟨1, .inl rfl, e⟩) fun h => h.elim (fun e => ⟨2, .inr (.inl rfl), e⟩) fun e => ⟨3, .inr (.inr rfl), e⟩
    have no : ∀ {y : Nat}, y < σ.length → σ.length + k ≠ y := fun hy e => absurd hy (Nat.not_lt.mpr (e ▸ Nat.le_add_right _ _))
    have ne : ∀ {j : Nat}, (j ≠ 1 ∧ j ≠ 2 ∧ j ≠ 3) → σ.length + k ≠ σ.length + j := fun {j} hj e => by
      have e := Nat.add_left_cancel e
      rw [e] at hk
      exact hk.elim hj.1 fun h => h.elim hj.2.1 hj.2.2
    rcases hx with e | e | e | e | e | e | e
    · exact no l1 e
    · exact no l2 e
    · exact ne (j := 0) (by decide) e
    · exact ne (j := 4) (by decide) e
    · exact ne (j := 5) (by decide) e
    · exact ne (j := 7) (by decide) e
    · exact no l3 e
  · simp only [List.mem_cons, List.not_mem_nil, or_false] at hx
    rw [List.length_append]
    rcases hx with rfl | rfl | rfl <;> exact Nat.add_lt_add_left (by show _ < 8; decide) _
theorem Two12.use {P : Prop} {c g gb n0 : Nat} {cs : List Nat} {r r2 m a b m2 a2 b2 : Nat} {H : Hp} (h : Two12 c g gb n0 cs r r2 m a b m2 a2 b2 H)
    (k : ∀ (cs2 : List Nat) (e1 : H[r]? = some (.inst "Reading" (rdF g cs m))) (e2 : H[r2]? = some (.inst "Reading" (rdF g cs2 m2))) (M1 : MmAt H [m, a, b] m a b ⟨[], []⟩) (M2 : H[m2]? = some (.inst "Memory" (mmF a2 b2))) (B2 : H[b2]? = some (.list [])) (N : H[n0]? = some (.list (names12.map V.str))) (G : GrT (rules12 c) g gb H)
      (dj : ∀ x ∈ [g, gb, r, r2, m2, b2, n0], x ∉ [m, a, b]) (lt : ∀ x ∈ [m, a, b], x < H.length), P) : P := by
  obtain ⟨cs2, e1, e2, M1, M2, B2, N, G, dj, lt⟩ := h
  exact k cs2 e1 e2 M1 M2 B2 N G dj lt
theorem reading2 (TO : TopOk (T12 w s)) {g : Nat} {cs : List Nat} {A B C D : MObj} (q : Q (.ref (σ.length + 4)) (σ ++ [A, B, C, D, .inst "Reading" (rdF g cs (σ.length + 5)), .inst "Memory" (mmF (σ.length + 6) (σ.length + 7)), .tdict [], .list []])) : Cal (T12 w s) 689 X (.glob "Reading") [.ref g, .str (S cs)] Q (σ ++ [A, B, C, D]) := by
  refine Cal.mk <| fn_reading (d := 684) TO ?_
  have e : (σ ++ [A, B, C, D]).length = σ.length + 4 := List.length_append
  rw [e, List.append_assoc]; exact q
inductive Ans (H : Hp) (m a b x code : Nat) (σ' : Hp) (mem : Mm) : Prop where
  | mk (M : MmAt σ' [m, a, b] m a b mem) (o : On H [m, a, b] σ' [m, a, b]) (l : H.length ≤ σ'.length) (hx : σ'[x]? = some (.list [.int code, .bool true])) : Ans H m a b x code σ' mem
inductive Gd (H : Hp) (m a b : Nat) (name : Str) (i : Int) (kind most x : Nat) (σ' : Hp) : Prop where
  | read (j : Nat) (t : List Kid) (mem : Mm) (A : Ans H m a b x 0 σ' mem) (hk : ((kind : Int) == 2) = false) (e : (j : Int) = i) (ho : mem.order = (name, j) :: t) (hz : mem.order.length ≤ 1000) : Gd H m a b name i kind most x σ'
  | p3 (A : Ans H m a b x 3 σ' ⟨[], []⟩) (hk : ((kind : Int) == 2) = true) : Gd H m a b name i kind most x σ'
  | p0 (A : Ans H m a b x 0 σ' ⟨[], []⟩) (hk : ((kind : Int) == 2) = true) (hm : 0 < most) : Gd H m a b name i kind most x σ'
section
variable {H : Hp} {m a b x : Nat} {name : Str} {i : Int} {len kind most code : Nat} {σ' : Hp}
theorem An12.no (h : An12 H m a b name i len kind most code σ') (hx : σ'[x]? = some (.list [.int code, .bool true])) (hn : name ∉ names12) : Ans H m a b x 1 σ' ⟨[], []⟩ := by
  obtain ⟨mem, h1, h2, h3, h4⟩ := h
  induction h4 with
  | no => exact ⟨h1, h2, h3, hx⟩
  | out h => exact absurd h hn
  | read _ _ _ h => exact absurd h hn
  | plain _ h => exact absurd h hn
theorem An12.out (h : An12 H m a b name i len kind most code σ') (hx : σ'[x]? = some (.list [.int code, .bool true])) (hn : name ∈ names12) (hi : i < 0 ∨ len < i) : Ans H m a b x 2 σ' ⟨[], []⟩ := by
  obtain ⟨mem, h1, h2, h3, h4⟩ := h
  induction h4 with
  | no h => exact absurd hn h
  | out => exact ⟨h1, h2, h3, hx⟩
  | read _ _ _ _ h5 h6 => exact absurd hi (by lia)
  | plain _ _ h5 h6 => exact absurd hi (by lia)
theorem An12.good (h : An12 H m a b name i len kind most code σ') (hx : σ'[x]? = some (.list [.int code, .bool true])) (hn : name ∈ names12) (hi : ¬ i < 0) (hi2 : ¬ (len : Int) < i) : Gd H m a b name i kind most x σ' := by
  obtain ⟨mem, h1, h2, h3, h4⟩ := h
  induction h4 with
  | no h => exact absurd hn h
  | out _ h => exact absurd h (not_or.mpr ⟨hi, hi2⟩)
  | read j t mem _ h5 h6 h7 h8 h9 => exact .read j t mem ⟨h1, h2, h3, hx⟩ (beq_eq_false_iff_ne.mpr fun e => h7 (Int.ofNat.inj e)) h5.symm h8 h9
  | plain _ _ h5 h6 h7 h8 =>
    subst h7
    rcases h8 with rfl | ⟨rfl, h8⟩
    · exact .p3 ⟨h1, h2, h3, hx⟩ rfl
    · exact .p0 ⟨h1, h2, h3, hx⟩ rfl h8
theorem Ans.use {P : Prop} {mem : Mm} (h : Ans H m a b x code σ' mem) (k : MmAt σ' [m, a, b] m a b mem → On H [m, a, b] σ' [m, a, b] → H.length ≤ σ'.length → σ'[x]? = some (.list [.int code, .bool true]) → P) : P := by
  obtain ⟨h1, h2, h3, h4⟩ := h
  exact k h1 h2 h3 h4
theorem Gd.use {P : Prop} (h : Gd H m a b name i kind most x σ') (k1 : ∀ (j : Nat) (t : List Kid) (mem : Mm), Ans H m a b x 0 σ' mem → ((kind : Int) == 2) = false → (j : Int) = i → mem.order = (name, j) :: t → mem.order.length ≤ 1000 → P) (k2 : Ans H m a b x 3 σ' ⟨[], []⟩ → ((kind : Int) == 2) = true → P) (k3 : Ans H m a b x 0 σ' ⟨[], []⟩ → ((kind : Int) == 2) = true → 0 < most → P) : P := by
  cases h with
  | read j t mem A hk e ho hz => exact k1 j t mem A hk e ho hz
  | p3 A hk => exact k2 A hk
  | p0 A hk hm => exact k3 A hk hm
end
/-- the law's things, made -/
inductive J12a (xs : List Int) (ρ : Loc) (σ : Hp) : Prop where
  | mk (c n n0 g gb : Nat) (cs : List Nat) (hc : isSignC c = true) (hl : cs.length = n) (hn : n < 41) (hρ : Has ρ [("_law_script", .scr xs), ("_law_sign", .str (S [c])), ("_law_names", .ref n0), ("_law_grammar", .ref g), ("_law_size", .int n), ("_law_signs", .str (S cs))]) (h0 : σ[n0]? = some (.list (names12.map V.str))) (hG : GrT (rules12 c) g gb σ) : J12a xs ρ σ
inductive J12b (ρ : Loc) (σ : Hp) : Prop where
  | mk (c n n0 g gb kind most : Nat) (cs : List Nat) (name : Str) (i : Int) (hc : isSignC c = true) (hl : cs.length = n) (hn : n < 41) (hρ : Has ρ [("_law_sign", .str (S [c])), ("_law_names", .ref n0), ("_law_grammar", .ref g), ("_law_size", .int n), ("_law_signs", .str (S cs)), ("_law_name", .str name), ("_law_place", .int i), ("_law_kind", .int kind), ("_law_most", .int most)]) (h0 : σ[n0]? = some (.list (names12.map V.str))) (hG : GrT (rules12 c) g gb σ) (hm : name ∈ all12) (hk : kind ≤ 2) (hmo : most ≤ 2) : J12b ρ σ
theorem law12 (TO : TopOk (T12 w s)) (xs : List Int) (hx : xs.length ≤ 63) : CallOk (T12 w s) 690 (fun _ _ => False) (.glob "law") [.scr xs] (fun v _ => v = .bool true) [] := by
  refine CallOk.goX (d := 689) TO rfl rfl ?_
  have hx62 : xs.length < 2 ^ 62 := by exact Nat.lt_of_le_of_lt (by assumption) (by decide)
  have cell : ∀ {k : Int} {K : QE} {τ : Hp}, decide (0 ≤ k ∧ k < 2 ^ 62) = true → K (.int (xs.getD k.toNat 0)) τ → Cal (T12 w s) 689 (fun _ _ => False) (.glob "_law_cell_at") [.scr xs, .int k] K τ := fun hk h => ⟨fn_cell_at (d := 688) TO (of_decide_eq_true hk).1 (of_decide_eq_true hk).2 hx62 h⟩
  refine ExOk.cutAt 6 (J12a xs) (vB_ok TO rfl 60 _ _ _ _ ?_) fun ρ₁ σ₁ hJ => ?_
  · refine nat_use (n := 41) (fmod_range (a := xs.getD (1 : Int).toNat 0) (b := 41) (by decide)) fun n hn hn41 => ?_
    refine cell rfl <| Cal.mk <| fn_sign_by (d := 688) TO fun c hc => ?_
    refine Cal.mk <| fn_init (d := 671) (rs := rules12 c) TO get_new (good12 hc) (fun bs junk hb hno hG => ?_) fun bs junk hb ⟨r, hr, h⟩ => absurd h (later12.no (good12 hc).nodup hr)
    refine cell rfl ?_
    refine hG.t.elim fun gb hGT => ?_
    refine MethOk.join <| Cal.range <| comp_signs (n := n) hn (by exact Nat.le_of_lt (Nat.lt_trans hn41 (Nat.le_add_left (Nat.succ 41) 1958))) (fun cs hcs => Cal.joinS get_new (hcs ▸ Nat.le_trans (Nat.le_of_lt hn41) (by decide)) ?_) fun i hi => vE_ok TO rfl 40 _ _ _ ?_
    · refine ⟨c, n, _, _, gb, cs, hc, hcs, hn41, ⟨rfl, rfl, rfl, rfl, ?_, rfl, trivial⟩, get_up (get_up (get_up get_new)), ?_⟩
      · exact congrArg (fun x => some (V.int x)) hn
      · obtain ⟨a, b, e, h1, h2⟩ := hGT; exact ⟨a, b, e, get_up h1, get_up h2⟩
    · refine cell rfl <| cell rfl <| Bin.mk ⟨_, _, .mul _ _ (.inl ⟨by exact Int.NonNeg.mk (i + Nat.succ 18446744073709551614), by lia⟩), ?_⟩
      exact Cal.mk <| fn_sign_by (d := 688) TO fun c hc => ⟨c, rfl, rfl⟩
  obtain ⟨c, n, n0, g, gb, cs, hc, hl, hn, hρ, h0, hG⟩ := hJ
  rw [← Has.eq hρ]
  refine ExOk.cutAt 5 J12b (vB_ok TO rfl 60 _ _ _ _ ?_) fun ρ₂ σ₂ hJ => vB_ok TO rfl 60 _ _ _ _ ?_
  · refine nat_use (n := 7) (fmod_range (a := xs.getD (3 : Int).toNat 0) (b := 7) (by decide)) fun j hj hj7 => ?_
    refine nat_use (n := 3) (fmod_range (a := xs.getD (6 : Int).toNat 0) (b := 3) (by decide)) fun kd hkd hk3 => ?_
    refine nat_use (n := 3) (fmod_range (a := (xs.getD (6 : Int).toNat 0).fdiv 3) (b := 3) (by decide)) fun mo hmo hm3 => ?_
    refine (show ∃ name, all12[j]? = some name from ⟨_, List.getElem?_eq_getElem hj7⟩).elim fun name hname => ?_
    refine Bin.lists (get_up h0) get_new (by simp [names12]; exact szo (by decide)) <| cell rfl <| Itm.mk <| item_at (j := j) (v := .str name) get_new hj ?_ (by simp [names12]) ?_
    · show (all12.map V.str)[j]? = _
      rw [List.getElem?_map, hname]; rfl
    have h0' := get_up (junk := [MObj.list [V.str "", V.str "b", V.str "A", V.str "defg"]]) h0
    refine cell rfl <| cell rfl ?_
    have fin : ∀ {i : Int} {ρ : Loc} {jk : Hp}, Has ρ [("_law_sign", .str (S [c])), ("_law_names", .ref n0), ("_law_grammar", .ref g), ("_law_size", .int n), ("_law_signs", .str (S cs)), ("_law_name", .str name), ("_law_place", .int i), ("_law_kind", .int ((xs.getD (6 : Int).toNat 0).fmod 3)), ("_law_most", .int (((xs.getD (6 : Int).toNat 0).fdiv 3).fmod 3))] → J12b ρ (σ₁ ++ jk) := fun {i ρ jk} h => by
      rw [hkd, hmo] at h
      obtain ⟨a, b, e, h1, h2⟩ := hG
      exact ⟨c, n, n0, g, gb, kd, mo, cs, name, i, hc, hl, hn, h, get_up h0, ⟨a, b, e, get_up h1, get_up h2⟩, List.mem_of_getElem? hname, Nat.le_of_lt_succ hk3, Nat.le_of_lt_succ hm3⟩
    refine Br.mk (fun _ => cell rfl <| Bin.mull rfl <| cell rfl <| cell rfl ?_) fun _ => cell rfl <| cell rfl ?_
    · rw [List.append_assoc]; exact fin ⟨rfl, rfl, rfl, rfl, rfl, rfl, rfl, rfl, rfl, trivial⟩
    · rw [List.append_assoc]; exact fin ⟨rfl, rfl, rfl, rfl, rfl, rfl, rfl, rfl, rfl, trivial⟩
  clear hρ h0 hG
  obtain ⟨c, n, n0, g, gb, kind, most, cs, name, i, hc, hl, hn, hρ, h0, hG, hm, hk, hmo⟩ := hJ
  rw [← Has.eq hρ]
  refine (rd_cls (w := w) (s := s)).elim fun C hC => Cal.mk <| fn_reading (d := 684) TO <| Bin.catS (by rw [hl]; exact Nat.le_trans (Nat.add_le_add_left (Nat.le_of_lt hn) 1) (by decide)) <| reading2 TO ?_
  have F := two12 (cs := cs) (cs2 := [c] ++ cs) h0 hG
  clear h0 hG
  generalize σ₂ ++ [MObj.inst "Reading" (rdF g cs (σ₂.length + 1)), .inst "Memory" (mmF (σ₂.length + 2) (σ₂.length + 3)), .tdict [], .list [], .inst "Reading" (rdF g ([c] ++ cs) (σ₂.length + 5)), .inst "Memory" (mmF (σ₂.length + 6) (σ₂.length + 7)), .tdict [], .list []] = H at F ⊢
  generalize σ₂.length = r at F ⊢
  generalize r + 1 = m, r + 2 = a, r + 3 = b, r + 5 = m2, r + 6 = a2, r + 7 = b2, r + 4 = r2 at F ⊢
  refine F.use fun cs2 e1 e2 M1 M2 B2 N G dj lt => ?_
  have hok := all_ok name hm
  have no : ∀ x, x ∈ [g, gb, r, r2, m2, b2, n0] → x ∉ [m, a, b] := fun x hx => dj x hx
  have e1' := get_up (junk := [MObj.list [V.ref r, V.ref r2]]) e1
  have M1' := M1.up (jk := [MObj.list [V.ref r, V.ref r2]])
  have G' : GrT (rules12 c) g gb (H ++ [MObj.list [V.ref r, V.ref r2]]) := by obtain ⟨x, y, z, h1, h2⟩ := G; exact ⟨x, y, z, get_up h1, get_up h2⟩
  have L : (H ++ [MObj.list [V.ref r, V.ref r2]])[H.length]? = some (.list [V.ref r, V.ref r2]) := get_new
  have e2' := get_up (junk := [MObj.list [V.ref r, V.ref r2]]) e2
  have M2' := get_up (junk := [MObj.list [V.ref r, V.ref r2]]) M2
  have B2' := get_up (junk := [MObj.list [V.ref r, V.ref r2]]) B2
  have nL : H.length ∉ [m, a, b] := fun h => Nat.lt_irrefl _ (lt _ h)
  have N' := get_up (junk := [MObj.list [V.ref r, V.ref r2]]) N
  refine Cmp.both hok names_ok N' ?_
  generalize H ++ [MObj.list [V.ref r, V.ref r2]] = H₁ at e1' M1' G' L e2' M2' B2' ⊢
  clear e1 M1 G e2 M2 B2 N N' lt
  -- the answer
  have ask : ∀ {K : QE}, (∀ code x σ', An12 H₁ m a b name i cs.length kind most code σ' → σ'[x]? = some (.list [.int code, .bool true]) → K (.ref x) σ') → Cal (T12 w s) 689 (fun _ _ => False) (.glob "_law_answer") [.ref g, .ref r, .str (S cs), .tup [.str name, .int i], .int kind, .int most] K H₁ := fun k =>
    ⟨fn_answer (d := 679) TO hc (hl ▸ Nat.le_of_lt hn) hmo hk G' (no g (by simp)) (no gb (by simp)) e1' (no r (by simp)) M1' k⟩
  have beg : ∀ {K : QE} {σ' : Hp} {mem : Mm} {l : List Kid}, MmAt σ' [m, a, b] m a b mem → On H₁ [m, a, b] σ' [m, a, b] → mem.order.length ≤ 1000 → mem.order = l → K (.ref σ'.length) (σ' ++ [.list (l.map pV')]) → MethOk (T12 w s) (.ref r) "begun" σ' fun f => Cal (T12 w s) 689 (fun _ _ => False) f [.ref r] K σ' := fun h o hz e k => by
    subst e
    obtain ⟨kvs, m1, m2, m3, m4⟩ := h
    exact MethOk.own (o.keep _ _ e1' (no r (by simp))) rfl hC.cls hC.begun <| Cal.mk <| fn_begun (d := 687) TO (o.keep _ _ e1' (no r (by simp))) m1 m3 (by rw [List.length_map]; exact szo (by exact Nat.le_trans hz (of_decide_eq_true (id (Eq.refl true))))) k
  have beg2 : ∀ {K : QE} {σ' : Hp}, On H₁ [m, a, b] σ' [m, a, b] → K (.ref σ'.length) (σ' ++ [.list []]) → MethOk (T12 w s) (.ref r2) "begun" σ' fun f => Cal (T12 w s) 689 (fun _ _ => False) f [.ref r2] K σ' := fun o k =>
    MethOk.own (o.keep _ _ e2' (no r2 (by simp))) rfl hC.cls hC.begun ⟨fn_begun (d := 687) TO (o.keep _ _ e2' (no r2 (by simp))) (o.keep _ _ M2' (no m2 (by simp))) (o.keep _ _ B2' (no b2 (by simp))) (sz _ rfl) k⟩
  have ix0 : ∀ {K : QE} {σ' : Hp}, On H₁ [m, a, b] σ' [m, a, b] → K (.ref r) σ' → Itm (.ref H.length) (.int 0) K σ' := fun o k => Itm.list (j := 0) (o.keep _ _ L nL) rfl rfl ⟨by decide, by decide⟩ k
  have ix1 : ∀ {K : QE} {σ' : Hp}, On H₁ [m, a, b] σ' [m, a, b] → K (.ref r2) σ' → Itm (.ref H.length) (.int 1) K σ' := fun o k => Itm.list (j := 1) (o.keep _ _ L nL) rfl rfl ⟨by decide, by decide⟩ k
  have f0 : ∀ {K : QE} {σ' : Hp} {x code : Nat}, σ'[x]? = some (.list [.int code, .bool true]) → K (.int code) σ' → Itm (.ref x) (.int 0) K σ' := fun h k => Itm.list (j := 0) h rfl rfl ⟨by decide, by decide⟩ k
  have f1 : ∀ {K : QE} {σ' : Hp} {x code : Nat}, σ'[x]? = some (.list [.int code, .bool true]) → K (.bool true) σ' → Itm (.ref x) (.int 1) K σ' := fun h k => Itm.list (j := 1) h rfl rfl ⟨by decide, by decide⟩ k
  have up : ∀ {σ' jk : Hp}, H₁.length ≤ σ'.length → On H₁ [m, a, b] σ' [m, a, b] → On H₁ [m, a, b] (σ' ++ jk) [m, a, b] := fun h o => o.trans .up h
  have up2 : ∀ {σ' j k : Hp}, H₁.length ≤ σ'.length → On H₁ [m, a, b] σ' [m, a, b] → On H₁ [m, a, b] (σ' ++ j ++ k) [m, a, b] := fun h o => up (Nat.le_trans h (by rw [List.length_append]; exact Nat.le_add_right _ _)) (up h o)
  have ll : (n : Int) < i ↔ (cs.length : Int) < i := by rw [hl]
  refine ⟨fun hnn => ?_, fun hnn => ?_⟩
  · refine goP (A := i < 0 ∨ (cs.length : Int) < i) (fun h => ?_) fun ng => Br.mk (fun hi => ng (.inl (show i < 0 from of_decide_eq_true hi))) fun hi => Br.mk (fun hi2 => ng (.inr (ll.mp (of_decide_eq_true hi2)))) fun hi2 => ?_
    · exact ix0 .refl <| ask fun code x σ' h' hx => (h'.out hx hnn h).use fun h1 h2 h3 hx => f0 hx <| f1 hx <| Cmp.notT <| ix1 h2 <| beg2 h2 <| Cmp.neN (get_up get_new) get_new <| ix0 (up2 h3 h2) <| beg h1.up.up (up2 h3 h2) (Nat.zero_le _) rfl <| Cmp.eqN (get_up get_new) get_new rfl
    · refine ix0 .refl <| ask fun code x σ' h' hx => (h'.good hx hnn (show ¬ i < 0 from of_decide_eq_false hi) (mt ll.mpr (of_decide_eq_false hi2))).use (fun j t mem A hk e ho hz => A.use fun h1 h2 h3 hx => ?_) (fun A hk => A.use fun h1 h2 h3 hx => ?_) fun A hk hm => A.use fun h1 h2 h3 hx => ?_
      · have hz' : t.length + 1 ≤ 1000 := by rw [ho] at hz; exact hz
        exact Br.f hk <| f0 hx <| f1 hx <| Cmp.notT <| ix1 h2 <| beg2 h2 <| Cmp.neN (get_up get_new) get_new <| ix0 (up2 h3 h2) <| beg h1.up.up (up2 h3 h2) hz ho <| Cal.isi (b := true) (isi_list get_new) <| Cal.len (n := t.length + 1) (len_at get_new (by simp)) (Nat.lt_of_le_of_lt hz' (by decide)) <| Br.t (by simp) <| Itm.list (j := 0) (v := pV' (name, j)) get_new (by unfold seqIndex?; simp) rfl ⟨by decide, by decide⟩ <| Cmp.eqP hok e rfl
      · exact Br.t hk <| f0 hx <| f1 hx <| Cmp.isT <| ix0 h2 <| beg h1 h2 (Nat.zero_le _) rfl <| Cmp.eqN (get_up get_new) get_new rfl
      · exact Br.t hk <| f0 hx <| f0 hx <| Br.t (decide_eq_true (Int.ofNat_lt.mpr hm)) <| f1 hx <| Cmp.isT <| ix0 h2 <| beg h1 h2 (Nat.zero_le _) rfl <| Cmp.eqN (get_up get_new) get_new rfl
  · exact ix0 .refl <| ask fun code x σ' h' hx => (h'.no hx hnn).use fun h1 h2 h3 hx => f0 hx <| f1 hx <| Cmp.notT <| ix1 h2 <| beg2 h2 <| Cmp.neN (get_up get_new) get_new <| ix0 (up2 h3 h2) <| beg h1.up.up (up2 h3 h2) (Nat.zero_le _) rfl <| Cmp.eqN (get_up get_new) get_new rfl
end Mine
end

open PySem PySem.W PyProof.Rows in
set_option maxRecDepth 100000 in
set_option maxHeartbeats 8000000 in
theorem PySem.Challenge.cw_uf010010_12_holds : PySem.Challenge.rw_uf010010_12.Holds := by
  refine Mine.hd12 ?_
  intro w s₀ s₁ mg mb G Y fa o pm cd doc dV kV ho hd hcd hD hmg hg args vals as hpre hlay hrd hwl hlo
  have KX := kIn_of Y
  refine Ground.open G ?_
  intro T B D TE TW
  have TR := topRead_of T
  clear hd hcd hD
  wrow_args hpre hlay hrd hwl hlo
  rename_i xs _ _ _ _ _ _ _ la vs _ hL _ _ _ hI _ hn _
  obtain ⟨l, hl, hxs⟩ := Mine.ints_pairs hI
  obtain ⟨ol, h1, h2, n, h3⟩ := hL
  exact Mine.finish (fun _ => rfl) (by wrow_post) (Mine.start TR KX hg ⟨56, _, rfl, by decide⟩ hmg (by rfl) h1 h2 h3 (by simpa using hl) hxs (Mine.law12 (Mine.topOk_of TR KX) xs (by omega)))
