import PyProof.Rows.All
import Wide.All
import OpenK.AllK
import Wide.FinOn
import PyProof.Rows.Many
import PyProof.Rows.Tup
import PyProof.DictList
import PyProof.DictKinds
import PyProof.RangeIter
import PyProof.Ns1
import PyProof.TupleOps
import OpenK.KLine
import PyProof.Rows.StrRules
import PyProof.Rows.RuleB_mul
import PyProof.Rows.RuleB_mod
import PyProof.Rows.RuleB_floordiv
import PyProof.Rows.RuleB_sub
import PyProof.Rows.RuleC_int
import PyProof.Rows.IntRules
import PyProof.EqKinds
import PyProof.EqAt
import PyProof.StrBlock2
import PyProof.P3Eq
import PyProof.P3In
import PyProof.NeData
import PyProof.IsRules
import PyProof.NeKinds
import PyProof.DictRoads
import PyProof.ListTruth
import OpenK.KOwn
import PyProof.Rows.TupSub
import PyProof.Rows.StrTemp
import PyProof.Rules2
import PyProof.Rules3
import PyProof.Truth
import PyProof.Rows.TupMore
import PyProof.RulesDelMore
import PyProof.RulesAssignMore
import PyProof.IsiPairs
import PyProof.IsiHeapPairs
import PyProof.CallFns
import PyProof.ListIndexNeg
import PyProof.DictTruth
import PyProof.Methods
import PyProof.RaisesMany
import PyProof.Cells
import PyProof.WalksPairs
import PyProof.StrLoop
import PyProof.TupleIter
import PyProof.StrWalks
import PyProof.RangeFor
import PyProof.Rows.TupIter
import PyProof.Rows.MatchSeqLen
import PyProof.CallRoads
import PyProof.PureCalls
import PyProof.FactsAll.list
import PyProof.FactsAll.dict
import PyProof.FactsAll.str
import PyProof.Rows.AttrNodeAny
import PyProof.AssignAttr
import PyProof.CompFree
import PyProof.WalksMore
import PyProof.ListOps
import PyProof.CompMap
import PyProof.IsiNone
import PyProof.ListCopy
import PyProof.WalkInts
import PyProof.ConsumeWalk
import PyProof.Rows.SortStr
import PyProof.StrCalls2
import PyProof.MeetsSeq
import PyProof.AutoSeq1
import PyProof.Rows.SortWalk
import PyProof.Rows.StrWeight2
import PyProof.SliceStr2
import PyProof.StrBlockI
import PyProof.Rows.TupAssign
import PyProof.StrCalls
import PyProof.ExcClass2
import PyProof.ExcBaseAll.ValueError
import KE.KIsAll
import PyProof.ExcArgsOwn
import PyProof.ExcAttrAll.ValueError
import PyProof.NsDelKeeps
import PyProof.Rows.CatchOwn
import PyProof.SliceMore
import PySem.Challenge.RW_uf010010_04
name_quick tw14681236956119772812 for PySem.W.S.modZ by PySem.W.S.modZ_eq
name_quick tw6304672106179966984 for PySem.W.S.modZ by PySem.W.S.modZ_eq
name_quick tw7623113815180839648 for PySem.W.S.modZ by PySem.W.S.modZ_eq
name_quick tw13727733219342625101 for PySem.W.S.modZ by PySem.W.S.modZ_eq
name_quick tw1560585007435243555 for PySem.W.S.modZ by PySem.W.S.modZ_eq
name_quick tw6339299941540687210 for PySem.W.S.modZ by PySem.W.S.modZ_eq
name_quick tw3163531783514484489 for PySem.W.S.modZ by PySem.W.S.modZ_eq
name_quick tw15617289751162277648 for PySem.W.S.modZ by PySem.W.S.modZ_eq
name_quick tw13169434824746271375 for PySem.W.S.modZ by PySem.W.S.modZ_eq
name_quick tw12399820405719259841 for PySem.W.S.modZ by PySem.W.S.modZ_eq
name_quick tw3521298191987984786 for PySem.W.S.modZ by PySem.W.S.modZ_eq
name_quick tw4210665539440090596 for PySem.W.S.modZ by PySem.W.S.modZ_eq
name_quick tw9074506642532187630 for PySem.W.S.modZ by PySem.W.S.modZ_eq
name_quick tw6038865195579178589 for PySem.W.S.modZ by PySem.W.S.modZ_eq
name_quick tw12681308073894907494 for PySem.W.S.modZ by PySem.W.S.modZ_eq
name_quick tw7556874836370331275 for PySem.W.S.modZ by PySem.W.S.modZ_eq
name_quick tw1244459519374156056 for PySem.W.S.modZ by PySem.W.S.modZ_eq
name_quick tw13707886579030400729 for PySem.W.S.modZ by PySem.W.S.modZ_eq
name_quick tw578364437386392996 for PySem.W.S.modZ by PySem.W.S.modZ_eq
name_quick tw1462439112709555429 for PySem.W.S.modZ by PySem.W.S.modZ_eq
name_quick tw13205061467989124908 for PySem.W.S.modZ by PySem.W.S.modZ_eq
name_quick tw7732778875926677397 for PySem.W.S.modZ by PySem.W.S.modZ_eq
name_quick tw9696969601254315643 for PySem.W.S.modZ by PySem.W.S.modZ_eq
name_quick tw2386979664156122982 for PySem.W.S.modZ by PySem.W.S.modZ_eq
name_quick tw9439337710556629980 for PySem.W.S.modZ by PySem.W.S.modZ_eq
name_quick tw4494888795511383873 for PySem.W.S.modZ by PySem.W.S.modZ_eq
name_quick tw15252818990610007908 for PySem.W.S.modZ by PySem.W.S.modZ_eq
name_quick tw3023154690420236471 for PySem.W.S.modZ by PySem.W.S.modZ_eq
name_quick tw7570896192640548116 for PySem.W.S.modZ by PySem.W.S.modZ_eq
name_quick tw7729103832989181554 for PySem.W.S.modZ by PySem.W.S.modZ_eq
name_quick tw17127722484177483074 for PySem.W.S.modZ by PySem.W.S.modZ_eq
name_quick tw5098881662871480635 for PySem.W.S.modZ by PySem.W.S.modZ_eq
name_quick tw33950052395445440 for PySem.W.S.modZ by PySem.W.S.modZ_eq
name_quick tw5125577500477021117 for PySem.W.S.modZ by PySem.W.S.modZ_eq
name_quick tw12822485171273228958 for PySem.W.S.modZ by PySem.W.S.modZ_eq
name_quick tw15134122912399138329 for PySem.W.S.modZ by PySem.W.S.modZ_eq
name_quick tw9343245400291015811 for PySem.W.S.modZ by PySem.W.S.modZ_eq
name_quick tw7366680458611115089 for PySem.W.S.modZ by PySem.W.S.modZ_eq
name_quick tw16039940855075714575 for PySem.W.S.modZ by PySem.W.S.modZ_eq
name_quick tw3673485739260939245 for PySem.W.S.modZ by PySem.W.S.modZ_eq
name_quick tw1231614143640442651 for PySem.W.S.modZ by PySem.W.S.modZ_eq
name_quick tw18196303169156832177 for PySem.W.S.modZ by PySem.W.S.modZ_eq
name_quick tw861075621470759228 for PySem.W.S.modZ by PySem.W.S.modZ_eq
name_quick tw2724242946518014976 for PySem.W.S.modZ by PySem.W.S.modZ_eq
name_quick tw3108536850656749666 for PySem.W.S.modZ by PySem.W.S.modZ_eq
name_quick tw14306865068362117092 for PySem.W.S.modZ by PySem.W.S.modZ_eq
name_quick tw13416741951739559231 for PySem.W.S.modZ by PySem.W.S.modZ_eq
name_quick tw7721570211008415519 for PySem.W.S.modZ by PySem.W.S.modZ_eq
name_quick tw8629489246051044783 for PySem.W.S.modZ by PySem.W.S.modZ_eq
name_quick tw17256659118024154103 for PySem.W.S.modZ by PySem.W.S.modZ_eq
name_quick tw10193762309790967823 for PySem.W.S.modZ by PySem.W.S.modZ_eq
name_quick tw15308462254609034129 for PySem.W.S.modZ by PySem.W.S.modZ_eq
name_quick tw1686644261342178838 for PySem.W.S.modZ by PySem.W.S.modZ_eq
name_quick tw18153726877094260123 for PySem.W.S.modZ by PySem.W.S.modZ_eq
name_quick tw11432380746495309758 for PySem.W.S.modZ by PySem.W.S.modZ_eq
name_quick tw5069390626822470046 for PySem.W.S.modZ by PySem.W.S.modZ_eq
name_quick tw5992320408125226547 for PySem.W.S.modZ by PySem.W.S.modZ_eq
name_quick tw15845533098145881907 for PySem.W.S.modZ by PySem.W.S.modZ_eq
name_quick tw10241590694811576465 for PySem.W.S.modZ by PySem.W.S.modZ_eq
name_quick tw1925418300929502364 for PySem.W.S.modZ by PySem.W.S.modZ_eq
name_quick tw14563192603815550257 for PySem.W.S.modZ by PySem.W.S.modZ_eq
name_quick tw12034199034827634845 for PySem.W.S.modZ by PySem.W.S.modZ_eq
name_quick tw3985900893936680930 for PySem.W.S.modZ by PySem.W.S.modZ_eq
name_quick tw8248609415653492107 for PySem.W.S.modZ by PySem.W.S.modZ_eq
name_quick tw9949384261147468197 for PySem.W.S.modZ by PySem.W.S.modZ_eq
name_quick tw5685323300911062359 for PySem.W.S.modZ by PySem.W.S.modZ_eq
name_quick tw1489264238375262498 for PySem.W.S.modZ by PySem.W.S.modZ_eq
name_quick tw8618870998411298484 for PySem.W.S.modZ by PySem.W.S.modZ_eq
name_quick tw915815986347856940 for PySem.W.S.modZ by PySem.W.S.modZ_eq
name_quick tw5798149962259545521 for PySem.W.S.modZ by PySem.W.S.modZ_eq
name_quick tw16190146909960481713 for PySem.W.S.modZ by PySem.W.S.modZ_eq
name_quick tw18183907863532780220 for PySem.W.S.modZ by PySem.W.S.modZ_eq
name_quick tw13987348018604300492 for PySem.W.S.modZ by PySem.W.S.modZ_eq
name_quick tw10115556195710931954 for PySem.W.S.modZ by PySem.W.S.modZ_eq
name_quick tw11410925786272809950 for PySem.W.S.modZ by PySem.W.S.modZ_eq
name_quick tw2669328374397194724 for PySem.W.S.modZ by PySem.W.S.modZ_eq
name_quick tw11857010651534671100 for PySem.W.S.modZ by PySem.W.S.modZ_eq
name_quick tw504259231488856075 for PySem.W.S.modZ by PySem.W.S.modZ_eq
name_quick tw6417525762732040466 for PySem.W.S.modZ by PySem.W.S.modZ_eq
name_quick tw13042668301420614178 for PySem.W.S.modZ by PySem.W.S.modZ_eq
name_quick tw12813075919735189428 for PySem.W.S.modZ by PySem.W.S.modZ_eq
name_quick tw12756686511864566464 for PySem.W.S.modZ by PySem.W.S.modZ_eq
name_quick tw11196414739786263677 for PySem.W.S.modZ by PySem.W.S.modZ_eq
name_quick tw888777746327284733 for PySem.W.S.modZ by PySem.W.S.modZ_eq
name_quick tw13276751674960470233 for PySem.W.S.modZ by PySem.W.S.modZ_eq
name_quick tw7971415933867236212 for PySem.W.S.modZ by PySem.W.S.modZ_eq
name_quick tw2917516987338232636 for PySem.W.S.modZ by PySem.W.S.modZ_eq
name_quick tw5295284662001551089 for PySem.W.S.modZ by PySem.W.S.modZ_eq
name_quick tw9457185545991124699 for PySem.W.S.modZ by PySem.W.S.modZ_eq
name_quick tw12105636385618266861 for PySem.W.S.modZ by PySem.W.S.modZ_eq
name_quick tw5595902887385389309 for PySem.W.S.modZ by PySem.W.S.modZ_eq
name_quick tw11132328626274325057 for PySem.W.S.modZ by PySem.W.S.modZ_eq
name_quick tw13709660008281708221 for PySem.W.S.modZ by PySem.W.S.modZ_eq
name_quick tw17231341550160393204 for PySem.W.S.modZ by PySem.W.S.modZ_eq
name_quick tw1359289958735379928 for PySem.W.S.modZ by PySem.W.S.modZ_eq
name_quick tw3542347291411533133 for PySem.W.S.modZ by PySem.W.S.modZ_eq
name_quick tw16778688890554764180 for PySem.W.S.modZ by PySem.W.S.modZ_eq
name_quick tw9945466370890310405 for PySem.W.S.modZ by PySem.W.S.modZ_eq
name_quick tw4709833392283582560 for PySem.W.S.modZ by PySem.W.S.modZ_eq
name_quick tw4571492146443378357 for PySem.W.S.modZ by PySem.W.S.modZ_eq
name_quick tw17820305359977878907 for PySem.W.S.modZ by PySem.W.S.modZ_eq
name_quick tw11496674665010740147 for PySem.W.S.modZ by PySem.W.S.modZ_eq
name_quick tw11070790669497671241 for PySem.W.S.modZ by PySem.W.S.modZ_eq
name_quick tw6241244773085934852 for PySem.W.S.modZ by PySem.W.S.modZ_eq
name_quick tw13810922925942201822 for PySem.W.S.modZ by PySem.W.S.modZ_eq
name_quick tw7405643606254308128 for PySem.W.S.modZ by PySem.W.S.modZ_eq
name_quick tw13125437351675109827 for PySem.W.S.modZ by PySem.W.S.modZ_eq
name_quick tw11070432992375201194 for PySem.W.S.modZ by PySem.W.S.modZ_eq
name_quick tw17961367886030725469 for PySem.W.S.modZ by PySem.W.S.modZ_eq
name_quick tw7433825909816986698 for PySem.W.S.modZ by PySem.W.S.modZ_eq
name_quick tw9332125925139668060 for PySem.W.S.modZ by PySem.W.S.modZ_eq
name_quick tw17775801259856694646 for PySem.W.S.modZ by PySem.W.S.modZ_eq
name_quick tw14080886978400442108 for PySem.W.S.modZ by PySem.W.S.modZ_eq
name_quick tw6767740789239846780 for PySem.W.S.modZ by PySem.W.S.modZ_eq
name_quick tw4595568398398161922 for PySem.W.S.modZ by PySem.W.S.modZ_eq
name_quick tw5658668087903007671 for PySem.W.S.modZ by PySem.W.S.modZ_eq
name_quick tw13671555543627191638 for PySem.W.S.modZ by PySem.W.S.modZ_eq
name_quick tw14485752030098519685 for PySem.W.S.modZ by PySem.W.S.modZ_eq
name_quick tw8613583960790018207 for PySem.W.S.modZ by PySem.W.S.modZ_eq
name_quick tw10437620026679355199 for PySem.W.S.modZ by PySem.W.S.modZ_eq
name_quick tw14484517310144062342 for PySem.W.S.modZ by PySem.W.S.modZ_eq
name_quick tw13935032674976818756 for PySem.W.S.modZ by PySem.W.S.modZ_eq
name_quick tw18012449738747461262 for PySem.W.S.modZ by PySem.W.S.modZ_eq
name_quick tw7085964236282660922 for PySem.W.S.modZ by PySem.W.S.modZ_eq
name_quick tw2471854320143038717 for PySem.W.S.modZ by PySem.W.S.modZ_eq
name_quick tw8282635903050997582 for PySem.W.S.modZ by PySem.W.S.modZ_eq
name_quick tw8434607305321447325 for PySem.W.S.modZ by PySem.W.S.modZ_eq
name_quick tw6859528125276211372 for PySem.W.S.modZ by PySem.W.S.modZ_eq
name_quick tw10675541482758789367 for PySem.W.S.modZ by PySem.W.S.modZ_eq
name_quick tw16574046629846205580 for PySem.W.S.modZ by PySem.W.S.modZ_eq
name_quick tw7454551810324709651 for PySem.W.S.modZ by PySem.W.S.modZ_eq
name_quick tw2013475875297464131 for PySem.W.S.modZ by PySem.W.S.modZ_eq
name_quick tw18313918655100584508 for PySem.W.S.modZ by PySem.W.S.modZ_eq
name_quick tw18062138336134232420 for PySem.W.S.modZ by PySem.W.S.modZ_eq
name_quick tw1221609007119266737 for PySem.W.S.modZ by PySem.W.S.modZ_eq
name_quick tw854185948963357288 for PySem.W.S.modZ by PySem.W.S.modZ_eq
name_quick tw10951205525642169667 for PySem.W.S.modZ by PySem.W.S.modZ_eq
name_quick tw7059375992697156154 for PySem.W.S.modZ by PySem.W.S.modZ_eq
name_quick tw6857160873809652272 for PySem.W.S.modZ by PySem.W.S.modZ_eq
name_quick tw16005553350965298042 for PySem.W.S.modZ by PySem.W.S.modZ_eq
name_quick tw11425897423237383788 for PySem.W.S.modZ by PySem.W.S.modZ_eq
name_quick tw8247533329759870342 for PySem.W.S.modZ by PySem.W.S.modZ_eq
name_quick tw1943727325938659469 for PySem.W.S.modZ by PySem.W.S.modZ_eq
name_quick tw6496281125411216590 for PySem.W.S.modZ by PySem.W.S.modZ_eq
name_quick tw13023406836304240561 for PySem.W.S.modZ by PySem.W.S.modZ_eq
name_quick tw7581418844402596803 for PySem.W.S.modZ by PySem.W.S.modZ_eq
name_quick tw3420076390240857431 for PySem.W.S.modZ by PySem.W.S.modZ_eq
name_quick tw14523096998076165759 for PySem.W.S.modZ by PySem.W.S.modZ_eq
name_quick tw11854288309668803375 for PySem.W.S.modZ by PySem.W.S.modZ_eq
name_quick tw16204877244099590982 for PySem.W.S.modZ by PySem.W.S.modZ_eq
name_quick tw17590747594661564997 for PySem.W.S.modZ by PySem.W.S.modZ_eq
name_quick tw1457193831275365455 for PySem.W.S.modZ by PySem.W.S.modZ_eq
name_quick tw3130510539108571842 for PySem.W.S.modZ by PySem.W.S.modZ_eq
name_quick tw11488846709515881126 for PySem.W.S.modZ by PySem.W.S.modZ_eq
name_quick tw8932709310944403313 for PySem.W.S.modZ by PySem.W.S.modZ_eq
name_quick tw877932242247067623 for PySem.W.S.modZ by PySem.W.S.modZ_eq
name_quick tw6057766414791528563 for PySem.W.S.modZ by PySem.W.S.modZ_eq
name_quick tw4618251355253430351 for PySem.W.S.modZ by PySem.W.S.modZ_eq
name_quick tw10495480094364804933 for PySem.W.S.modZ by PySem.W.S.modZ_eq
name_quick tw9988411384532477610 for PySem.W.S.modZ by PySem.W.S.modZ_eq
name_quick tw4393242827879014699 for PySem.W.S.modZ by PySem.W.S.modZ_eq
name_quick tw9236915443315516015 for PySem.W.S.modZ by PySem.W.S.modZ_eq
name_quick tw1623082270224717475 for PySem.W.S.modZ by PySem.W.S.modZ_eq
name_quick tw4652628250645662282 for PySem.W.S.modZ by PySem.W.S.modZ_eq
name_quick tw12844576678281365877 for PySem.W.S.modZ by PySem.W.S.modZ_eq
name_quick tw4225484229988485656 for PySem.W.S.modZ by PySem.W.S.modZ_eq
name_quick tw4564160131166177332 for PySem.W.S.modZ by PySem.W.S.modZ_eq
name_quick tw156599725692830385 for PySem.W.S.modZ by PySem.W.S.modZ_eq
name_quick tw15721188169904687176 for PySem.W.S.modZ by PySem.W.S.modZ_eq
set_option Elab.async false

namespace Mine
open PySem PySem.W PyProof.Rows
set_option maxRecDepth 100000
set_option maxHeartbeats 8000000
open_top hd04 for PySem.Challenge.rw_uf010010_04
end Mine


set_option genSizeOf false
namespace Mine
open PySem PySem.Calls PyProof.Rows

/-- a value as the mini level sees it: immutable data are trees; what may change is a place in the mini heap -/
inductive V where
  | none
  | bool (b : Bool)
  | int (i : Int)
  | str (s : Str)
  | tup (vs : List V)
  | ref (l : Nat)
  | glob (x : Str)
  | mth (c x : Str)
  | type (n : String)
  | bi (id : String)
  | rng (n : Int)
  | exc (c : Str)
  | scr (xs : List Int)

inductive MObj where
  | list (vs : List V)
  | sdict (kvs : List (Str × V))
  | tdict (kvs : List ((Str × Int) × V))
  | inst (c : Str) (fs : List (Str × V))

noncomputable abbrev Hp := List MObj
noncomputable abbrev Inj := List (Addr × Addr)
noncomputable def own (ι : Inj) : List Addr := ι.flatMap fun p => [p.1, p.2]

theorem mem_own {ι : Inj} {a : Addr} : a ∈ own ι ↔ ∃ p ∈ ι, a = p.1 ∨ a = p.2 := by
  simp [own]

theorem own_append (ι κ : Inj) : own (ι ++ κ) = own ι ++ own κ := by simp [own]

/-- what is said once of the law: its world, the heap ahead of the call, where a global name, a method and a class stand -/
structure Tp where
  prog : Program
  w : World
  b0 : Heap
  os : OsState
  K : PySem.W.Frag
  gv : Str → Option V
  hd : Bool
noncomputable def Tp.g (T : Tp) (x : Str) : Option Value := (PySem.W.nsIn T.K mainGlobals x).join
noncomputable def Tp.c (T : Tp) (x : Str) : Option Addr := match T.g x with | some (.ref a) => some a | _ => none
noncomputable def Tp.m (T : Tp) (c x : Str) : Option Value := (T.c c).bind fun C => (PySem.W.findIn T.K (.ref C) x).join

noncomputable def frozen (o : Obj) : Bool := o.cls == .type "tuple" || o.cls == .type "range"
/-- an iterator that a loop walks -/
noncomputable def iterish (o : Obj) : Bool := match o.cls with
  | .type n => ["list_iterator", "tuple_iterator", "range_iterator", "longrange_iterator", "str_iterator", "str_ascii_iterator", "dict_keyiterator"].contains n
  | _ => false
/-- an object whose class nobody asks again -/
noncomputable def loose (o : Obj) : Bool := match o.cls with
  | .type n => n != "frame"
  | _ => false
theorem loose_ref {o : Obj} {C : Addr} (h : o.cls = .ref C) : loose o = false := by simp [loose, h]
theorem loose_eq {o o' : Obj} (h : o'.cls = o.cls) : loose o' = loose o := by simp [loose, h]
theorem iterish_loose {o : Obj} (h : iterish o = true) : loose o = true := by
  unfold iterish at h; unfold loose
  split at h
  · rename_i n hn
    simp only [List.contains_iff_mem, List.mem_cons, List.not_mem_nil, or_false] at h
    rcases h with rfl | rfl | rfl | rfl | rfl | rfl | rfl <;> decide
  · cases h
/-- the same, or an object of an own class -/
noncomputable def itr (o : Obj) : Bool := match o.cls with
  | .type _ => iterish o
  | _ => true
theorem itr_eq {o o' : Obj} (h : o'.cls = o.cls) : itr o' = itr o := by simp [itr, iterish, h]
theorem itr_iterish {o : Obj} (h : itr o = false) : iterish o = false := by
  unfold itr at h; split at h
  · exact h
  · cases h
theorem itr_ref {o : Obj} {C : Addr} (h : itr o = false) (c : o.cls = .ref C) : False := by
  unfold itr at h; rw [c] at h; cases h

mutual
noncomputable def VRel (T : Tp) (ι : Inj) (h : Heap) : V → Value → Prop
  | .none, v => v = .none
  | .bool b, v => v = .bool b
  | .int i, v => ∃ t, v = .int i t
  | .str s, v => ∃ t, v = .str s t
  | .tup vs, v => ∃ a items n, v = .ref a ∧ IsT h a items n ∧ VRels T ι h vs items.toList
  | .ref l, v => ∃ a d, v = .ref a ∧ ι[l]? = some (a, d)
  | .glob x, v => T.g x = some v
  | .mth c x, v => T.m c x = some v
  | .type n, v => v = .type n
  | .bi id, v => v = .builtin id
  | .rng n, v => ∃ a t1 t2 t3, v = .ref a ∧ IsRange h a 0 n 1 t1 t2 t3
  | .exc c, v => ∃ a o C, v = .ref a ∧ h.get? a = some o ∧ T.c c = some C ∧ o.cls = .ref C
  | .scr xs, v => ∃ a o items n, v = .ref a ∧ T.b0.get? a = some o ∧ o.cls = .type "list" ∧ o.data = .seq items n ∧ ∃ l : List (Int × Tok), items.toList = l.map (fun p => Value.int p.1 p.2) ∧ l.map (·.1) = xs
noncomputable def VRels (T : Tp) (ι : Inj) (h : Heap) : List V → List Value → Prop
  | [], [] => True
  | v :: vs, x :: xs => VRel T ι h v x ∧ VRels T ι h vs xs
  | [], _ :: _ => False
  | _ :: _, [] => False
end

noncomputable def ORelV (T : Tp) (ι : Inj) (h : Heap) : Option V → Option Value → Prop
  | none, none => True
  | some v, some x => VRel T ι h v x
  | _, _ => False

structure Mono (ι : Inj) (h : Heap) (ι' : Inj) (h' : Heap) : Prop where
  pre : ∃ κ, ι' = ι ++ κ
  cls : ∀ a o, h.get? a = some o → loose o = false → ∃ o', h'.get? a = some o' ∧ o'.cls = o.cls
  frz : ∀ a o, h.get? a = some o → frozen o = true → h'.get? a = some o

theorem Mono.get {ι ι' : Inj} {h h' : Heap} (x : Mono ι h ι' h') {l : Nat} {p : Addr × Addr} (e : ι[l]? = some p) : ι'[l]? = some p := by
  obtain ⟨κ, rfl⟩ := x.pre
  rw [List.getElem?_append_left]
  · exact e
  · exact (List.getElem?_eq_some_iff.mp e).1

mutual
theorem VRel.mono {T : Tp} {ι ι' : Inj} {h h' : Heap} (m : Mono ι h ι' h') : ∀ {v : V} {x : Value}, VRel T ι h v x → VRel T ι' h' v x
  | .none, _, e => e
  | .bool _, _, e => e
  | .int _, _, e => e
  | .str _, _, e => e
  | .tup _, _, e => by
    unfold VRel at e ⊢
    obtain ⟨a, items, n, e1, e2, e3⟩ := e
    exact ⟨a, items, n, e1, m.frz a _ e2 (by simp [frozen]), VRels.mono m e3⟩
  | .ref _, _, e => by
    unfold VRel at e ⊢
    obtain ⟨a, d, e1, e2⟩ := e
    exact ⟨a, d, e1, m.get e2⟩
  | .glob _, _, e => e
  | .mth _ _, _, e => e
  | .type _, _, e => e
  | .bi _, _, e => e
  | .rng _, _, e => by
    unfold VRel at e ⊢
    obtain ⟨a, t1, t2, t3, e1, e2⟩ := e
    exact ⟨a, t1, t2, t3, e1, m.frz a _ e2 (by simp [frozen])⟩
  | .exc _, _, e => by
    unfold VRel at e ⊢
    obtain ⟨a, o, C, e1, e2, e3, e4⟩ := e
    obtain ⟨o', e5, e6⟩ := m.cls a o e2 (loose_ref e4)
    exact ⟨a, o', C, e1, e5, e3, e6.trans e4⟩
  | .scr _, _, e => e
theorem VRels.mono {T : Tp} {ι ι' : Inj} {h h' : Heap} (m : Mono ι h ι' h') : ∀ {vs : List V} {xs : List Value}, VRels T ι h vs xs → VRels T ι' h' vs xs
  | [], [], _ => trivial
  | _ :: _, _ :: _, e => by
    unfold VRels at e ⊢
    exact ⟨VRel.mono m e.1, VRels.mono m e.2⟩
end

theorem ORelV.mono {T : Tp} {ι ι' : Inj} {h h' : Heap} (m : Mono ι h ι' h') : ∀ {v : Option V} {x : Option Value}, ORelV T ι h v x → ORelV T ι' h' v x
  | none, none, _ => trivial
  | some _, some _, e => VRel.mono m e

theorem VRels.length {T : Tp} {ι : Inj} {h : Heap} : ∀ {vs : List V} {xs : List Value}, VRels T ι h vs xs → xs.length = vs.length
  | [], [], _ => rfl
  | _ :: _, _ :: _, e => by unfold VRels at e; simp [VRels.length e.2]
theorem VRels.nil_iff {T : Tp} {ι : Inj} {h : Heap} {xs : List Value} : VRels T ι h [] xs ↔ xs = [] := by
  cases xs <;> simp [VRels]
theorem VRels.cons_iff {T : Tp} {ι : Inj} {h : Heap} {v : V} {vs : List V} {xs : List Value} : VRels T ι h (v :: vs) xs ↔ ∃ x r, xs = x :: r ∧ VRel T ι h v x ∧ VRels T ι h vs r := by
  cases xs with
  | nil => simp [VRels]
  | cons x r =>
    simp only [VRels, List.cons.injEq]
    constructor
    · rintro ⟨a, b⟩; exact ⟨x, r, ⟨rfl, rfl⟩, a, b⟩
    · rintro ⟨_, _, ⟨rfl, rfl⟩, a, b⟩; exact ⟨a, b⟩
theorem VRels.append {T : Tp} {ι : Inj} {h : Heap} : ∀ {vs us : List V} {xs ys : List Value}, VRels T ι h vs xs → VRels T ι h us ys → VRels T ι h (vs ++ us) (xs ++ ys)
  | [], _, [], _, _, e => e
  | _ :: _, _, _ :: _, _, d, e => by
    unfold VRels at d
    show VRels T ι h (_ :: (_ ++ _)) (_ :: (_ ++ _))
    unfold VRels
    exact ⟨d.1, VRels.append d.2 e⟩
theorem VRels.get {T : Tp} {ι : Inj} {h : Heap} : ∀ {vs : List V} {xs : List Value} {i : Nat} {v : V}, VRels T ι h vs xs → vs[i]? = some v → ∃ x, xs[i]? = some x ∧ VRel T ι h v x
  | _ :: _, _ :: _, 0, _, d, e => by
    unfold VRels at d
    simp only [List.getElem?_cons_zero, Option.some.injEq] at e ⊢
    exact ⟨_, rfl, e ▸ d.1⟩
  | _ :: _, _ :: _, i + 1, _, d, e => by
    unfold VRels at d
    simp only [List.getElem?_cons_succ] at e ⊢
    exact VRels.get d.2 e

/-- from (ι, h) on to (ι', h'): nothing that stood has turned but what is in the mini heap and in F -/
structure Ext (T : Tp) (F : List Addr) (ι : Inj) (h : Heap) (ι' : Inj) (h' : Heap) : Prop where
  pre : ∃ κ, ι' = ι ++ κ ∧ ∀ p ∈ κ, h.objs.size ≤ p.1 ∧ h.objs.size ≤ p.2
  size : h.objs.size ≤ h'.objs.size
  cls : ∀ a o, h.get? a = some o → loose o = false → ∃ o', h'.get? a = some o' ∧ o'.cls = o.cls
  frz : ∀ a o, h.get? a = some o → frozen o = true → h'.get? a = some o
  keep : ∀ a o, h.get? a = some o → a ∉ own ι → a ∉ F → o.cls ≠ .type "frame" → h'.get? a = some o
  frm : ∀ a o, h.get? a = some o → a ∉ own ι → a ∉ F → ∃ sl, h'.get? a = some { o with slots := sl }

theorem Ext.refl (T : Tp) (F : List Addr) (ι : Inj) (h : Heap) : Ext T F ι h ι h :=
  ⟨⟨[], by simp, by simp⟩, Nat.le_refl _, fun _ o e _ => ⟨o, e, rfl⟩, fun _ _ e _ => e, fun _ _ e _ _ _ => e, fun _ o e _ _ => ⟨o.slots, e⟩⟩

theorem Ext.mono {T : Tp} {F : List Addr} {ι ι' : Inj} {h h' : Heap} (x : Ext T F ι h ι' h') : Mono ι h ι' h' :=
  ⟨let ⟨κ, e, _⟩ := x.pre; ⟨κ, e⟩, x.cls, x.frz⟩

theorem Ext.not_own {T : Tp} {F : List Addr} {ι ι' : Inj} {h h' : Heap} (x : Ext T F ι h ι' h') {a : Addr} (hn : a ∉ own ι) (hl : a < h.objs.size) : a ∉ own ι' := by
  obtain ⟨κ, rfl, hk⟩ := x.pre
  rw [own_append, List.mem_append, not_or]
  refine ⟨hn, fun hm => ?_⟩
  obtain ⟨p, hp, e⟩ := mem_own.mp hm
  have := hk p hp
  rcases e with rfl | rfl
  · exact absurd this.1 (Nat.not_le.mpr hl)
  · exact absurd this.2 (Nat.not_le.mpr hl)

theorem Ext.trans {T : Tp} {F : List Addr} {ι ι₁ ι₂ : Inj} {h h₁ h₂ : Heap} (x : Ext T F ι h ι₁ h₁) (y : Ext T F ι₁ h₁ ι₂ h₂) : Ext T F ι h ι₂ h₂ := by
  refine ⟨?_, Nat.le_trans x.size y.size, fun a o e i => ?_, fun a o e f => y.frz a o (x.frz a o e f) f, fun a o e n f c => ?_, fun a o e n f => ?_⟩
  · obtain ⟨κ, rfl, hk⟩ := x.pre
    obtain ⟨κ', rfl, hk'⟩ := y.pre
    refine ⟨κ ++ κ', by simp, fun p hp => ?_⟩
    rcases List.mem_append.mp hp with hp | hp
    · exact hk p hp
    · exact ⟨Nat.le_trans x.size (hk' p hp).1, Nat.le_trans x.size (hk' p hp).2⟩
  · obtain ⟨o₁, e₁, c₁⟩ := x.cls a o e i
    obtain ⟨o₂, e₂, c₂⟩ := y.cls a o₁ e₁ ((loose_eq c₁).trans i)
    exact ⟨o₂, e₂, c₂.trans c₁⟩
  · exact y.keep a o (x.keep a o e n f c) (x.not_own n (Heap.lt_size e)) f c
  · obtain ⟨sl, e₁⟩ := x.frm a o e n f
    obtain ⟨sl', e₂⟩ := y.frm a _ e₁ (x.not_own n (Heap.lt_size e)) f
    exact ⟨sl', e₂⟩

theorem Ext.weaken {T : Tp} {F G : List Addr} {ι ι' : Inj} {h h' : Heap} (x : Ext T F ι h ι' h') (hFG : ∀ a ∈ F, a < h.objs.size → a ∈ G) : Ext T G ι h ι' h' :=
  ⟨x.pre, x.size, x.cls, x.frz, fun a o e n f c => x.keep a o e n (fun q => f (hFG a q (Heap.lt_size e))) c, fun a o e n f => x.frm a o e n (fun q => f (hFG a q (Heap.lt_size e)))⟩

/-- a new object at the heap's end -/
theorem Ext.push (T : Tp) (F : List Addr) (ι : Inj) (h : Heap) (o : Obj) : Ext T F ι h ι (h.push o) :=
  ⟨⟨[], by simp, by simp⟩, by rw [Heap.size_push]; omega, fun _ o e _ => ⟨o, Heap.get?_push_of_some _ e, rfl⟩, fun _ _ e _ => Heap.get?_push_of_some _ e, fun _ _ e _ _ _ => Heap.get?_push_of_some _ e,
    fun _ o e _ _ => ⟨o.slots, Heap.get?_push_of_some _ e⟩⟩

/-- all that stood stands -/
theorem Ext.of_keeps {T : Tp} {F : List Addr} {ι : Inj} {h h' : Heap} (hs : h.objs.size ≤ h'.objs.size) (k : ∀ b o, h.get? b = some o → h'.get? b = some o) : Ext T F ι h ι h' :=
  ⟨⟨[], by simp, by simp⟩, hs, fun _ o e _ => ⟨o, k _ _ e, rfl⟩, fun _ _ e _ => k _ _ e, fun _ _ e _ _ _ => k _ _ e, fun _ o e _ _ => ⟨o.slots, k _ _ e⟩⟩

/-- one object of the mini heap, or of F, has turned -/
theorem Ext.of_sameBut {T : Tp} {F : List Addr} {ι : Inj} {h h' : Heap} {a : Addr} {o o' : Obj} (hs : Heap.SameBut a h h') (ho : h.get? a = some o) (ho' : h'.get? a = some o') (hc : o'.cls = o.cls)
    (hf : frozen o = false) (hin : a ∈ own ι ∨ a ∈ F) : Ext T F ι h ι h' := by
  refine ⟨⟨[], by simp, by simp⟩, Nat.le_of_eq hs.1.symm, fun b x e _ => ?_, fun b x e f => ?_, fun b x e n f _ => ?_, fun b x e n f => ⟨x.slots, ?_⟩⟩
  · by_cases q : b = a
    · subst q; rw [ho] at e; cases e; exact ⟨o', ho', hc⟩
    · exact ⟨x, (hs.2 b q).trans e, rfl⟩
  · by_cases q : b = a
    · subst q; rw [ho] at e; cases e; rw [hf] at f; cases f
    · exact (hs.2 b q).trans e
  · by_cases q : b = a
    · subst q; rcases hin with q | q
      · exact absurd q n
      · exact absurd q f
    · exact (hs.2 b q).trans e
  · by_cases q : b = a
    · subst q; rcases hin with q | q
      · exact absurd q n
      · exact absurd q f
    · exact (hs.2 b q).trans e

end Mine

namespace Mine
open PySem PySem.Calls PyProof.Rows

/-- a namespace with its class told -/
noncomputable def NsC (h : Heap) (a : Addr) (c : String) (m : Str → Option Value) : Prop :=
  ∃ o es ep, h.get? a = some o ∧ o.cls = .type c ∧ o.dict = none ∧ o.data = .dict es ep ∧ StrKeys es ∧ UniqKeys es ∧ ∀ name, nsFind es name = m name

theorem NsC.ns {h : Heap} {a : Addr} {c : String} {m} (x : NsC h a c m) : h.Ns a m := by obtain ⟨o, es, ep, e, _, _, d, k, _, f⟩ := x; exact ⟨o, es, ep, e, d, k, f⟩
theorem NsC.lt {h : Heap} {a : Addr} {c : String} {m} (x : NsC h a c m) : a < h.objs.size := x.ns.lt
theorem NsC.of_slots {h h' : Heap} {a : Addr} {c : String} {m} (x : NsC h a c m) (k : ∀ o, h.get? a = some o → ∃ sl, h'.get? a = some { o with slots := sl }) : NsC h' a c m := by
  obtain ⟨o, es, ep, e, r⟩ := x
  obtain ⟨sl, e'⟩ := k o e
  exact ⟨_, es, ep, e', r⟩
theorem NsC.sameBut {h h' : Heap} {a b : Addr} {c : String} {m} (x : NsC h a c m) (hs : Heap.SameBut b h h') (hab : a ≠ b) : NsC h' a c m :=
  by obtain ⟨o, es, ep, e, r⟩ := x; exact ⟨o, es, ep, (hs.2 a hab).trans e, r⟩

/-- a dict of at most n entries -/
noncomputable def DSz (h : Heap) (a : Addr) (n : Nat) : Prop := ∀ o es ep, h.get? a = some o → o.data = .dict es ep → es.size ≤ n

section
variable {M : Model} {A : Around} {E : Value → Shared → Prop} {s : Shared}

theorem nsSetC {a : Addr} {c : String} {m} {name : Str} {v : Value} {Q : Unit → Shared → Prop} (hn : NsC s.heap a c m)
    (hQ : ∀ h', NsC h' a c (fun x => if x = name then some v else m x) → Heap.SameBut a s.heap h' → (∀ n, DSz s.heap a n → DSz h' a (if (m name).isSome then n else n + 1)) → Q () { s with heap := h', toks := s.toks + 1 }) :
    wpAny M A (nsSet a name v) Q E s := by
  intro Γ p _
  obtain ⟨o, es, ep, ho, hc, hdi, hd, hk, hu, hm⟩ := hn
  simp only [nsSet, strHash, Sem.wp_bind', Sem.wp_cmd_ask, Sem.wp_pure', Sem.wp_cmd_mkText]
  rw [Sem.wp_loadPart_of M Γ _ p { s with toks := s.toks + 1 } (o := o) _ ho]
  have hany : es.any (·.refKey) = false := by
    rw [Array.any_eq_false']; intro e he; obtain ⟨n, t, h⟩ := hk e he; simp [DictEntry.refKey, h]
  simp only [hd, aRefKeyMayBeTheName_eq, aRefKeyMayBeTheNameByArray, hany, Bool.and_false, Bool.false_eq_true, if_false, Sem.wp_cmd_updatePart]
  refine ⟨by rw [ho]; rfl, hQ _ ?_ (Heap.SameBut.update ..) fun n hz o' es' ep' ho' hd' => ?_⟩
  rotate_left
  · have h0 := hz _ _ _ ho hd
    have hf : nsFind es name = (es.find? (·.key.isStr name)).map (·.val) := rfl
    have hm' := hm name
    obtain ⟨c', d, dt, sl⟩ := o
    subst hd
    cases hi : es.findIdx? (·.key.isStr name) with
    | some i =>
      rw [Heap.get?_update_self _ ho (by simp only [Obj.putName_eq, Obj.putNameByArray, hi]; rfl)] at ho'
      cases ho'
      simp only [Obj.putName_eq, Obj.putNameByArray, hi, Data.dict.injEq] at hd'
      have : es'.size = es.size := by rw [← hd'.1]; simp
      have : n ≤ (if (m name).isSome then n else n + 1) := by split <;> (clear hQ hany h0 hi hd' this; omega)
      (clear hd' hi hany hQ; omega)
    | none =>
      rw [Heap.get?_update_self _ ho (by simp only [Obj.putName_eq, Obj.putNameByArray, hi]; rfl)] at ho'
      cases ho'
      simp only [Obj.putName_eq, Obj.putNameByArray, hi, Data.dict.injEq] at hd'
      have h1 : es'.size = es.size + 1 := by rw [← hd'.1]; simp
      have : m name = none := by
        rw [← hm', hf]
        rw [Array.findIdx?_eq_none_iff] at hi
        rw [Array.find?_eq_none.mpr (fun x hx => by simpa using hi x hx)]; rfl
      rw [this]; simp; (clear hd' hi hany hQ; omega)
  obtain ⟨c', d, dt, sl⟩ := o
  subst hd
  cases hi : es.findIdx? (·.key.isStr name) with
  | some i =>
    refine ⟨_, _, ep, Heap.get?_update_self _ ho (by simp only [Obj.putName_eq, Obj.putNameByArray, hi]; rfl), by simp only [Obj.putName_eq, Obj.putNameByArray, hi]; exact hc, by simp only [Obj.putName_eq, Obj.putNameByArray, hi]; exact hdi, by simp only [Obj.putName_eq, Obj.putNameByArray, hi]; rfl, hk.modify _ _, hu.modify _ _, fun x => ?_⟩
    show _ = if x = name then some v else m x
    rw [← hm]; exact findBy_modify (fun n v => v.isStr n) Value.isStr_inj es name x v i hi
  | none =>
    refine ⟨_, _, ep + 1, Heap.get?_update_self _ ho (by simp only [Obj.putName_eq, Obj.putNameByArray, hi]; rfl), by simp only [Obj.putName_eq, Obj.putNameByArray, hi]; exact hc, by simp only [Obj.putName_eq, Obj.putNameByArray, hi]; exact hdi, by simp only [Obj.putName_eq, Obj.putNameByArray, hi]; rfl, hk.push _ _ _ _, hu.push _ _ _ _ hi, fun x => ?_⟩
    show _ = if x = name then some v else m x
    rw [← hm]
    exact findBy_push (fun n v => v.isStr n) es name x _ _ v (fun y => by
      show (name == y) = decide (y = name)
      by_cases h : y = name
      · subst h; simp
      · have : ¬ name = y := fun e => h e.symm
        simp [h, this]) hi
end

/-- a list of the program's own -/
noncomputable def ListAt (h : Heap) (a : Addr) (items : List Value) : Prop := ∃ n, h.get? a = some ⟨.type "list", none, .seq items.toArray n, #[]⟩

noncomputable def KVRel (T : Tp) (ι : Inj) (h : Heap) : List (Str × V) → List (Str × Value) → Prop
  | [], [] => True
  | (k, v) :: r, (k', x) :: q => k = k' ∧ VRel T ι h v x ∧ KVRel T ι h r q
  | _, _ => False

noncomputable def ORel (T : Tp) (ι : Inj) (h : Heap) : MObj → Addr × Addr → Prop
  | .list vs, p => p.1 = p.2 ∧ ∃ items, ListAt h p.1 items ∧ VRels T ι h vs items
  | .sdict kvs, p => p.1 = p.2 ∧ ∃ rvs, h.DictOf (strKind T.prog T.w) p.1 rvs ∧ KVRel T ι h kvs rvs
  | .tdict _, _ => False
  | .inst c fs, p => ∃ C m sl, T.c c = some C ∧ h.get? p.1 = some ⟨.ref C, some p.2, .plain, sl⟩ ∧ NsC h p.2 "dict" m ∧ (∀ x, ORelV T ι h (fs.lookup x) (m x)) ∧ DSz h p.2 fs.length

structure Rep (T : Tp) (ι : Inj) (σ : Hp) (h : Heap) : Prop where
  len : ι.length = σ.length
  big : 10 ≤ T.b0.objs.size
  size : T.b0.objs.size ≤ h.objs.size
  base : ∀ a o, T.b0.get? a = some o → h.get? a = some o
  objs : ∀ (l : Nat) (o : MObj) (p : Addr × Addr), σ[l]? = some o → ι[l]? = some p → ORel T ι h o p
  fresh : ∀ p ∈ ι, T.b0.objs.size ≤ p.1 ∧ T.b0.objs.size ≤ p.2
  apart : ∀ (i j : Nat) (p q : Addr × Addr), ι[i]? = some p → ι[j]? = some q → i ≠ j → p.1 ≠ q.1 ∧ p.1 ≠ q.2 ∧ p.2 ≠ q.1 ∧ p.2 ≠ q.2

theorem KVRel.mono {T : Tp} {ι ι' : Inj} {h h' : Heap} (m : Mono ι h ι' h') : ∀ {kvs : List (Str × V)} {rvs : List (Str × Value)}, KVRel T ι h kvs rvs → KVRel T ι' h' kvs rvs
  | [], [], _ => trivial
  | _ :: _, _ :: _, e => ⟨e.1, VRel.mono m e.2.1, KVRel.mono m e.2.2⟩

theorem ORel.lt {T : Tp} {ι : Inj} {h : Heap} {o : MObj} {p : Addr × Addr} (e : ORel T ι h o p) : p.1 < h.objs.size ∧ p.2 < h.objs.size := by
  cases o
  · obtain ⟨e, _, ⟨_, x⟩, _⟩ := e; exact ⟨Heap.lt_size x, e ▸ Heap.lt_size x⟩
  · obtain ⟨e, _, ⟨_, _, _, x, _⟩, _⟩ := e; exact ⟨Heap.lt_size x, e ▸ Heap.lt_size x⟩
  · exact False.elim e
  · obtain ⟨_, _, _, _, x, y, _⟩ := e; exact ⟨Heap.lt_size x, y.lt⟩

theorem Rep.lt {T : Tp} {ι : Inj} {σ : Hp} {h : Heap} (r : Rep T ι σ h) {p : Addr × Addr} (hp : p ∈ ι) : p.1 < h.objs.size ∧ p.2 < h.objs.size := by
  obtain ⟨l, hl, rfl⟩ := List.getElem_of_mem hp
  have hl' : l < σ.length := by rw [← r.len]; exact hl
  exact (r.objs l σ[l] ι[l] (List.getElem?_eq_getElem hl') (List.getElem?_eq_getElem hl)).lt
theorem Rep.own_lt {T : Tp} {ι : Inj} {σ : Hp} {h : Heap} (r : Rep T ι σ h) {a : Addr} (ha : a ∈ own ι) : a < h.objs.size := by
  obtain ⟨p, hp, e⟩ := mem_own.mp ha
  rcases e with rfl | rfl
  · exact (r.lt hp).1
  · exact (r.lt hp).2

/-- an object of the mini heap stands in a later heap that keeps its own one or two objects -/
theorem ORel.keeps {T : Tp} {ι ι' : Inj} {h h' : Heap} (m : Mono ι h ι' h') {o : MObj} {p : Addr × Addr} (k : ∀ x, h.get? p.1 = some x → h'.get? p.1 = some x) (k' : ∀ x, h.get? p.2 = some x → h'.get? p.2 = some x) (e : ORel T ι h o p) : ORel T ι' h' o p := by
  cases o
  · obtain ⟨e, items, ⟨n, x⟩, r⟩ := e; exact ⟨e, items, ⟨n, k _ x⟩, r.mono m⟩
  · obtain ⟨e, rvs, ⟨o, es, ep, x, r⟩, q⟩ := e; exact ⟨e, rvs, ⟨o, es, ep, k _ x, r⟩, q.mono m⟩
  · exact False.elim e
  · obtain ⟨C, mm, sl, c, x, y, r, dz⟩ := e
    obtain ⟨o', es', ep', e', z'⟩ := y
    have e2 := k' _ e'
    refine ⟨C, mm, sl, c, k _ x, ⟨o', es', ep', e2, z'⟩, fun z => (r z).mono m, fun o es ep e hd => ?_⟩
    rw [e2] at e; cases e
    exact dz _ _ _ e' hd

/-- the mini heap stands in a later heap that keeps all its objects -/
theorem Rep.keeps {T : Tp} {ι : Inj} {σ : Hp} {h h' : Heap} (r : Rep T ι σ h) (m : Mono ι h ι h') (hs : h.objs.size ≤ h'.objs.size) (hb : ∀ a o, T.b0.get? a = some o → h'.get? a = some o) (k : ∀ a ∈ own ι, ∀ o, h.get? a = some o → h'.get? a = some o) : Rep T ι σ h' where
  len := r.len
  big := r.big
  size := Nat.le_trans r.size hs
  base := hb
  objs := fun l o p e q => (r.objs l o p e q).keeps m (k _ (mem_own.mpr ⟨p, List.mem_of_getElem? q, .inl rfl⟩)) (k _ (mem_own.mpr ⟨p, List.mem_of_getElem? q, .inr rfl⟩))
  fresh := r.fresh
  apart := r.apart
theorem Rep.grow {T : Tp} {ι : Inj} {σ : Hp} {h h' : Heap} (r : Rep T ι σ h) (hs : h.objs.size ≤ h'.objs.size) (k : ∀ a o, h.get? a = some o → h'.get? a = some o) : Rep T ι σ h' :=
  r.keeps ⟨⟨[], by simp⟩, fun _ o e _ => ⟨o, k _ _ e, rfl⟩, fun _ _ e _ => k _ _ e⟩ hs (fun a o e => k _ _ (r.base a o e)) fun a _ o e => k a o e
theorem Rep.push {T : Tp} {ι : Inj} {σ : Hp} {h : Heap} (r : Rep T ι σ h) (o : Obj) : Rep T ι σ (h.push o) :=
  r.grow (by rw [Heap.size_push]; omega) fun _ _ e => Heap.get?_push_of_some _ e

/-- one object more -/
theorem Rep.more {T : Tp} {ι : Inj} {σ : Hp} {h : Heap} (r : Rep T ι σ h) {o : MObj} {p : Addr × Addr} (ho : ORel T (ι ++ [p]) h o p) (h1 : T.b0.objs.size ≤ p.1) (h2 : T.b0.objs.size ≤ p.2) (n1 : p.1 ∉ own ι) (n2 : p.2 ∉ own ι) :
    Rep T (ι ++ [p]) (σ ++ [o]) h where
  len := by simp [r.len]
  big := r.big
  size := r.size
  base := r.base
  objs := fun l x q e e' => by
    have m : Mono ι h (ι ++ [p]) h := ⟨⟨[p], rfl⟩, fun _ o e _ => ⟨o, e, rfl⟩, fun _ _ e _ => e⟩
    rcases Nat.lt_or_ge l σ.length with hl | hl
    · rw [List.getElem?_append_left hl] at e
      rw [List.getElem?_append_left (by rw [r.len]; exact hl)] at e'
      exact (r.objs l x q e e').keeps m (fun _ z => z) fun _ z => z
    · rw [List.getElem?_append_right hl] at e
      rw [List.getElem?_append_right (by rw [r.len]; exact hl), r.len] at e'
      rcases Nat.eq_zero_or_pos (l - σ.length) with z | z
      · rw [z] at e e'
        simp only [List.getElem?_cons_zero, Option.some.injEq] at e e'
        subst e e'; exact ho
      · rw [List.getElem?_eq_none (by simp; (clear hl e' h1 h2 e; omega))] at e; cases e
  fresh := fun q hq => by
    rcases List.mem_append.mp hq with hq | hq
    · exact r.fresh q hq
    · cases List.mem_singleton.mp hq; exact ⟨h1, h2⟩
  apart := fun i j q q' e e' hij => by
    have key : ∀ (k : Nat) (x : Addr × Addr), (ι ++ [p])[k]? = some x → (k < ι.length ∧ ι[k]? = some x) ∨ (k = ι.length ∧ x = p) := fun k x e => by
      rcases Nat.lt_or_ge k ι.length with hl | hl
      · rw [List.getElem?_append_left hl] at e; exact .inl ⟨hl, e⟩
      · rw [List.getElem?_append_right hl] at e
        rcases Nat.eq_zero_or_pos (k - ι.length) with z | z
        · rw [z] at e; simp only [List.getElem?_cons_zero, Option.some.injEq] at e; exact .inr ⟨by (clear hij h1 h2 e'; omega), e.symm⟩
        · rw [List.getElem?_eq_none (by simp; (clear hl hij e h1 h2 e'; omega))] at e; cases e
    have no : ∀ x : Addr × Addr, x ∈ ι → p.1 ≠ x.1 ∧ p.1 ≠ x.2 ∧ p.2 ≠ x.1 ∧ p.2 ≠ x.2 := fun x hx =>
      ⟨fun z => n1 (mem_own.mpr ⟨x, hx, .inl z⟩), fun z => n1 (mem_own.mpr ⟨x, hx, .inr z⟩), fun z => n2 (mem_own.mpr ⟨x, hx, .inl z⟩), fun z => n2 (mem_own.mpr ⟨x, hx, .inr z⟩)⟩
    rcases key i q e with ⟨hi, ei⟩ | ⟨hi, rfl⟩ <;> rcases key j q' e' with ⟨hj, ej⟩ | ⟨hj, rfl⟩
    · exact r.apart i j q q' ei ej hij
    · obtain ⟨a, b, c, d⟩ := no q (List.mem_of_getElem? ei)
      exact ⟨a.symm, c.symm, b.symm, d.symm⟩
    · exact no q' (List.mem_of_getElem? ej)
    · (clear h2 e e' key h1; omega)

/-- one object turned -/
theorem Rep.turn {T : Tp} {ι : Inj} {σ : Hp} {h h' : Heap} (r : Rep T ι σ h) {l : Nat} {p : Addr × Addr} {o : MObj} {a : Addr} (hp : ι[l]? = some p) (m : Mono ι h ι h') (hs : Heap.SameBut a h h') (ha : a = p.1 ∨ a = p.2)
    (ho : ORel T ι h' o p) : Rep T ι (σ.set l o) h' where
  len := by simp [r.len]
  big := r.big
  size := Nat.le_trans r.size (Nat.le_of_eq hs.1.symm)
  base := fun b x e => by
    have hne : b ≠ a := fun q => by
      have h1 := Heap.lt_size e
      have h2 := r.fresh p (List.mem_of_getElem? hp)
      rw [q] at h1
      rcases ha with ha | ha <;> rw [ha] at h1
      · exact absurd h2.1 (Nat.not_le.mpr h1)
      · exact absurd h2.2 (Nat.not_le.mpr h1)
    exact (hs.2 b hne).trans (r.base b x e)
  objs := fun k x q e e' => by
    by_cases hk : k = l
    · subst hk
      rw [hp] at e'; cases e'
      rw [List.getElem?_set_self (by rw [← r.len]; exact (List.getElem?_eq_some_iff.mp hp).1)] at e
      cases e; exact ho
    · rw [List.getElem?_set_ne (fun z => hk z.symm)] at e
      have := r.apart k l q p e' hp hk
      have keep : ∀ b, b = q.1 ∨ b = q.2 → ∀ z, h.get? b = some z → h'.get? b = some z := fun b hb z hz => (hs.2 b (fun y => by
        rcases ha with rfl | rfl <;> rcases hb with rfl | rfl <;> simp_all)).trans hz
      exact (r.objs k x q e e').keeps m (keep _ (.inl rfl)) (keep _ (.inr rfl))
  fresh := r.fresh
  apart := r.apart

end Mine

namespace Mine
open PySem PySem.Calls PyProof.Rows

noncomputable abbrev Loc := Str → Option V
noncomputable def upd (ρ : Loc) (x : Str) (v : Option V) : Loc := fun y => if y = x then v else ρ y

/-- what is being handled: an own exception without a context -/
noncomputable def HandAt (A : Around) (ι : Inj) (h : Heap) : Prop := ∀ v, A.handled = some v → ∃ ea o C vs, v = .ref ea ∧ h.get? ea = some o ∧ o.cls = .ref C ∧ o.data = .fields vs ∧ vs[2]? = some .none ∧ ea ∉ own ι
theorem HandAt.none {A : Around} {ι : Inj} {h : Heap} (e : A.handled = .none) : HandAt A ι h := fun v q => by rw [e] at q; cases q
theorem HandAt.keep {A : Around} {ι ι' : Inj} {h h' : Heap} (x : HandAt A ι h) (k : ∀ a o C, h.get? a = some o → o.cls = .ref C → a ∉ own ι → h'.get? a = some o ∧ a ∉ own ι') : HandAt A ι' h' := fun v q => by
  obtain ⟨ea, o, C, vs, e1, e2, e3, e4, e5, e6⟩ := x v q
  obtain ⟨k1, k2⟩ := k ea o C e2 e3 e6
  exact ⟨ea, o, C, vs, e1, k1, e3, e4, e5, k2⟩
theorem HandAt.ext {T : Tp} {F : List Addr} {A : Around} {ι ι' : Inj} {h h' : Heap} (x : HandAt A ι h) (e : Ext T F ι h ι' h') (hF : ∀ a ∈ F, ∃ o, h.get? a = some o ∧ itr o = false) : HandAt A ι' h' :=
  x.keep fun a o C e1 e2 e3 => ⟨e.keep a o e1 e3 (fun q => by
    obtain ⟨o', g, gi⟩ := hF a q
    rw [e1] at g; cases g
    exact itr_ref gi e2) (by rw [e2]; simp), e.not_own e3 (Heap.lt_size e1)⟩
/-- the frames below, the room, and what is being handled -/
structure AOk (T : Tp) (A : Around) (fs : List Env) (d : Nat) (ι : Inj) (h : Heap) : Prop where
  frames : A.frames = some fs
  funs : ∀ e ∈ fs, e.scope.kind = .function ∧ ∃ L o es ep, e.frame = some L ∧ L ∉ own ι ∧ T.b0.objs.size ≤ L ∧ h.get? L = some o ∧ o.cls = .type "frame" ∧ o.data = .dict es ep
  depth : A.depth + d ≤ recursionLimit
  units : A.units + 10 * d + 50 ≤ cLine
  hd : T.hd = false → A.handled = none
  hx : HandAt A ι h

/-- the class of a frame's names: a comprehension's are a dict -/
noncomputable def nsCls (env : Env) (c : String) : Prop := (c = "frame" ∨ c = "dict") ∧ (env.frame ≠ some env.locals → c = "dict")
/-- the names of the frame at hand -/
structure Frm (T : Tp) (env : Env) (F : List Addr) (ρ : Loc) (ι : Inj) (h : Heap) : Prop where
  kind : env.scope.kind = .function
  glb : env.globals = mainGlobals
  blt : env.builtins = builtinsNs
  ns : ∃ c m, nsCls env c ∧ NsC h env.locals c m ∧ ∀ x, env.kindOf x = some .local → ORelV T ι h (ρ x) (m x)
  cells : ∀ x, env.kindOf x = some .cell ∨ env.kindOf x = some .free → ∃ c o v, env.cells.lookup x = some c ∧ h.get? c = some o ∧ o.cls = .type "cell" ∧ o.data = .cell v ∧ ORelV T ι h (ρ x) v ∧ c ∉ own ι
  inj : ∀ x y c, (env.kindOf x = some .cell ∨ env.kindOf x = some .free) → (env.kindOf y = some .cell ∨ env.kindOf y = some .free) → env.cells.lookup x = some c → env.cells.lookup y = some c → x = y
  loc : env.locals ∈ F
  cin : ∀ x c, env.kindOf x = some .cell → env.cells.lookup x = some c → c ∈ F
  apart : ∀ a ∈ F, a ∉ own ι ∧ T.b0.objs.size ≤ a
  there : ∀ a ∈ F, ∃ o, h.get? a = some o ∧ frozen o = false ∧ itr o = false

structure Inv (T : Tp) (A : Around) (fs : List Env) (d : Nat) (env : Env) (F : List Addr) (ρ : Loc) (ι : Inj) (σ : Hp) (s : Shared) : Prop where
  rep : Rep T ι σ s.heap
  aok : AOk T A fs d ι s.heap
  frm : Frm T env F ρ ι s.heap
  top : ∃ e r L, fs = e :: r ∧ e.frame = some L ∧ env.frame = some L
  gens : s.gens = #[]
  os : s.os = T.os

theorem AOk.ext {T : Tp} {A : Around} {fs : List Env} {d : Nat} {ι ι' : Inj} {h h' : Heap} {F : List Addr} (x : AOk T A fs d ι h) (e : Ext T F ι h ι' h')
    (hF : ∀ en ∈ fs, ∀ L, en.frame = some L → L ∈ F → ∃ o es ep, h'.get? L = some o ∧ o.data = .dict es ep) (hG : ∀ a ∈ F, ∃ o, h.get? a = some o ∧ itr o = false) : AOk T A fs d ι' h' where
  frames := x.frames
  funs := fun en hen => by
    obtain ⟨k, L, o, es, ep, f, n, b, g, c, dd⟩ := x.funs en hen
    refine ⟨k, L, ?_⟩
    by_cases q : L ∈ F
    · obtain ⟨o', es', ep', g', d'⟩ := hF en hen L f q
      obtain ⟨o₂, g₂, c₂⟩ := e.cls L o g (by simp [loose, c])
      rw [g'] at g₂; cases g₂
      exact ⟨o', es', ep', f, e.not_own n (Heap.lt_size g), b, g', c₂.trans c, d'⟩
    · obtain ⟨sl, g'⟩ := e.frm L o g n q
      exact ⟨_, es, ep, f, e.not_own n (Heap.lt_size g), b, g', c, dd⟩
  depth := x.depth
  units := x.units
  hd := x.hd
  hx := x.hx.ext e hG

theorem Frm.ext {T : Tp} {env : Env} {F : List Addr} {ρ : Loc} {ι ι' : Inj} {h h' : Heap} (x : Frm T env F ρ ι h) (e : Ext T [] ι h ι' h') : Frm T env F ρ ι' h' where
  kind := x.kind
  glb := x.glb
  blt := x.blt
  ns := by
    obtain ⟨c, m, hc, hn, r⟩ := x.ns
    exact ⟨c, m, hc, hn.of_slots fun o ho => e.frm _ o ho (x.apart _ x.loc).1 (by simp), fun y hy => (r y hy).mono e.mono⟩
  cells := fun y hy => by
    obtain ⟨c, o, v, e1, e2, e3, e4, e5, e6⟩ := x.cells y hy
    exact ⟨c, o, v, e1, e.keep c o e2 e6 (by simp) (by rw [e3]; simp), e3, e4, e5.mono e.mono, e.not_own e6 (Heap.lt_size e2)⟩
  inj := x.inj
  loc := x.loc
  cin := x.cin
  apart := fun a ha => by
    obtain ⟨o, ho, _, _⟩ := x.there a ha
    exact ⟨e.not_own (x.apart a ha).1 (Heap.lt_size ho), (x.apart a ha).2⟩
  there := fun a ha => by
    obtain ⟨o, ho, hf, hi⟩ := x.there a ha
    obtain ⟨sl, ho'⟩ := e.frm a o ho (x.apart a ha).1 (by simp)
    exact ⟨_, ho', by simpa [frozen] using hf, by simpa [itr, iterish] using hi⟩

theorem Inv.ext {T : Tp} {A : Around} {fs : List Env} {d : Nat} {env : Env} {F : List Addr} {ρ : Loc} {ι ι' : Inj} {σ σ' : Hp} {s s' : Shared} (x : Inv T A fs d env F ρ ι σ s) (e : Ext T [] ι s.heap ι' s'.heap) (r : Rep T ι' σ' s'.heap)
    (hg : s'.gens = #[]) (ho : s'.os = T.os) : Inv T A fs d env F ρ ι' σ' s' :=
  ⟨r, x.aok.ext e (fun _ _ _ _ q => by simp at q) (fun _ q => by simp at q), x.frm.ext e, x.top, hg, ho⟩

noncomputable abbrev QE := V → Hp → Prop
noncomputable abbrev QX := Str → Hp → Prop

/-- a traceback that was made behind lo -/
inductive TbAt (lo : Nat) (ea : Addr) (h : Heap) (v : Value) : Prop where
  | mk (tb : Addr) (ot : Obj) (ts : Array Value) (h0 : v = .ref tb) (h1 : lo ≤ tb) (h2 : tb ≠ ea) (h3 : h.get? tb = some ot) (h4 : ot.cls = .type "traceback") (h5 : ot.data = .fields ts) (h6 : 3 < ts.size) : TbAt lo ea h v
/-- the exception e of the own class c is under way; it was made behind lo -/
inductive Fly (T : Tp) (lo : Nat) (ea : Addr) (c : Str) (h : Heap) : Prop where
  | mk (C : Addr) (oe : Obj) (vs : Array Value) (v : Value) (h0 : T.hd = false ∧ T.c c = some C) (h1 : lo ≤ ea) (h2 : h.get? ea = some oe) (h3 : oe.cls = .ref C) (h4 : oe.data = .fields vs) (h5 : 5 < vs.size) (h6 : vs[2]? = some .none) (h7 : vs[1]? = some v) (h8 : (v = .none ∨ TbAt lo ea h v)) : Fly T lo ea c h
/-- and it has its traceback -/
inductive FlyT (T : Tp) (lo : Nat) (ea : Addr) (c : Str) (h : Heap) : Prop where
  | mk (C : Addr) (oe : Obj) (vs : Array Value) (v : Value) (h0 : T.hd = false ∧ T.c c = some C) (h1 : lo ≤ ea) (h2 : h.get? ea = some oe) (h3 : oe.cls = .ref C) (h4 : oe.data = .fields vs) (h5 : 5 < vs.size) (h6 : vs[2]? = some .none) (h7 : vs[1]? = some v) (h8 : TbAt lo ea h v) : FlyT T lo ea c h
theorem FlyT.fly {T : Tp} {lo : Nat} {ea : Addr} {c : Str} {h : Heap} (x : FlyT T lo ea c h) : Fly T lo ea c h :=
  by obtain ⟨C, oe, vs, v, a, b, d, e, f, g, i, j, k⟩ := x; exact ⟨C, oe, vs, v, a, b, d, e, f, g, i, j, .inr k⟩

/-- behind a tree that hands on a value -/
inductive PostE (T : Tp) (F : List Addr) (Q : QE) (ι : Inj) (h : Heap) (x : Value) (s' : Shared) : Prop where
  | mk (v : V) (σ' : Hp) (ι' : Inj) (h0 : Q v σ') (h1 : VRel T ι' s'.heap v x) (h2 : Rep T ι' σ' s'.heap) (h3 : Ext T F ι h ι' s'.heap) (h4 : s'.gens = #[]) (h5 : s'.os = T.os) : PostE T F Q ι h x s'
inductive PostX (T : Tp) (F : List Addr) (X : QX) (ι : Inj) (h : Heap) (x : Value) (s' : Shared) : Prop where
  | mk (ea : Addr) (c : Str) (σ' : Hp) (ι' : Inj) (h0 : x = .ref ea) (h1 : X c σ') (h2 : Fly T h.objs.size ea c s'.heap) (h3 : ea ∉ own ι') (h4 : Rep T ι' σ' s'.heap) (h5 : Ext T F ι h ι' s'.heap) (h6 : s'.gens = #[]) (h7 : s'.os = T.os) : PostX T F X ι h x s'

theorem PostE.trans {T : Tp} {F : List Addr} {Q : QE} {ι ι₁ : Inj} {h h₁ : Heap} {x : Value} {s' : Shared} (e : Ext T F ι h ι₁ h₁) (p : PostE T F Q ι₁ h₁ x s') : PostE T F Q ι h x s' :=
  by obtain ⟨v, σ', ι', q, r, rp, e', g, o⟩ := p; exact ⟨v, σ', ι', q, r, rp, e.trans e', g, o⟩
theorem TbAt.lo {lo lo' : Nat} {ea : Addr} {h : Heap} {v : Value} (x : TbAt lo ea h v) (hl : lo' ≤ lo) : TbAt lo' ea h v :=
  by obtain ⟨tb, ot, ts, a, b, r1, r2, r3, r4, r5⟩ := x; exact ⟨tb, ot, ts, a, Nat.le_trans hl b, r1, r2, r3, r4, r5⟩
theorem Fly.lo {T : Tp} {lo lo' : Nat} {ea : Addr} {c : Str} {h : Heap} (x : Fly T lo ea c h) (hl : lo' ≤ lo) : Fly T lo' ea c h := by
  obtain ⟨C, oe, vs, v, a, b, d, e, f, g, i, j, k⟩ := x
  exact ⟨C, oe, vs, v, a, Nat.le_trans hl b, d, e, f, g, i, j, k.imp id (·.lo hl)⟩
theorem PostX.trans {T : Tp} {F : List Addr} {X : QX} {ι ι₁ : Inj} {h h₁ : Heap} {x : Value} {s' : Shared} (e : Ext T F ι h ι₁ h₁) (p : PostX T F X ι₁ h₁ x s') : PostX T F X ι h x s' :=
  by obtain ⟨ea, c, σ', ι', a, b, f, n, rp, e', g, o⟩ := p; exact ⟨ea, c, σ', ι', a, b, f.lo e.size, n, rp, e.trans e', g, o⟩
theorem PostE.mono {T : Tp} {F : List Addr} {Q Q' : QE} {ι : Inj} {h : Heap} {x : Value} {s' : Shared} (p : PostE T F Q ι h x s') (k : ∀ v σ, Q v σ → Q' v σ) : PostE T F Q' ι h x s' :=
  by obtain ⟨v, σ', ι', q, r, rp, e', g, o⟩ := p; exact ⟨v, σ', ι', k _ _ q, r, rp, e', g, o⟩
theorem PostX.mono {T : Tp} {F : List Addr} {X X' : QX} {ι : Inj} {h : Heap} {x : Value} {s' : Shared} (p : PostX T F X ι h x s') (k : ∀ c σ, X c σ → X' c σ) : PostX T F X' ι h x s' :=
  by obtain ⟨ea, c, σ', ι', a, b, f, n, rp, e', g, o⟩ := p; exact ⟨ea, c, σ', ι', a, k _ _ b, f, n, rp, e', g, o⟩

/-- the mini heap and the frames below, at a state -/
structure St (T : Tp) (A : Around) (fs : List Env) (d : Nat) (ι : Inj) (σ : Hp) (s : Shared) : Prop where
  rep : Rep T ι σ s.heap
  aok : AOk T A fs d ι s.heap
  gens : s.gens = #[]
  os : s.os = T.os
theorem Inv.st {T : Tp} {A : Around} {fs : List Env} {d : Nat} {env : Env} {F : List Addr} {ρ : Loc} {ι : Inj} {σ : Hp} {s : Shared} (x : Inv T A fs d env F ρ ι σ s) : St T A fs d ι σ s := ⟨x.rep, x.aok, x.gens, x.os⟩
theorem St.ext {T : Tp} {A : Around} {fs : List Env} {d : Nat} {ι ι' : Inj} {σ σ' : Hp} {s s' : Shared} (x : St T A fs d ι σ s) (e : Ext T [] ι s.heap ι' s'.heap) (r : Rep T ι' σ' s'.heap) (hg : s'.gens = #[]) (ho : s'.os = T.os) : St T A fs d ι' σ' s' :=
  ⟨r, x.aok.ext e (fun _ _ _ _ q => by simp at q) (fun _ q => by simp at q), hg, ho⟩

section
variable {T : Tp} {A : Around} {fs : List Env} {d : Nat} {ι : Inj} {σ : Hp} {s : Shared} {F : List Addr}

/-- a value that needs no heap of its own, the heap as it was -/
theorem St.post {Q : QE} {v : V} {x : Value} (S : St T A fs d ι σ s) (q : Q v σ) (r : VRel T ι s.heap v x) (t : Nat) : PostE T F Q ι s.heap x { s with toks := t } :=
  ⟨v, σ, ι, q, r, S.rep, .refl .., S.gens, S.os⟩
theorem St.post0 {Q : QE} {v : V} {x : Value} (S : St T A fs d ι σ s) (q : Q v σ) (r : VRel T ι s.heap v x) : PostE T F Q ι s.heap x s :=
  ⟨v, σ, ι, q, r, S.rep, .refl .., S.gens, S.os⟩
/-- the heap has grown by things that the mini heap does not know -/
theorem St.grown {Q : QE} {v : V} {x : Value} {h' : Heap} {t : Nat} (S : St T A fs d ι σ s) (hs : s.heap.objs.size ≤ h'.objs.size) (k : ∀ b o, s.heap.get? b = some o → h'.get? b = some o) (q : Q v σ) (r : VRel T ι h' v x) :
    PostE T F Q ι s.heap x { s with heap := h', toks := t } :=
  ⟨v, σ, ι, q, r, S.rep.grow hs k, .of_keeps hs k, S.gens, S.os⟩
end

/-- an expression, at the mini level: from σ it comes to a value and a mini heap of Q, or raises by X -/
noncomputable def EvOk (T : Tp) (d : Nat) (sc : Scope) (ρ : Loc) (X : QX) (e : Expr) (Q : QE) (σ : Hp) : Prop :=
  ∀ env A fs F ι s, env.scope = sc → Inv T A fs d env F ρ ι σ s → wpAny (model T.prog T.w) A (eval e env) (PostE T [] Q ι s.heap) (PostX T [] X ι s.heap) s

/-- behind a tree that hands on a truth -/
inductive PostB (T : Tp) (Q : Bool → Hp → Prop) (ι : Inj) (h : Heap) (b : Bool) (s' : Shared) : Prop where
  | mk (σ' : Hp) (ι' : Inj) (h0 : Q b σ') (h1 : Rep T ι' σ' s'.heap) (h2 : Ext T [] ι h ι' s'.heap) (h3 : s'.gens = #[]) (h4 : s'.os = T.os) : PostB T Q ι h b s'
theorem PostB.trans {T : Tp} {Q : Bool → Hp → Prop} {ι ι₁ : Inj} {h h₁ : Heap} {b : Bool} {s' : Shared} (e : Ext T [] ι h ι₁ h₁) (p : PostB T Q ι₁ h₁ b s') : PostB T Q ι h b s' :=
  by obtain ⟨σ', ι', q, rp, e', g, o⟩ := p; exact ⟨σ', ι', q, rp, e.trans e', g, o⟩
/-- an expression as a test -/
noncomputable def TsOk (T : Tp) (d : Nat) (sc : Scope) (ρ : Loc) (X : QX) (e : Expr) (Q : Bool → Hp → Prop) (σ : Hp) : Prop :=
  ∀ env A fs F ι s, env.scope = sc → Inv T A fs d env F ρ ι σ s → wpAny (model T.prog T.w) A (isTrue e env (eval e env)) (PostB T Q ι s.heap) (PostX T [] X ι s.heap) s

/-- several expressions, in their order -/
inductive PostL (T : Tp) (Q : List V → Hp → Prop) (ι : Inj) (h : Heap) (xs : List Value) (s' : Shared) : Prop where
  | mk (vs : List V) (σ' : Hp) (ι' : Inj) (h0 : Q vs σ') (h1 : VRels T ι' s'.heap vs xs) (h2 : Rep T ι' σ' s'.heap) (h3 : Ext T [] ι h ι' s'.heap) (h4 : s'.gens = #[]) (h5 : s'.os = T.os) : PostL T Q ι h xs s'
noncomputable def EvsOk (T : Tp) (d : Nat) (sc : Scope) (ρ : Loc) (X : QX) (es : List Expr) (Q : List V → Hp → Prop) (σ : Hp) : Prop :=
  ∀ env A fs F ι s, env.scope = sc → Inv T A fs d env F ρ ι σ s → wpAny (model T.prog T.w) A (spliced (es.map fun e => (false, eval e env))) (PostL T Q ι s.heap) (PostX T [] X ι s.heap) s


/-- a call of a value -/
noncomputable def CallOk (T : Tp) (d : Nat) (X : QX) (f : V) (args : List V) (Q : QE) (σ : Hp) : Prop :=
  ∀ A fs ι s fv xs, St T A fs d ι σ s → VRel T ι s.heap f fv → VRels T ι s.heap args xs → wpAny (model T.prog T.w) A (call fv xs) (PostE T [] Q ι s.heap) (PostX T [] X ι s.heap) s

theorem CallOk.mono {T : Tp} {d : Nat} {X X' : QX} {f : V} {args : List V} {Q Q' : QE} {σ : Hp} (h : CallOk T d X f args Q σ) (k : ∀ v σ, Q v σ → Q' v σ) (kx : ∀ c σ, X c σ → X' c σ) : CallOk T d X' f args Q' σ :=
  fun A fs ι s fv xs S hf hx => wpAny_mono (h A fs ι s fv xs S hf hx) (fun _ _ p => p.mono k) fun _ _ p => p.mono kx

end Mine

namespace Mine
open PySem PySem.Calls PyProof.Rows

noncomputable def BinOk (T : Tp) (d : Nat) (X : QX) (t : Value → Value → Sem Value) (a b : V) (Q : QE) (σ : Hp) : Prop :=
  ∀ A fs ι s x y, St T A fs d ι σ s → VRel T ι s.heap a x → VRel T ι s.heap b y → wpAny (model T.prog T.w) A (t x y) (PostE T [] Q ι s.heap) (PostX T [] X ι s.heap) s

noncomputable def small64 (a : Int) : Prop := -(2 ^ 64) < a ∧ a < 2 ^ 64

section
variable {T : Tp} {A : Around} {fs : List Env} {d : Nat} {ι : Inj} {σ : Hp} {s : Shared} {F : List Addr}

theorem VRel.int_inv {i : Int} {x : Value} {h : Heap} (e : VRel T ι h (.int i) x) : ∃ t, x = .int i t := by unfold VRel at e; exact e
theorem VRel.str_inv {i : Str} {x : Value} {h : Heap} (e : VRel T ι h (.str i) x) : ∃ t, x = .str i t := by unfold VRel at e; exact e
theorem VRel.bool_inv {i : Bool} {x : Value} {h : Heap} (e : VRel T ι h (.bool i) x) : x = .bool i := by unfold VRel at e; exact e
theorem VRel.none_inv {x : Value} {h : Heap} (e : VRel T ι h .none x) : x = .none := by unfold VRel at e; exact e
theorem VRel.tup_inv {vs : List V} {x : Value} {h : Heap} (e : VRel T ι h (.tup vs) x) : ∃ a items n, x = .ref a ∧ IsT h a items n ∧ VRels T ι h vs items.toList := by unfold VRel at e; exact e
theorem VRel.ref_inv {l : Nat} {x : Value} {h : Heap} (e : VRel T ι h (.ref l) x) : ∃ a d, x = .ref a ∧ ι[l]? = some (a, d) := by unfold VRel at e; exact e
theorem VRel.int_mk {i : Int} {t : Tok} {h : Heap} : VRel T ι h (.int i) (.int i t) := by unfold VRel; exact ⟨t, rfl⟩
theorem VRel.str_mk {i : Str} {t : Tok} {h : Heap} : VRel T ι h (.str i) (.str i t) := by unfold VRel; exact ⟨t, rfl⟩
theorem VRel.bool_mk {i : Bool} {h : Heap} : VRel T ι h (.bool i) (.bool i) := by unfold VRel; rfl
theorem VRel.none_mk {h : Heap} : VRel T ι h .none .none := by unfold VRel; rfl

/-- a list of the mini heap, in the heap -/
theorem Rep.list_at {h : Heap} (r : Rep T ι σ h) {l : Nat} {vs : List V} {a : Addr} {d : Addr} (e : σ[l]? = some (.list vs)) (q : ι[l]? = some (a, d)) :
    ∃ items n, IsL h a items n ∧ VRels T ι h vs items.toList := by
  obtain ⟨_, items, ⟨n, hl⟩, hv⟩ := r.objs l _ _ e q
  exact ⟨items.toArray, n, hl, by simpa using hv⟩

/-- a new list onto the heap -/
theorem Rep.newList {h : Heap} (r : Rep T ι σ h) {vs : List V} {items : Array Value} (hv : VRels T ι h vs items.toList) :
    Rep T (ι ++ [(h.objs.size, h.objs.size)]) (σ ++ [.list vs]) (h.push { cls := .type "list", data := .seq items }) ∧ Ext T F ι h (ι ++ [(h.objs.size, h.objs.size)]) (h.push { cls := .type "list", data := .seq items }) ∧
      VRel T (ι ++ [(h.objs.size, h.objs.size)]) (h.push { cls := .type "list", data := .seq items }) (.ref σ.length) (.ref h.objs.size) := by
  have m : Mono ι h (ι ++ [(h.objs.size, h.objs.size)]) (h.push { cls := .type "list", data := .seq items }) := ⟨⟨_, rfl⟩, (Ext.push T F ι h _).cls, (Ext.push T F ι h _).frz⟩
  have no : h.objs.size ∉ own ι := fun q => absurd (r.own_lt q) (Nat.lt_irrefl _)
  refine ⟨(r.push _).more (p := (h.objs.size, h.objs.size)) ⟨rfl, items.toList, ⟨0, by simpa using IsL.new h items⟩, hv.mono m⟩ r.size r.size no no, ?_, ?_⟩
  · have e := Ext.push T F ι h { cls := .type "list", data := .seq items }
    exact ⟨⟨[(h.objs.size, h.objs.size)], rfl, by simp⟩, e.size, e.cls, e.frz, e.keep, e.frm⟩
  · unfold VRel
    exact ⟨h.objs.size, h.objs.size, rfl, by rw [← r.len]; simp⟩

theorem St.newList {Q : QE} {vs : List V} {items : Array Value} (S : St T A fs d ι σ s) (hv : VRels T ι s.heap vs items.toList) (q : Q (.ref σ.length) (σ ++ [.list vs])) {t : Nat} :
    PostE T F Q ι s.heap (.ref s.heap.objs.size) { s with heap := s.heap.push { cls := .type "list", data := .seq items }, toks := t } :=
  let ⟨a, b, c⟩ := S.rep.newList (F := F) hv
  ⟨_, _, _, q, c, a, b, S.gens, S.os⟩

/-- a new tuple onto the heap -/
theorem St.newTup {Q : QE} {vs : List V} {items : Array Value} (S : St T A fs d ι σ s) (hv : VRels T ι s.heap vs items.toList) (q : Q (.tup vs) σ) {t : Nat} :
    PostE T F Q ι s.heap (.ref s.heap.objs.size) { s with heap := s.heap.push { cls := .type "tuple", data := .seq items }, toks := t } := by
  refine ⟨_, _, _, q, ?_, S.rep.push _, .push .., S.gens, S.os⟩
  unfold VRel
  exact ⟨_, items, 0, rfl, IsT.new _ _, hv.mono (Ext.push T [] ι s.heap _).mono⟩
end

/-- the operators -/
noncomputable def addVC (a b : V) (Q : QE) (σ : Hp) : Prop := match a, b with
  | .int x, .int y => Q (.int (x + y)) σ
  | .str x, .str y => x.length + y.length ≤ sizeLine ∧ Q (.str (x ++ y)) σ
  | .ref l, .ref m => ∃ xs ys, σ[l]? = some (.list xs) ∧ σ[m]? = some (.list ys) ∧ xs.length + ys.length ≤ sizeLine ∧ Q (.ref σ.length) (σ ++ [.list (xs ++ ys)])
  | _, _ => False
noncomputable def mulVC (a b : V) (Q : QE) (σ : Hp) : Prop := match a, b with
  | .int x, .int y => (small64 x ∨ small64 y) ∧ Q (.int (x * y)) σ
  | .str x, .int n => MulOk x n ∧ Q (.str (Txt.mul x n)) σ
  | _, _ => False
noncomputable def intsVC (P : Int → Int → Prop) (a b : V) : Prop := match a with
  | .int x => (match b with | .int y => P x y | _ => False)
  | _ => False
theorem intsVC_inv {P : Int → Int → Prop} {a b : V} (h : intsVC P a b) : ∃ x y, a = .int x ∧ b = .int y ∧ P x y := by
  cases a <;> first | exact h.elim | skip
  cases b <;> first | exact h.elim | skip
  exact ⟨_, _, rfl, rfl, h⟩
noncomputable def binVC (op : Operator) (a b : V) (Q : QE) (σ : Hp) : Prop :=
  match op with
  | .Add => addVC a b Q σ
  | .Mult => mulVC a b Q σ
  | .Sub => intsVC (fun x y => Q (.int (x - y)) σ) a b
  | .FloorDiv => intsVC (fun x y => y ≠ 0 ∧ y.natAbs < 1073741824 ∧ Q (.int (x.fdiv y)) σ) a b
  | .Mod => intsVC (fun x y => y ≠ 0 ∧ Q (.int (x.fmod y)) σ) a b
  | _ => False

theorem bin_ok {T : Tp} {d : Nat} {X : QX} {op : Operator} {a b : V} {Q : QE} {σ : Hp} (h : binVC op a b Q σ) : BinOk T d X (binaryOp op) a b Q σ := by
  intro A fs ι s x y S hx hy
  cases op <;> first | exact (show False from h).elim | skip
  · change addVC a b Q σ at h
    unfold addVC at h
    split at h
    · obtain ⟨t, rfl⟩ := hx.int_inv; obtain ⟨u, rfl⟩ := hy.int_inv
      exact PyProof.Rows.add_int (S.post h .int_mk _)
    · obtain ⟨t, rfl⟩ := hx.str_inv; obtain ⟨u, rfl⟩ := hy.str_inv
      exact PyProof.Rows.add_str (fun t' tk => S.post h.2 .str_mk _) h.1
    · obtain ⟨p, p', rfl, hp⟩ := hx.ref_inv; obtain ⟨q, q', rfl, hq⟩ := hy.ref_inv
      obtain ⟨xs, ys, e1, e2, e3, e4⟩ := h
      obtain ⟨i1, n1, l1, v1⟩ := S.rep.list_at e1 hp
      obtain ⟨i2, n2, l2, v2⟩ := S.rep.list_at e2 hq
      have s1 := v1.length; have s2 := v2.length
      refine P.add_list l1 l2 (S.newList (items := i1 ++ i2) (by simpa using v1.append v2) e4) ?_
      simp only [Array.length_toList] at s1 s2; (clear e2 hp hq e1; omega)
    · exact h.elim
  · obtain ⟨_, _, rfl, rfl, h⟩ := intsVC_inv h
    obtain ⟨t, rfl⟩ := hx.int_inv; obtain ⟨u, rfl⟩ := hy.int_inv
    exact sub_int' (S.post h .int_mk _)
  · change mulVC a b Q σ at h
    unfold mulVC at h
    split at h
    · obtain ⟨t, rfl⟩ := hx.int_inv; obtain ⟨u, rfl⟩ := hy.int_inv
      refine PyProof.Rows.mul_int (S.post h.2 .int_mk _) ?_
      rcases h.1 with q | q
      · exact .of_left (intBits_le_64 q.1 q.2)
      · exact .of_right (intBits_le_64 q.1 q.2)
    · obtain ⟨t, rfl⟩ := hx.str_inv; obtain ⟨u, rfl⟩ := hy.int_inv
      exact SB.mul h.1 fun t' k => S.post h.2 .str_mk _
    · exact h.elim
  · obtain ⟨_, _, rfl, rfl, h⟩ := intsVC_inv h
    obtain ⟨t, rfl⟩ := hx.int_inv; obtain ⟨u, rfl⟩ := hy.int_inv
    exact mod_int' h.1 (S.post h.2 .int_mk _)
  · obtain ⟨_, _, rfl, rfl, h⟩ := intsVC_inv h
    obtain ⟨t, rfl⟩ := hx.int_inv; obtain ⟨u, rfl⟩ := hy.int_inv
    exact floordiv_int h.1 (S.post h.2.2 .int_mk _) (.inl (PyProof.noPylong_small h.2.1))

end Mine

namespace Mine
open PySem PySem.Calls PyProof.Rows PySem.SeqAt

mutual
/-- what a value holds, through the lists of the mini heap -/
noncomputable def Deep (σ : Hp) : PyData → V → Prop
  | .none, v => v = .none
  | .bool b, v => v = .bool b
  | .int i, v => v = .int i
  | .str s, v => v = .str s ∧ PyData.strOk s = true
  | .tuple ds, v => ∃ vs, v = .tup vs ∧ Deeps σ ds vs
  | .list ds, v => ∃ l vs, v = .ref l ∧ σ[l]? = some (.list vs) ∧ Deeps σ ds vs
  | .dict _, _ => False
noncomputable def Deeps (σ : Hp) : List PyData → List V → Prop
  | [], vs => vs = []
  | d :: ds, vs => ∃ v r, vs = v :: r ∧ Deep σ d v ∧ Deeps σ ds r
end

mutual
theorem Deep.lay {σ : Hp} : ∀ {d : PyData} {v : V}, Deep σ d v → d.canLay0 = true
  | .none, _, _ => by unfold PyData.canLay0; rfl
  | .bool _, _, _ => by unfold PyData.canLay0; rfl
  | .int _, _, _ => by unfold PyData.canLay0; rfl
  | .str _, _, h => by unfold Deep at h; unfold PyData.canLay0; exact h.2
  | .tuple _, _, h => by
    unfold Deep at h; obtain ⟨vs, _, h⟩ := h
    unfold PyData.canLay0; exact Deeps.lay h
  | .list _, _, h => by
    unfold Deep at h; obtain ⟨l, vs, _, _, h⟩ := h
    unfold PyData.canLay0; exact Deeps.lay h
  | .dict _, _, h => by unfold Deep at h; exact h.elim
theorem Deeps.lay {σ : Hp} : ∀ {d : List PyData} {v : List V}, Deeps σ d v → PyData.canLayAll0 d = true
  | [], _, _ => by unfold PyData.canLayAll0; rfl
  | _ :: _, _, h => by
    unfold Deeps at h; obtain ⟨v, r, _, h1, h2⟩ := h
    unfold PyData.canLayAll0; rw [Deep.lay h1, Deeps.lay h2]; rfl
end

mutual
theorem Deep.reads {T : Tp} {ι : Inj} {σ : Hp} {h : Heap} (R : Rep T ι σ h) : ∀ {d : PyData} {v : V} {x : Value}, Deep σ d v → VRel T ι h v x → ∃ as, Reads h x d as
  | .none, _, _, e, r => by unfold Deep at e; subst e; cases r.none_inv; exact ⟨_, .none⟩
  | .bool b, _, _, e, r => by unfold Deep at e; subst e; cases r.bool_inv; exact ⟨_, .bool b⟩
  | .int i, _, _, e, r => by unfold Deep at e; subst e; obtain ⟨t, rfl⟩ := r.int_inv; exact ⟨_, .int i t⟩
  | .str i, _, _, e, r => by unfold Deep at e; obtain ⟨rfl, _⟩ := e; obtain ⟨t, rfl⟩ := r.str_inv; exact ⟨_, .str i t⟩
  | .tuple ds, _, _, e, r => by
    unfold Deep at e; obtain ⟨vs, rfl, e⟩ := e
    obtain ⟨a, items, n, rfl, ht, hv⟩ := r.tup_inv
    obtain ⟨as, ra⟩ := Deeps.reads R e hv
    exact ⟨as, .tuple ht rfl rfl ra⟩
  | .list ds, _, _, e, r => by
    unfold Deep at e; obtain ⟨l, vs, rfl, e1, e⟩ := e
    obtain ⟨a, d, rfl, hl⟩ := r.ref_inv
    obtain ⟨items, n, hL, hv⟩ := R.list_at e1 hl
    obtain ⟨as, ra⟩ := Deeps.reads R e hv
    exact ⟨a :: as, .list hL rfl rfl ra⟩
  | .dict _, _, _, e, _ => by unfold Deep at e; exact e.elim
theorem Deeps.reads {T : Tp} {ι : Inj} {σ : Hp} {h : Heap} (R : Rep T ι σ h) : ∀ {ds : List PyData} {vs : List V} {xs : List Value}, Deeps σ ds vs → VRels T ι h vs xs → ∃ as, ReadsAll h xs ds as
  | [], _, xs, e, r => by unfold Deeps at e; subst e; cases VRels.nil_iff.mp r; exact ⟨[], .nil⟩
  | d :: ds, _, xs, e, r => by
    unfold Deeps at e; obtain ⟨v, rr, rfl, e1, e2⟩ := e
    obtain ⟨x, ys, rfl, r1, r2⟩ := VRels.cons_iff.mp r
    obtain ⟨as, h1⟩ := Deep.reads R e1 r1
    obtain ⟨bs, h2⟩ := Deeps.reads R e2 r2
    exact ⟨as ++ bs, .cons h1 h2⟩
end
end Mine

namespace Mine
open PySem PySem.Calls PyProof.Rows PySem.SeqAt

/-- «not in» by «in» -/
theorem notIn_of {M : Model} {A : Around} {E : Value → Shared → Prop} {s : Shared} {x y : Value} {Q : Value → Shared → Prop} (h : wpAny M A (compareOp .In x y) (fun v s' => ∀ b, v = .bool b → Q (.bool (!b)) s') E s) :
    wpAny M A (compareOp .NotIn x y) Q E s := fun Γ p hΓ => by
  have h' := h Γ p hΓ
  change Sem.wp M Γ (contains y x >>= fun r => pure (Value.bool r)) _ _ p s at h'
  show Sem.wp M Γ (contains y x >>= fun r => pure (Value.bool !r)) _ _ p s
  rw [Sem.wp_bind'] at h' ⊢
  exact Sem.wp_mono M Γ _ (fun r _ _ q => q r rfl) (fun _ _ _ q => q) _ _ h'

noncomputable def isNoneV : V → Option Bool
  | .none => some true
  | .bool _ | .int _ | .str _ | .tup _ | .ref _ | .exc _ => some false
  | _ => none
noncomputable def isBoolV (b : Bool) : V → Option Bool
  | .bool c => some (c == b)
  | .none | .int _ | .str _ | .tup _ | .ref _ | .exc _ => some false
  | _ => none

/-- x in y, two texts -/
noncomputable def strIn (x y : Str) : Bool := !(Builtin.Str.occurrences y x 0 y.length 1).isEmpty

noncomputable def inVC (neg : Bool) (a b : V) (Q : QE) (σ : Hp) : Prop :=
  match a, b with
  | .str x, .str y => Q (.bool (neg != strIn x y)) σ
  | a, .ref l =>
    (∃ vs ds d, σ[l]? = some (.list vs) ∧ Deeps σ ds vs ∧ Deep σ d a ∧ PyData.depthAll ds ≤ 40 ∧ Q (.bool (neg != ds.any fun y => PyData.eqv y d)) σ) ∨
    (∃ kvs k, σ[l]? = some (.sdict kvs) ∧ a = .str k ∧ Q (.bool (neg != kvs.any fun kv => kv.1 = k)) σ)
  | _, _ => False

noncomputable def eqVC (a b : V) (Q : QE) (σ : Hp) : Prop := match a, b with
  | .int x, .int y => Q (.bool (x == y)) σ
  | .str x, .str y => Q (.bool (x == y)) σ
  | a, b => ∃ da db, Deep σ da a ∧ Deep σ db b ∧ da.depth ≤ 40 ∧ Q (.bool (PyData.eqv da db)) σ
noncomputable def neVC (a b : V) (Q : QE) (σ : Hp) : Prop := match a, b with
  | .int x, .int y => Q (.bool (x != y)) σ
  | .str x, .str y => Q (.bool (x != y)) σ
  | a, b => ∃ da db, Deep σ da a ∧ Deep σ db b ∧ da.depth ≤ 40 ∧ Q (.bool (!PyData.eqv da db)) σ
noncomputable def isVC (neg : Bool) (a b : V) (Q : QE) (σ : Hp) : Prop := match b with
  | .none => ∃ r, isNoneV a = some r ∧ Q (.bool (neg != r)) σ
  | .bool c => ∃ r, isBoolV c a = some r ∧ Q (.bool (neg != r)) σ
  | _ => False
noncomputable def cmpVC (op : CmpOp) (a b : V) (Q : QE) (σ : Hp) : Prop :=
  match op with
  | .Lt => intsVC (fun x y => Q (.bool (decide (x < y))) σ) a b
  | .LtE => intsVC (fun x y => Q (.bool (decide (x ≤ y))) σ) a b
  | .Gt => intsVC (fun x y => Q (.bool (decide (y < x))) σ) a b
  | .GtE => intsVC (fun x y => Q (.bool (decide (y ≤ x))) σ) a b
  | .Eq => eqVC a b Q σ
  | .NotEq => neVC a b Q σ
  | .Is => isVC false a b Q σ
  | .IsNot => isVC true a b Q σ
  | .In => inVC false a b Q σ
  | .NotIn => inVC true a b Q σ

section
variable {T : Tp} {A : Around} {fs : List Env} {d : Nat} {ι : Inj} {σ : Hp} {s : Shared}

theorem is_none {a : V} {x : Value} {h : Heap} {r : Bool} (e : isNoneV a = some r) (v : VRel T ι h a x) : plainIs x .none = true ∧ (x == .none) = r := by
  cases a <;> first | (cases (show (Option.none : Option Bool) = some r from e); done) | (obtain rfl := Option.some.inj (show some _ = some r from e))
  · cases v.none_inv; exact ⟨rfl, rfl⟩
  · cases v.bool_inv; exact ⟨rfl, rfl⟩
  · obtain ⟨t, rfl⟩ := v.int_inv; exact ⟨rfl, rfl⟩
  · obtain ⟨t, rfl⟩ := v.str_inv; exact ⟨rfl, rfl⟩
  · obtain ⟨a, _, _, rfl, _⟩ := v.tup_inv; exact ⟨rfl, rfl⟩
  · obtain ⟨a, _, rfl, _⟩ := v.ref_inv; exact ⟨rfl, rfl⟩
  · unfold VRel at v; obtain ⟨a, _, _, rfl, _⟩ := v; exact ⟨rfl, rfl⟩
theorem is_bool {a : V} {x : Value} {h : Heap} {b r : Bool} (e : isBoolV b a = some r) (v : VRel T ι h a x) : plainIs x (.bool b) = true ∧ (x == .bool b) = r := by
  cases a <;> first | (cases (show (Option.none : Option Bool) = some r from e); done) | (obtain rfl := Option.some.inj (show some _ = some r from e))
  · cases v.none_inv; exact ⟨rfl, rfl⟩
  · cases v.bool_inv; refine ⟨rfl, ?_⟩; rename_i c; cases b <;> cases c <;> rfl
  · obtain ⟨t, rfl⟩ := v.int_inv; exact ⟨rfl, rfl⟩
  · obtain ⟨t, rfl⟩ := v.str_inv; exact ⟨rfl, rfl⟩
  · obtain ⟨a, _, _, rfl, _⟩ := v.tup_inv; exact ⟨rfl, rfl⟩
  · obtain ⟨a, _, rfl, _⟩ := v.ref_inv; exact ⟨rfl, rfl⟩
  · unfold VRel at v; obtain ⟨a, _, _, rfl, _⟩ := v; exact ⟨rfl, rfl⟩

theorem KVRel.lookup {h : Heap} : ∀ {kvs : List (Str × V)} {rvs : List (Str × Value)} (k : Str), KVRel T ι h kvs rvs → ORelV T ι h ((kvs.find? fun kv => kv.1 = k).map (·.2)) (valueAt rvs k)
  | [], [], _, _ => trivial
  | (k1, v1) :: r, (k2, x2) :: q, k, e => by
    obtain ⟨rfl, e2, e3⟩ := e
    unfold valueAt
    by_cases hk : k1 = k
    · simp only [hk, List.find?_cons, decide_true, Option.map_some]; exact e2
    · simp only [List.find?_cons, hk, decide_false]; exact KVRel.lookup k e3
theorem KVRel.isSome {h : Heap} {kvs : List (Str × V)} {rvs : List (Str × Value)} {k : Str} (e : KVRel T ι h kvs rvs) : (valueAt rvs k).isSome = kvs.any fun kv => kv.1 = k := by
  have := e.lookup k
  have e2 : (kvs.find? fun kv => decide (kv.1 = k)).isSome = kvs.any fun kv => decide (kv.1 = k) := by
    rw [Bool.eq_iff_iff, List.find?_isSome, List.any_eq_true]
  rw [← e2]
  revert this
  cases (kvs.find? fun kv => decide (kv.1 = k)) <;> cases valueAt rvs k <;> simp [ORelV]

theorem Rep.sdict_at {h : Heap} (r : Rep T ι σ h) {l : Nat} {kvs : List (Str × V)} {a d : Addr} (e : σ[l]? = some (.sdict kvs)) (q : ι[l]? = some (a, d)) :
    ∃ rvs, h.DictOf (strKind T.prog T.w) a rvs ∧ KVRel T ι h kvs rvs ∧ (a == sysModules) = false := by
  obtain ⟨_, rvs, hd, hv⟩ := r.objs l _ _ e q
  refine ⟨rvs, hd, hv, ?_⟩
  have h1 := (r.fresh _ (List.mem_of_getElem? q)).1
  have h2 := r.big
  simp only [beq_eq_false_iff_ne, ne_eq]
  intro hq
  have : (sysModules : Nat) = 1 := rfl
  rw [hq] at h1
  have h3 : T.b0.objs.size ≤ 1 := h1
  (clear h1 e q; omega)
end

theorem cmp_ok {T : Tp} {d : Nat} {X : QX} {op : CmpOp} {a b : V} {Q : QE} {σ : Hp} (h : cmpVC op a b Q σ) : BinOk T d X (compareOp op) a b Q σ := by
  intro A fs ι s x y S hx hy
  have hun := S.aok.units
  have inn : ∀ {neg : Bool} {a b : V}, inVC neg a b Q σ → VRel T ι s.heap a x → VRel T ι s.heap b y → wpAny (model T.prog T.w) A (compareOp (if neg then .NotIn else .In) x y) (PostE T [] Q ι s.heap) (PostX T [] X ι s.heap) s := by
    intro neg a b h hx hy
    unfold inVC at h
    split at h
    · obtain ⟨t, rfl⟩ := hx.str_inv; obtain ⟨u, rfl⟩ := hy.str_inv
      cases neg
      · exact in_str (S.post0 (by simpa [strIn] using h) .bool_mk)
      · exact notIn_str (S.post0 (by simpa [strIn] using h) .bool_mk)
    · obtain ⟨p, p', rfl, hp⟩ := hy.ref_inv
      rcases h with ⟨vs, ds, d, e1, e2, e3, e4, q⟩ | ⟨kvs, k, e1, rfl, q⟩
      · obtain ⟨items, n, hl, hv⟩ := S.rep.list_at e1 hp
        obtain ⟨as, ra⟩ := e2.reads S.rep hv
        obtain ⟨bs, rx⟩ := e3.reads S.rep hx
        have hr : A.units + 1 + min (PyData.depthAll ds) d.depth < cLine := by
          have := Nat.min_le_left (PyData.depthAll ds) d.depth
          (clear this e1 hp; omega)
        cases neg
        · exact in_list_reads (.list hl rfl rfl ra) rx e2.lay e3.lay hr (S.post0 (v := .bool _) (by simpa using q) .bool_mk)
        · exact notIn_list_reads (.list hl rfl rfl ra) rx e2.lay e3.lay hr (S.post0 (v := .bool _) (by simpa using q) .bool_mk)
      · obtain ⟨t, rfl⟩ := hx.str_inv
        obtain ⟨rvs, hd, hv, ns⟩ := S.rep.sdict_at e1 hp
        rw [← hv.isSome] at q
        cases neg
        · exact wpAny_in_of (knd := strKind T.prog T.w) (k := k) (by simp [PySem.strKind, Value.isStrOf]) ns hd.mapOf (S.post (by simpa using q) .bool_mk _)
        · exact notIn_of (wpAny_in_of (knd := strKind T.prog T.w) (k := k) (by simp [PySem.strKind, Value.isStrOf]) ns hd.mapOf fun b hb => by cases hb; exact S.post (by simpa using q) .bool_mk _)
    · exact h.elim
  cases op
  · change eqVC a b Q σ at h
    unfold eqVC at h
    split at h
    · obtain ⟨t, rfl⟩ := hx.int_inv; obtain ⟨u, rfl⟩ := hy.int_inv; exact PyProof.Rows.eq_int (S.post0 h .bool_mk)
    · obtain ⟨t, rfl⟩ := hx.str_inv; obtain ⟨u, rfl⟩ := hy.str_inv; exact PyProof.Rows.eq_str (S.post0 h .bool_mk)
    · obtain ⟨da, db, e1, e2, e3, q⟩ := h
      obtain ⟨as, ra⟩ := e1.reads S.rep hx
      obtain ⟨bs, rb⟩ := e2.reads S.rep hy
      exact compareEq_reads ra rb e1.lay e2.lay (by have := Nat.min_le_left da.depth db.depth; (clear this; omega)) (S.post0 q .bool_mk)
  · change neVC a b Q σ at h
    unfold neVC at h
    split at h
    · obtain ⟨t, rfl⟩ := hx.int_inv; obtain ⟨u, rfl⟩ := hy.int_inv; exact ne_int (S.post0 h .bool_mk)
    · obtain ⟨t, rfl⟩ := hx.str_inv; obtain ⟨u, rfl⟩ := hy.str_inv; exact ne_str (S.post0 h .bool_mk)
    · obtain ⟨da, db, e1, e2, e3, q⟩ := h
      obtain ⟨as, ra⟩ := e1.reads S.rep hx
      obtain ⟨bs, rb⟩ := e2.reads S.rep hy
      exact compareNe_reads ra rb e1.lay e2.lay (by have := Nat.min_le_left da.depth db.depth; (clear this; omega)) (S.post0 q .bool_mk)
  · obtain ⟨_, _, rfl, rfl, h⟩ := intsVC_inv h
    obtain ⟨t, rfl⟩ := hx.int_inv; obtain ⟨u, rfl⟩ := hy.int_inv; exact lt_int (S.post0 h .bool_mk)
  · obtain ⟨_, _, rfl, rfl, h⟩ := intsVC_inv h
    obtain ⟨t, rfl⟩ := hx.int_inv; obtain ⟨u, rfl⟩ := hy.int_inv; exact le_int (S.post0 h .bool_mk)
  · obtain ⟨_, _, rfl, rfl, h⟩ := intsVC_inv h
    obtain ⟨t, rfl⟩ := hx.int_inv; obtain ⟨u, rfl⟩ := hy.int_inv; exact gt_int (S.post0 h .bool_mk)
  · obtain ⟨_, _, rfl, rfl, h⟩ := intsVC_inv h
    obtain ⟨t, rfl⟩ := hx.int_inv; obtain ⟨u, rfl⟩ := hy.int_inv; exact ge_int (S.post0 h .bool_mk)
  · change isVC false a b Q σ at h
    cases b <;> first | exact (show False from h).elim | skip
    · obtain ⟨r, e, q⟩ := h
      cases hy.none_inv
      obtain ⟨e1, e2⟩ := is_none e hx
      exact wpAny_is_plain e1 (S.post0 (by rw [e2]; simpa using q) .bool_mk)
    · obtain ⟨r, e, q⟩ := h
      cases hy.bool_inv
      obtain ⟨e1, e2⟩ := is_bool e hx
      exact wpAny_is_plain e1 (S.post0 (by rw [e2]; simpa using q) .bool_mk)
  · change isVC true a b Q σ at h
    cases b <;> first | exact (show False from h).elim | skip
    · obtain ⟨r, e, q⟩ := h
      cases hy.none_inv
      obtain ⟨e1, e2⟩ := is_none e hx
      exact wpAny_isNot_plain e1 (S.post0 (by rw [e2]; simpa using q) .bool_mk)
    · obtain ⟨r, e, q⟩ := h
      cases hy.bool_inv
      obtain ⟨e1, e2⟩ := is_bool e hx
      exact wpAny_isNot_plain e1 (S.post0 (by rw [e2]; simpa using q) .bool_mk)
  · exact inn (neg := false) h hx hy
  · exact inn (neg := true) h hx hy

end Mine

namespace Mine
open PySem PySem.Calls PyProof.Rows PySem.SeqAt

/-- the static facts of the top -/
structure TopOk (T : Tp) : Prop where
  X0 : T.K.In T.b0
  lim : T.b0.NoLimit
  own : ∀ x C bmB newId, PySem.W.nsIn T.K mainGlobals x = some (some (.ref C)) → PySem.W.excIn T.K C bmB newId = true → ∃ mg, PyProof.Rows.OwnCls x C bmB newId mg T.b0
  gl : ∀ x v, T.gv x = some v → ∃ V mg mb, T.b0.Ns mainGlobals mg ∧ T.b0.Ns builtinsNs mb ∧ (mg x = some V ∨ (mg x = none ∧ mb x = some V)) ∧ VRel T [] T.b0 v V

noncomputable def isVar (sc : Scope) (x : Str) : Bool := match sc.names.lookup x with
  | some .local | some .cell | some .free => true
  | _ => false
noncomputable def scOk (sc : Scope) : Bool := sc.names.all fun p => !(p.1 == ("__debug__" : Str)) && !(p.1 == ("__classdict__" : Str))

theorem not_debug {sc : Scope} {x : Str} {k : NameKind} (h : scOk sc = true) (e : sc.names.lookup x = some k) : (x == ("__debug__" : Str)) = false ∧ (x == ("__classdict__" : Str)) = false := by
  unfold scOk at h
  have : ∀ l : List (Str × NameKind), (l.all fun p => !(p.1 == ("__debug__" : Str)) && !(p.1 == ("__classdict__" : Str))) = true → l.lookup x = some k → (x == ("__debug__" : Str)) = false ∧ (x == ("__classdict__" : Str)) = false := by
    intro l
    induction l with
    | nil => intro _ e; cases e
    | cons p r ih =>
      intro h e
      simp only [List.all_cons, Bool.and_eq_true, Bool.not_eq_true'] at h
      rw [List.lookup_cons] at e
      by_cases q : (x == p.1) = true
      · rw [beq_iff_eq.mp q]; exact h.1
      · rw [Bool.not_eq_true] at q; rw [q] at e
        exact ih (by simpa using h.2) e
  exact this _ h e

noncomputable def noStar : List Expr → Bool
  | [] => true
  | .Starred _ _ :: _ => false
  | _ :: r => noStar r
theorem starEach_eq {env : Env} {pos : Pos} : ∀ {es : List Expr}, noStar es = true → backTo pos (starEach es env) = es.map fun e => (false, eval e env)
  | [], _ => rfl
  | e :: r, h => by
    have ih := starEach_eq (env := env) (pos := pos) (es := r) (by cases e <;> first | exact h | cases h)
    cases e <;> first | (cases h; done) | (show (false, _) :: backTo pos (starEach r env) = (false, _) :: r.map _; rw [ih]; rfl)

section
variable {T : Tp} {d : Nat} {sc : Scope} {ρ : Loc} {X : QX} {Q : QE} {σ : Hp}



theorem EvOk.mono {e : Expr} {Q' : QE} {X' : QX} (h : EvOk T d sc ρ X e Q σ) (k : ∀ v σ, Q v σ → Q' v σ) (kx : ∀ c σ, X c σ → X' c σ) : EvOk T d sc ρ X' e Q' σ :=
  fun env A fs F ι s hsc I => wpAny_mono (h env A fs F ι s hsc I) (fun _ _ p => p.mono k) fun _ _ p => p.mono kx

theorem EvOk.none {k pos} (h : Q .none σ) : EvOk T d sc ρ X (.Constant .none k pos) Q σ := fun _ _ _ _ _ _ _ I => wpAny_Constant_none (I.st.post0 h .none_mk)
theorem EvOk.bool {b k pos} (h : Q (.bool b) σ) : EvOk T d sc ρ X (.Constant (.bool b) k pos) Q σ := fun _ _ _ _ _ _ _ I => wpAny_Constant_bool (I.st.post0 h .bool_mk)
theorem EvOk.int {i k pos} (h : Q (.int i) σ) : EvOk T d sc ρ X (.Constant (.int i) k pos) Q σ := fun _ _ _ _ _ _ _ I => wpAny_Constant_int (I.st.post h .int_mk _)
theorem EvOk.str {i k pos} (h : Q (.str i) σ) : EvOk T d sc ρ X (.Constant (.str i) k pos) Q σ := fun _ _ _ _ _ _ _ I => wpAny_Constant_str (I.st.post h .str_mk _)

theorem cellGet_ {M : Model} {A : Around} {E : Value → Shared → Prop} {s : Shared} {a : Addr} {o : Obj} {v : Option Value} {Q : Option Value → Shared → Prop} (ho : s.heap.get? a = some o) (hd : o.data = .cell v) (h : Q v s) : wpAny M A (cellGet a) Q E s := by
  unfold cellGet; refine wpAny_bind (wpAny_load ho ?_); rw [hd]; exact wpAny_pure h

theorem EvOk.var {x : Str} {pos : Pos} {v : V} (h : Q v σ) (hv : ρ x = some v) (hk : isVar sc x = true) (ho : scOk sc = true) : EvOk T d sc ρ X (.Name x pos) Q σ := by
  intro env A fs F ι s hsc I
  subst hsc
  unfold isVar at hk
  have kd : env.kindOf x = env.scope.names.lookup x := rfl
  have hkind := I.frm.kind
  split at hk
  · rename_i hk'
    obtain ⟨c, m, _, hn, hr⟩ := I.frm.ns
    have r := hr x (kd.trans hk')
    rw [hv] at r
    cases hm : m x with
    | none => rw [hm] at r; exact r.elim
    | some y =>
      rw [hm] at r
      exact wpAny_Name (wpAny_loadName_local hkind (kd.trans hk') hn.ns hm (I.st.post0 h r)) (not_debug ho hk').1
  · rename_i hk'
    obtain ⟨c, o, y, e1, e2, _, e4, r, _⟩ := I.frm.cells x (.inl (kd.trans hk'))
    rw [hv] at r
    cases y with
    | none => exact r.elim
    | some y =>
      refine wpAny_Name ?_ (not_debug ho hk').1
      unfold loadName
      simp only [Env.blockKind, hkind, kd, hk', ScopeKind.isAnnotationScope, Bool.false_and, Bool.false_eq_true, if_false, cellOf, e1]
      exact wpAny_bind (wpAny_pure (wpAny_bind (cellGet_ e2 e4 (wpAny_pure (I.st.post0 h r)))))
  · rename_i hk'
    obtain ⟨c, o, y, e1, e2, _, e4, r, _⟩ := I.frm.cells x (.inr (kd.trans hk'))
    rw [hv] at r
    cases y with
    | none => exact r.elim
    | some y =>
      refine wpAny_Name ?_ (not_debug ho hk').1
      unfold loadName
      simp only [Env.blockKind, hkind, kd, hk', ScopeKind.isAnnotationScope, Bool.false_and, Bool.false_eq_true, if_false, cellOf, e1, (not_debug ho hk').2]
      exact wpAny_bind (wpAny_pure (wpAny_bind (cellGet_ e2 e4 (wpAny_pure (I.st.post0 h r)))))
  · cases hk

theorem VRel.up {ι : Inj} {h : Heap} {v : V} {x : Value} (R : Rep T ι σ h) (r : VRel T [] T.b0 v x) : VRel T ι h v x :=
  r.mono ⟨⟨ι, rfl⟩, fun _ o e _ => ⟨o, R.base _ _ e, rfl⟩, fun _ _ e _ => R.base _ _ e⟩

theorem EvOk.glob {x : Str} {pos : Pos} {v : V} (TO : TopOk T) (h : Q v σ) (hv : T.gv x = some v) (hk : sc.names.lookup x = some .globalImplicit) (ho : scOk sc = true) : EvOk T d sc ρ X (.Name x pos) Q σ := by
  intro env A fs F ι s hsc I
  subst hsc
  obtain ⟨V, mg, mb, n1, n2, hm, r⟩ := TO.gl x v hv
  have N1 := n1.keeps I.rep.base
  have N2 := n2.keeps I.rep.base
  have p := I.st.post0 (F := []) h (r.up I.rep)
  refine Name_function_global I.frm.kind hk ?_ (not_debug ho hk).1
  rw [← I.frm.glb] at N1
  rw [← I.frm.blt] at N2
  rcases hm with hm | ⟨hm, hb⟩
  · exact loadGlobal_global N1 hm p
  · exact loadGlobal_builtin N1 hm N2 hb p

theorem EvOk.bin {l r : Expr} {op : Operator} {pos : Pos} (h : EvOk T d sc ρ X l (fun a σ₁ => EvOk T d sc ρ X r (fun b σ₂ => binVC op a b Q σ₂) σ₁) σ) : EvOk T d sc ρ X (.BinOp l op r pos) Q σ := by
  intro env A fs F ι s hsc I
  refine wpAny_BinOp (wpAny_mono (h env A fs F ι s hsc I) (fun x s₁ p => ?_) fun _ _ p => p)
  obtain ⟨v, σ₁, ι₁, q, rv, rp, ex, g, o⟩ := p
  have I₁ := I.ext ex rp g o
  refine wpAny_mono (q env A fs F ι₁ s₁ hsc I₁) (fun y s₂ p => ?_) fun _ _ p => p.trans ex
  obtain ⟨v₂, σ₂, ι₂, q₂, rv₂, rp₂, ex₂, g₂, o₂⟩ := p
  have I₂ := I₁.ext ex₂ rp₂ g₂ o₂
  exact wpAny_mono (bin_ok q₂ A fs ι₂ s₂ x y I₂.st (rv.mono ex₂.mono) rv₂) (fun _ _ p => p.trans (ex.trans ex₂)) fun _ _ p => p.trans (ex.trans ex₂)

theorem EvOk.cmp {l r : Expr} {op : CmpOp} {pos : Pos} (h : EvOk T d sc ρ X l (fun a σ₁ => EvOk T d sc ρ X r (fun b σ₂ => cmpVC op a b Q σ₂) σ₁) σ) (hm : behindInMarks op r = false) : EvOk T d sc ρ X (.Compare l [op] [r] pos) Q σ := by
  intro env A fs F ι s hsc I
  refine wpAny_Compare1 (wpAny_mono (h env A fs F ι s hsc I) (fun x s₁ p => ?_) fun _ _ p => p) hm
  obtain ⟨v, σ₁, ι₁, q, rv, rp, ex, g, o⟩ := p
  have I₁ := I.ext ex rp g o
  refine wpAny_mono (q env A fs F ι₁ s₁ hsc I₁) (fun y s₂ p => ?_) fun _ _ p => p.trans ex
  obtain ⟨v₂, σ₂, ι₂, q₂, rv₂, rp₂, ex₂, g₂, o₂⟩ := p
  have I₂ := I₁.ext ex₂ rp₂ g₂ o₂
  exact wpAny_mono (cmp_ok q₂ A fs ι₂ s₂ x y I₂.st (rv.mono ex₂.mono) rv₂) (fun _ _ p => p.trans (ex.trans ex₂)) fun _ _ p => p.trans (ex.trans ex₂)

/-- the truth of a value -/
noncomputable def truthV (v : V) (σ : Hp) : Option Bool := match v with
  | .bool b => some b
  | .none => some false
  | .int i => some (i != 0)
  | .ref l => (match σ[l]? with | some (.list vs) => if vs.length < 1000000000 then some (!vs.isEmpty) else none | _ => none)
  | _ => none

theorem truth_ok {A : Around} {fs : List Env} {ι : Inj} {s : Shared} {v : V} {x : Value} {b : Bool} {Q : Bool → Hp → Prop} (S : St T A fs d ι σ s) (r : VRel T ι s.heap v x) (e : truthV v σ = some b) (q : Q b σ) :
    wpAny (model T.prog T.w) A (truthy x) (PostB T Q ι s.heap) (PostX T [] X ι s.heap) s := by
  have fin : ∀ t, PostB T Q ι s.heap b { s with toks := t } := fun t => ⟨σ, ι, q, S.rep, .refl .., S.gens, S.os⟩
  cases v <;> simp only [truthV, reduceCtorEq, Option.some.injEq] at e
  · cases r.none_inv; subst e; exact wpAny_pure (fin s.toks)
  · cases r.bool_inv; subst e; exact wpAny_truthy_bool (fin s.toks)
  · obtain ⟨t, rfl⟩ := r.int_inv; subst e; exact P.truthy_int (fin s.toks)
  · obtain ⟨a, d', rfl, hl⟩ := r.ref_inv
    split at e
    · rename_i vs hvs
      split at e
      · rename_i hlt
        simp only [Option.some.injEq] at e
        obtain ⟨items, n, hL, hv⟩ := S.rep.list_at hvs hl
        have hlen := hv.length
        simp only [Array.length_toList] at hlen
        refine wpAny_truthy_list hL.isList (by (clear hvs fin hl; omega)) ?_
        have : (!items.isEmpty) = b := by
          rw [← e]; congr 1
          rw [Bool.eq_iff_iff, Array.isEmpty_iff_size_eq_zero, List.isEmpty_iff_length_eq_zero, hlen]
        rw [this]; exact fin _
      · cases e
    · cases e
end

end Mine

namespace Mine
open PySem PySem.Calls PyProof.Rows PySem.SeqAt

section
variable {T : Tp} {d : Nat} {sc : Scope} {ρ : Loc} {X : QX} {Q : QE} {B : Bool → Hp → Prop} {σ : Hp}

theorem TsOk.cmp {l r : Expr} {op : CmpOp} {pos : Pos} (h : EvOk T d sc ρ X l (fun a σ₁ => EvOk T d sc ρ X r (fun b σ₂ => cmpVC op a b (fun v σ₃ => ∃ c, v = .bool c ∧ B c σ₃) σ₂) σ₁) σ) (hm : behindInMarks op r = false) : TsOk T d sc ρ X (.Compare l [op] [r] pos) B σ := by
  intro env A fs F ι s hsc I
  refine wpAny_isTrue_Compare1 (wpAny_mono (h env A fs F ι s hsc I) (fun x s₁ p => ?_) fun _ _ p => p) hm
  obtain ⟨v, σ₁, ι₁, q, rv, rp, ex, g, o⟩ := p
  have I₁ := I.ext ex rp g o
  refine wpAny_mono (q env A fs F ι₁ s₁ hsc I₁) (fun y s₂ p => ?_) fun _ _ p => p.trans ex
  obtain ⟨v₂, σ₂, ι₂, q₂, rv₂, rp₂, ex₂, g₂, o₂⟩ := p
  have I₂ := I₁.ext ex₂ rp₂ g₂ o₂
  refine wpAny_mono (cmp_ok q₂ A fs ι₂ s₂ x y I₂.st (rv.mono ex₂.mono) rv₂) (fun z s₃ p => ?_) fun _ _ p => p.trans (ex.trans ex₂)
  obtain ⟨v₃, σ₃, ι₃, ⟨c, rfl, q₃⟩, rv₃, rp₃, ex₃, g₃, o₃⟩ := p
  cases rv₃.bool_inv
  exact wpAny_truthy_bool ⟨σ₃, ι₃, q₃, rp₃, (ex.trans ex₂).trans ex₃, g₃, o₃⟩

theorem TsOk.not {x : Expr} {pos : Pos} (h : TsOk T d sc ρ X x (fun b σ₁ => B (!b) σ₁) σ) : TsOk T d sc ρ X (.UnaryOp .Not x pos) B σ := by
  intro env A fs F ι s hsc I
  exact wpAny_isTrue_Not (wpAny_mono (h env A fs F ι s hsc I) (fun b s₁ p => by obtain ⟨σ₁, ι₁, q, rp, ex, g, o⟩ := p; exact ⟨σ₁, ι₁, q, rp, ex, g, o⟩) fun _ _ p => p)

/-- and, or of tests -/
noncomputable def AllOk (T : Tp) (d : Nat) (sc : Scope) (ρ : Loc) (X : QX) (op : BoolOp) (es : List Expr) (B : Bool → Hp → Prop) (σ : Hp) : Prop :=
  ∀ env A fs F ι s, env.scope = sc → Inv T A fs d env F ρ ι σ s → wpAny (model T.prog T.w) A (allTrue op es env) (PostB T B ι s.heap) (PostX T [] X ι s.heap) s
theorem TsOk.bool {op : BoolOp} {es : List Expr} {pos : Pos} (h : AllOk T d sc ρ X op es B σ) : TsOk T d sc ρ X (.BoolOp op es pos) B σ :=
  fun env A fs F ι s hsc I => wpAny_isTrue_BoolOp (h env A fs F ι s hsc I)
theorem PostB.here {A : Around} {fs : List Env} {ι : Inj} {s : Shared} {b : Bool} (S : St T A fs d ι σ s) (q : B b σ) : PostB T B ι s.heap b s := ⟨σ, ι, q, S.rep, .refl .., S.gens, S.os⟩
theorem AllOk.and_nil (q : B true σ) : AllOk T d sc ρ X .And [] B σ := fun _ _ _ _ _ _ _ I => wpAny_allTrue_And_nil (.here I.st q)
theorem AllOk.or_nil (q : B false σ) : AllOk T d sc ρ X .Or [] B σ := fun _ _ _ _ _ _ _ I => wpAny_allTrue_Or_nil (.here I.st q)
theorem AllOk.and_cons {x : Expr} {r : List Expr} (h : TsOk T d sc ρ X x (fun b σ₁ => if b then AllOk T d sc ρ X .And r B σ₁ else B false σ₁) σ) : AllOk T d sc ρ X .And (x :: r) B σ := by
  intro env A fs F ι s hsc I
  refine wpAny_allTrue_And_cons (wpAny_mono (h env A fs F ι s hsc I) (fun b s₁ p => ?_) fun _ _ p => p)
  obtain ⟨σ₁, ι₁, q, rp, ex, g, o⟩ := p
  cases b
  · exact ⟨σ₁, ι₁, q, rp, ex, g, o⟩
  · exact wpAny_mono (q env A fs F ι₁ s₁ hsc (I.ext ex rp g o)) (fun _ _ p => p.trans ex) fun _ _ p => p.trans ex
theorem AllOk.or_cons {x : Expr} {r : List Expr} (h : TsOk T d sc ρ X x (fun b σ₁ => if b then B true σ₁ else AllOk T d sc ρ X .Or r B σ₁) σ) : AllOk T d sc ρ X .Or (x :: r) B σ := by
  intro env A fs F ι s hsc I
  refine wpAny_allTrue_Or_cons (wpAny_mono (h env A fs F ι s hsc I) (fun b s₁ p => ?_) fun _ _ p => p)
  obtain ⟨σ₁, ι₁, q, rp, ex, g, o⟩ := p
  cases b
  · exact wpAny_mono (q env A fs F ι₁ s₁ hsc (I.ext ex rp g o)) (fun _ _ p => p.trans ex) fun _ _ p => p.trans ex
  · exact ⟨σ₁, ι₁, q, rp, ex, g, o⟩

/-- a test that is no comparison, not, and, or, if -/
noncomputable def plainTest : Expr → Bool
  | .UnaryOp .Not _ _ | .BoolOp .. | .IfExp .. | .Compare .. => false
  | _ => true
theorem TsOk.val {e : Expr} (h : EvOk T d sc ρ X e (fun v σ₁ => ∃ b, truthV v σ₁ = some b ∧ B b σ₁) σ) (hp : plainTest e = true) : TsOk T d sc ρ X e B σ := by
  intro env A fs F ι s hsc I
  refine wpAny_isTrue_value (wpAny_mono (h env A fs F ι s hsc I) (fun x s₁ p => ?_) fun _ _ p => p) ?_
  · obtain ⟨v, σ₁, ι₁, ⟨b, e1, q⟩, rv, rp, ex, g, o⟩ := p
    exact wpAny_mono (truth_ok (I.ext ex rp g o).st rv e1 q) (fun _ _ p => p.trans ex) fun _ _ p => p.trans ex
  · cases e <;> first | rfl | (cases hp; done) | skip
    rename_i op x pos
    cases op <;> first | rfl | cases hp

/-- l op1 m op2 r as a test -/
theorem TsOk.cmp2 {l m r : Expr} {op1 op2 : CmpOp} {pos : Pos} (h : EvOk T d sc ρ X l (fun a σ₁ => EvOk T d sc ρ X m (fun b σ₂ => cmpVC op1 a b (fun v σ₃ => ∃ c, v = .bool c ∧ (if c then EvOk T d sc ρ X r (fun w σ₄ => cmpVC op2 b w (fun v σ₅ => ∃ c, v = .bool c ∧ B c σ₅) σ₄) σ₃ else B false σ₃)) σ₂) σ₁) σ)
    (hm : behindInMarks op2 r = false) : TsOk T d sc ρ X (.Compare l [op1, op2] [m, r] pos) B σ := by
  intro env A fs F ι s hsc I
  show wpAny _ _ (eval l env >>= fun a => testChain pos a [op1, op2] [eval m env, markedBehindIn op2 r (eval r env)]) _ _ _
  rw [markedBehindIn_of_false hm]
  refine wpAny_bind (wpAny_mono (h env A fs F ι s hsc I) (fun x s₁ p => ?_) fun _ _ p => p)
  obtain ⟨v, σ₁, ι₁, q, rv, rp, ex, g, o⟩ := p
  have I₁ := I.ext ex rp g o
  unfold testChain
  refine wpAny_bind (wpAny_holding (wpAny_mono (q env A fs F ι₁ s₁ hsc I₁) (fun y s₂ p => ?_) fun _ _ p => p.trans ex))
  obtain ⟨v₂, σ₂, ι₂, q₂, rv₂, rp₂, ex₂, g₂, o₂⟩ := p
  have I₂ := I₁.ext ex₂ rp₂ g₂ o₂
  refine wpAny_bind (wpAny_standAt (wpAny_bind (wpAny_holding (wpAny_mono (cmp_ok q₂ A fs ι₂ s₂ x y I₂.st (rv.mono ex₂.mono) rv₂) (fun z s₃ p => ?_) fun _ _ p => p.trans (ex.trans ex₂)))))
  obtain ⟨v₃, σ₃, ι₃, ⟨c, rfl, q₃⟩, rv₃, rp₃, ex₃, g₃, o₃⟩ := p
  cases rv₃.bool_inv
  have I₃ := I₂.ext ex₃ rp₃ g₃ o₃
  have ex123 := (ex.trans ex₂).trans ex₃
  refine wpAny_bind (wpAny_release (wpAny_bind (wpAny_holding (wpAny_truthy_bool ?_))))
  cases c
  · exact wpAny_pure ⟨σ₃, ι₃, q₃, rp₃, ex123, g₃, o₃⟩
  · show wpAny _ _ (testChain pos y [op2] [eval r env]) _ _ _
    unfold testChain
    refine wpAny_bind (wpAny_holding (wpAny_mono (q₃ env A fs F ι₃ s₃ hsc I₃) (fun u s₄ p => ?_) fun _ _ p => p.trans ex123))
    obtain ⟨v₄, σ₄, ι₄, q₄, rv₄, rp₄, ex₄, g₄, o₄⟩ := p
    have I₄ := I₃.ext ex₄ rp₄ g₄ o₄
    have ex1234 := ex123.trans ex₄
    refine wpAny_bind (wpAny_standAt (wpAny_bind (wpAny_operateT (wpAny_mono (cmp_ok q₄ A fs ι₄ s₄ y u I₄.st (rv₂.mono (ex₃.trans ex₄).mono) rv₄) (fun z s₅ p => ?_) fun _ _ p => p.trans ex1234))))
    obtain ⟨v₅, σ₅, ι₅, ⟨c, rfl, q₅⟩, rv₅, rp₅, ex₅, g₅, o₅⟩ := p
    cases rv₅.bool_inv
    exact wpAny_holding (wpAny_truthy_bool ⟨σ₅, ι₅, q₅, rp₅, ex1234.trans ex₅, g₅, o₅⟩)

/-- the same as a value -/
theorem EvOk.cmp2 {l m r : Expr} {op1 op2 : CmpOp} {pos : Pos} (h : EvOk T d sc ρ X l (fun a σ₁ => EvOk T d sc ρ X m (fun b σ₂ => cmpVC op1 a b (fun v σ₃ => ∃ c, v = .bool c ∧ (if c then EvOk T d sc ρ X r (fun w σ₄ => cmpVC op2 b w Q σ₄) σ₃ else Q (.bool false) σ₃)) σ₂) σ₁) σ)
    (hm : behindInMarks op2 r = false) : EvOk T d sc ρ X (.Compare l [op1, op2] [m, r] pos) Q σ := by
  intro env A fs F ι s hsc I
  show wpAny _ _ (eval l env >>= fun a => compareChain pos a [op1, op2] [eval m env, markedBehindIn op2 r (eval r env)]) _ _ _
  rw [markedBehindIn_of_false hm]
  refine wpAny_bind (wpAny_mono (h env A fs F ι s hsc I) (fun x s₁ p => ?_) fun _ _ p => p)
  obtain ⟨v, σ₁, ι₁, q, rv, rp, ex, g, o⟩ := p
  have I₁ := I.ext ex rp g o
  unfold compareChain
  refine wpAny_bind (wpAny_holding (wpAny_mono (q env A fs F ι₁ s₁ hsc I₁) (fun y s₂ p => ?_) fun _ _ p => p.trans ex))
  obtain ⟨v₂, σ₂, ι₂, q₂, rv₂, rp₂, ex₂, g₂, o₂⟩ := p
  have I₂ := I₁.ext ex₂ rp₂ g₂ o₂
  refine wpAny_bind (wpAny_standAt (wpAny_bind (wpAny_holding (wpAny_mono (cmp_ok q₂ A fs ι₂ s₂ x y I₂.st (rv.mono ex₂.mono) rv₂) (fun z s₃ p => ?_) fun _ _ p => p.trans (ex.trans ex₂)))))
  obtain ⟨v₃, σ₃, ι₃, ⟨c, rfl, q₃⟩, rv₃, rp₃, ex₃, g₃, o₃⟩ := p
  cases rv₃.bool_inv
  have I₃ := I₂.ext ex₃ rp₃ g₃ o₃
  have ex123 := (ex.trans ex₂).trans ex₃
  refine wpAny_bind (wpAny_release (wpAny_bind (wpAny_holding (wpAny_truthy_bool ?_))))
  cases c
  · exact wpAny_pure ⟨_, σ₃, ι₃, q₃, .bool_mk, rp₃, ex123, g₃, o₃⟩
  · show wpAny _ _ (compareChain pos y [op2] [eval r env]) _ _ _
    unfold compareChain
    refine wpAny_bind (wpAny_holding (wpAny_mono (q₃ env A fs F ι₃ s₃ hsc I₃) (fun u s₄ p => ?_) fun _ _ p => p.trans ex123))
    obtain ⟨v₄, σ₄, ι₄, q₄, rv₄, rp₄, ex₄, g₄, o₄⟩ := p
    have I₄ := I₃.ext ex₄ rp₄ g₄ o₄
    have ex1234 := ex123.trans ex₄
    exact wpAny_bind (wpAny_standAt (wpAny_operateT (wpAny_mono (cmp_ok q₄ A fs ι₄ s₄ y u I₄.st (rv₂.mono (ex₃.trans ex₄).mono) rv₄) (fun z s₅ p => p.trans ex1234) fun _ _ p => p.trans ex1234)))

theorem EvOk.not {x : Expr} {pos : Pos} (h : EvOk T d sc ρ X x (fun v σ₁ => ∃ b, truthV v σ₁ = some b ∧ Q (.bool (!b)) σ₁) σ) : EvOk T d sc ρ X (.UnaryOp .Not x pos) Q σ := by
  intro env A fs F ι s hsc I
  refine wpAny_UnaryOp (wpAny_mono (h env A fs F ι s hsc I) (fun x s₁ p => ?_) fun _ _ p => p)
  obtain ⟨v, σ₁, ι₁, ⟨b, e1, q⟩, rv, rp, ex, g, o⟩ := p
  refine not_value (wpAny_mono (truth_ok (Q := fun c σ' => Q (.bool (!c)) σ') (I.ext ex rp g o).st rv e1 q) (fun c s₂ p => ?_) fun _ _ p => p.trans ex)
  obtain ⟨σ₂, ι₂, q₂, rp₂, ex₂, g₂, o₂⟩ := p
  exact ⟨_, σ₂, ι₂, q₂, .bool_mk, rp₂, ex.trans ex₂, g₂, o₂⟩
theorem EvOk.neg {x : Expr} {pos : Pos} (h : EvOk T d sc ρ X x (fun v σ₁ => ∃ i, v = .int i ∧ Q (.int (-i)) σ₁) σ) : EvOk T d sc ρ X (.UnaryOp .USub x pos) Q σ := by
  intro env A fs F ι s hsc I
  refine wpAny_UnaryOp (wpAny_mono (h env A fs F ι s hsc I) (fun x s₁ p => ?_) fun _ _ p => p)
  obtain ⟨v, σ₁, ι₁, ⟨i, rfl, q⟩, rv, rp, ex, g, o⟩ := p
  obtain ⟨t, rfl⟩ := rv.int_inv
  exact P.neg_int (((I.ext ex rp g o).st.post q .int_mk _).trans ex)

/-- and, or as values -/
noncomputable def BoolsOk (T : Tp) (d : Nat) (sc : Scope) (ρ : Loc) (X : QX) (op : BoolOp) (es : List Expr) (Q : QE) (σ : Hp) : Prop :=
  ∀ env A fs F ι s pos, env.scope = sc → Inv T A fs d env F ρ ι σ s → wpAny (model T.prog T.w) A (boolOp pos op (evalEach es env)) (PostE T [] Q ι s.heap) (PostX T [] X ι s.heap) s
theorem EvOk.bools {op : BoolOp} {es : List Expr} {pos : Pos} (h : BoolsOk T d sc ρ X op es Q σ) : EvOk T d sc ρ X (.BoolOp op es pos) Q σ :=
  fun env A fs F ι s hsc I => h env A fs F ι s pos hsc I
theorem BoolsOk.one {op : BoolOp} {x : Expr} (h : EvOk T d sc ρ X x Q σ) : BoolsOk T d sc ρ X op [x] Q σ :=
  fun env A fs F ι s _ hsc I => h env A fs F ι s hsc I
theorem BoolsOk.and {x y : Expr} {r : List Expr} (h : EvOk T d sc ρ X x (fun v σ₁ => ∃ b, truthV v σ₁ = some b ∧ (if b then BoolsOk T d sc ρ X .And (y :: r) Q σ₁ else Q v σ₁)) σ) : BoolsOk T d sc ρ X .And (x :: y :: r) Q σ := by
  intro env A fs F ι s pos hsc I
  show wpAny _ _ (eval x env >>= fun v => standAt pos >>= fun _ => holding [v] (truthy v) >>= fun t => match BoolOp.And, t with
    | .And, false | .Or, true => pure v
    | _, _ => boolOp pos .And (evalEach (y :: r) env)) _ _ _
  refine wpAny_bind (wpAny_mono (h env A fs F ι s hsc I) (fun x s₁ p => ?_) fun _ _ p => p)
  obtain ⟨v, σ₁, ι₁, ⟨b, e1, q⟩, rv, rp, ex, g, o⟩ := p
  have I₁ := I.ext ex rp g o
  refine wpAny_bind (wpAny_standAt (wpAny_bind (wpAny_holding (wpAny_mono (truth_ok (Q := fun c σ' => c = b ∧ σ' = σ₁) I₁.st rv e1 ⟨rfl, rfl⟩) (fun c s₂ p => ?_) fun _ _ p => p.trans ex))))
  obtain ⟨σ₂, ι₂, ⟨rfl, rfl⟩, rp₂, ex₂, g₂, o₂⟩ := p
  cases c
  · exact wpAny_pure ⟨v, σ₂, ι₂, q, rv.mono ex₂.mono, rp₂, ex.trans ex₂, g₂, o₂⟩
  · exact wpAny_mono (q env A fs F ι₂ s₂ pos hsc (I₁.ext ex₂ rp₂ g₂ o₂)) (fun _ _ p => p.trans (ex.trans ex₂)) fun _ _ p => p.trans (ex.trans ex₂)
theorem BoolsOk.or {x y : Expr} {r : List Expr} (h : EvOk T d sc ρ X x (fun v σ₁ => ∃ b, truthV v σ₁ = some b ∧ (if b then Q v σ₁ else BoolsOk T d sc ρ X .Or (y :: r) Q σ₁)) σ) : BoolsOk T d sc ρ X .Or (x :: y :: r) Q σ := by
  intro env A fs F ι s pos hsc I
  show wpAny _ _ (eval x env >>= fun v => standAt pos >>= fun _ => holding [v] (truthy v) >>= fun t => match BoolOp.Or, t with
    | .And, false | .Or, true => pure v
    | _, _ => boolOp pos .Or (evalEach (y :: r) env)) _ _ _
  refine wpAny_bind (wpAny_mono (h env A fs F ι s hsc I) (fun x s₁ p => ?_) fun _ _ p => p)
  obtain ⟨v, σ₁, ι₁, ⟨b, e1, q⟩, rv, rp, ex, g, o⟩ := p
  have I₁ := I.ext ex rp g o
  refine wpAny_bind (wpAny_standAt (wpAny_bind (wpAny_holding (wpAny_mono (truth_ok (Q := fun c σ' => c = b ∧ σ' = σ₁) I₁.st rv e1 ⟨rfl, rfl⟩) (fun c s₂ p => ?_) fun _ _ p => p.trans ex))))
  obtain ⟨σ₂, ι₂, ⟨rfl, rfl⟩, rp₂, ex₂, g₂, o₂⟩ := p
  cases c
  · exact wpAny_mono (q env A fs F ι₂ s₂ pos hsc (I₁.ext ex₂ rp₂ g₂ o₂)) (fun _ _ p => p.trans (ex.trans ex₂)) fun _ _ p => p.trans (ex.trans ex₂)
  · exact wpAny_pure ⟨v, σ₂, ι₂, q, rv.mono ex₂.mono, rp₂, ex.trans ex₂, g₂, o₂⟩

/-- displays -/
theorem EvsOk.nil {L : List V → Hp → Prop} (q : L [] σ) : EvsOk T d sc ρ X [] L σ := fun _ _ _ _ ι _ _ I => wpAny_pure ⟨[], σ, ι, q, VRels.nil_iff.mpr rfl, I.rep, .refl .., I.gens, I.os⟩
theorem EvsOk.cons {L : List V → Hp → Prop} {e : Expr} {r : List Expr} (h : EvOk T d sc ρ X e (fun v σ₁ => EvsOk T d sc ρ X r (fun vs σ₂ => L (v :: vs) σ₂) σ₁) σ) : EvsOk T d sc ρ X (e :: r) L σ := by
  intro env A fs F ι s hsc I
  refine spliced_cons (wpAny_mono (h env A fs F ι s hsc I) (fun x s₁ p => ?_) fun _ _ p => p)
  obtain ⟨v, σ₁, ι₁, q, rv, rp, ex, g, o⟩ := p
  refine wpAny_mono (q env A fs F ι₁ s₁ hsc (I.ext ex rp g o)) (fun xs s₂ p => ?_) fun _ _ p => p.trans ex
  obtain ⟨vs, σ₂, ι₂, q₂, rvs, rp₂, ex₂, g₂, o₂⟩ := p
  exact ⟨v :: vs, σ₂, ι₂, q₂, VRels.cons_iff.mpr ⟨_, _, rfl, rv.mono ex₂.mono, rvs⟩, rp₂, ex.trans ex₂, g₂, o₂⟩
theorem EvOk.tup {es : List Expr} {k : Nat} {pos : Pos} (h : EvsOk T d sc ρ X es (fun vs σ₁ => vs.length ≤ sizeLine ∧ Q (.tup vs) σ₁) σ) (ns : noStar es = true) : EvOk T d sc ρ X (.Tuple es k pos) Q σ := by
  intro env A fs F ι s hsc I
  refine wpAny_Tuple ?_
  rw [starEach_eq ns]
  refine wpAny_mono (h env A fs F ι s hsc I) (fun xs s₁ p => ?_) fun _ _ p => p
  obtain ⟨vs, σ₁, ι₁, ⟨hl, q⟩, rv, rp, ex, g, o⟩ := p
  exact ⟨by rw [rv.length]; exact hl, ((I.ext ex rp g o).st.newTup (items := xs.toArray) (by simpa using rv) q (t := s₁.toks)).trans ex⟩
theorem EvOk.list {es : List Expr} {pos : Pos} (h : EvsOk T d sc ρ X es (fun vs σ₁ => vs.length ≤ sizeLine ∧ Q (.ref σ₁.length) (σ₁ ++ [.list vs])) σ) (ns : noStar es = true) : EvOk T d sc ρ X (.List es pos) Q σ := by
  intro env A fs F ι s hsc I
  refine wpAny_List ?_
  rw [starEach_eq ns]
  refine wpAny_mono (h env A fs F ι s hsc I) (fun xs s₁ p => ?_) fun _ _ p => p
  obtain ⟨vs, σ₁, ι₁, ⟨hl, q⟩, rv, rp, ex, g, o⟩ := p
  exact ⟨by rw [rv.length]; exact hl, ((I.ext ex rp g o).st.newList (items := xs.toArray) (by simpa using rv) q (t := s₁.toks)).trans ex⟩
end

end Mine

namespace Mine
open PySem PySem.Calls PyProof.Rows PySem.SeqAt

noncomputable def sm63 (k : Int) : Prop := -(2 ^ 63) ≤ k ∧ k < 2 ^ 63

/-- o[i] -/
noncomputable def itemVC (o i : V) (Q : QE) (σ : Hp) : Prop :=
  match o, i with
  | .tup vs, .int k => ∃ j v, seqIndex? k vs.length = some j ∧ vs[j]? = some v ∧ sm63 k ∧ Q v σ
  | .ref l, .int k => ∃ vs j v, σ[l]? = some (.list vs) ∧ seqIndex? k vs.length = some j ∧ vs[j]? = some v ∧ sm63 k ∧ Q v σ
  | .str s, .int k => ∃ c, (seqIndex? k s.length).bind (s.cps[·]?) = some c ∧ sm63 k ∧ Q (.str ⟨#[c]⟩) σ
  | .scr xs, .int k => ∃ i, 0 ≤ k ∧ k < 2 ^ 63 ∧ xs[k.toNat]? = some i ∧ Q (.int i) σ
  | .ref l, .str x => ∃ kvs v, σ[l]? = some (.sdict kvs) ∧ (kvs.find? fun kv => kv.1 = x).map (·.2) = some v ∧ Q v σ
  | _, _ => False

noncomputable def notSlice : Expr → Bool
  | .Slice .. => false
  | _ => true
theorem subscripted_eq {slice : Expr} {o i : Value} (h : notSlice slice = true) : subscripted slice false o i = operate [o, i] (getItem o i) := by
  cases slice <;> first | rfl | cases h

section
variable {T : Tp} {d : Nat} {sc : Scope} {ρ : Loc} {X : QX} {Q : QE} {σ : Hp}

theorem seqIndex_inv {k : Int} {n j : Nat} (h : seqIndex? k n = some j) : (0 ≤ k ∧ j = k.toNat) ∨ (k < 0 ∧ -(n : Int) ≤ k ∧ j = (k + n).toNat) := by
  unfold seqIndex? at h
  by_cases hk : k < 0
  · right
    simp only [hk, if_true] at h
    split at h
    · rename_i hb
      simp only [Bool.and_eq_true, decide_eq_true_eq] at hb
      simp only [Option.some.injEq] at h
      exact ⟨hk, by (clear h hk; omega), h.symm⟩
    · cases h
  · left
    simp only [hk, if_false] at h
    split at h
    · simp only [Option.some.injEq] at h; exact ⟨by (clear h; omega), h.symm⟩
    · cases h

theorem item_ok {A : Around} {fs : List Env} {ι : Inj} {s : Shared} {o i : V} {x y : Value} {value slice : Expr} (S : St T A fs d ι σ s) (rx : VRel T ι s.heap o x) (ry : VRel T ι s.heap i y) (h : itemVC o i Q σ) (ns : notSlice slice = true) :
    wpAny (model T.prog T.w) A (subscriptTail value slice x y) (PostE T [] Q ι s.heap) (PostX T [] X ι s.heap) s := by
  unfold itemVC at h
  split at h
  · obtain ⟨j, v, e1, e2, e3, q⟩ := h
    obtain ⟨a, items, n, rfl, ht, hv⟩ := rx.tup_inv
    obtain ⟨t, rfl⟩ := ry.int_inv
    obtain ⟨z, hz, rz⟩ := hv.get e2
    have hl := hv.length
    simp only [Array.length_toList] at hl
    refine tail_any ⟨_, ht, rfl⟩ PySem.F.slot_tuple_getitem.lookup (P.getItem_tuple ht e3.1 e3.2 (by rw [hl]; exact e1) (by simpa using hz) (S.post0 q rz)) (subscripted_eq ns)
  · obtain ⟨vs, j, v, e0, e1, e2, e3, q⟩ := h
    obtain ⟨a, d', rfl, hl⟩ := rx.ref_inv
    obtain ⟨t, rfl⟩ := ry.int_inv
    obtain ⟨items, n, hL, hv⟩ := S.rep.list_at e0 hl
    obtain ⟨z, hz, rz⟩ := hv.get e2
    have hln := hv.length
    simp only [Array.length_toList] at hln
    refine tail_any ⟨_, hL, rfl⟩ PySem.F.slot_list_getitem.lookup ?_ (subscripted_eq ns)
    rcases seqIndex_inv e1 with ⟨k0, rfl⟩ | ⟨k0, k1, rfl⟩
    · exact wpAny_getItem_list hL.isList k0 e3.2 (by simpa using hz) (S.post0 q rz)
    · exact wpAny_getItem_list_neg hL.isList k0 (by rw [hln]; exact k1) e3.1 (by rw [hln]; simpa using hz) (S.post0 q rz)
  · obtain ⟨c, e1, e3, q⟩ := h
    obtain ⟨t, rfl⟩ := rx.str_inv
    obtain ⟨u, rfl⟩ := ry.int_inv
    refine tail_any (T := "str") rfl PySem.F.slot_str_getitem.lookup (PyProof.Rows.getItem_str ?_ e1 (S.post q .str_mk _)) (subscripted_eq ns)
    obtain ⟨a, b⟩ := e3
    simp only [Bool.or_eq_false_iff, decide_eq_false_iff_not]
    constructor <;> (clear e1 q; omega)
  · obtain ⟨i, k0, k1, e1, q⟩ := h
    unfold VRel at rx
    obtain ⟨a, ob, items, n, rfl, ho, hc, hd, l, hl, rfl⟩ := rx
    obtain ⟨t, rfl⟩ := ry.int_inv
    have ho' := S.rep.base _ _ ho
    refine tail_any ⟨_, ho', hc⟩ PySem.F.slot_list_getitem.lookup ?_ (subscripted_eq ns)
    rw [List.getElem?_map] at e1
    obtain ⟨p, hp, rfl⟩ := Option.map_eq_some_iff.mp e1
    refine wpAny_getItem_list (x := .int p.1 p.2) ⟨_, ho', hc, n, hd⟩ k0 k1 ?_ (S.post0 q .int_mk)
    rw [← Array.getElem?_toList, hl, List.getElem?_map, hp]; rfl
  · obtain ⟨kvs, v, e0, e1, q⟩ := h
    obtain ⟨a, d', rfl, hl⟩ := rx.ref_inv
    obtain ⟨t, rfl⟩ := ry.str_inv
    obtain ⟨rvs, hd, hv, ns'⟩ := S.rep.sdict_at e0 hl
    rename_i l0 k
    clear ns'
    have r := hv.lookup k
    rw [e1] at r
    cases hm : valueAt rvs k with
    | none => rw [hm] at r; exact r.elim
    | some z =>
      rw [hm] at r
      exact tail_any hd.mapOf.typeIs PySem.F.slot_dict_getitem.lookup (wpAny_getItem_of (knd := strKind T.prog T.w) (k := k) (by simp [PySem.strKind, Value.isStrOf]) hd.mapOf hm (S.post q r _)) (subscripted_eq ns)
  · exact h.elim

theorem EvOk.item {value slice : Expr} {pos : Pos} (h : EvOk T d sc ρ X value (fun o σ₁ => EvOk T d sc ρ X slice (fun i σ₂ => itemVC o i Q σ₂) σ₁) σ) (ns : notSlice slice = true) : EvOk T d sc ρ X (.Subscript value slice pos) Q σ := by
  intro env A fs F ι s hsc I
  refine Subscript_ (wpAny_mono (h env A fs F ι s hsc I) (fun x s₁ p => ?_) fun _ _ p => p)
  obtain ⟨v, σ₁, ι₁, q, rv, rp, ex, g, o⟩ := p
  have I₁ := I.ext ex rp g o
  refine wpAny_mono (q env A fs F ι₁ s₁ hsc I₁) (fun y s₂ p => ?_) fun _ _ p => p.trans ex
  obtain ⟨v₂, σ₂, ι₂, q₂, rv₂, rp₂, ex₂, g₂, o₂⟩ := p
  have I₂ := I₁.ext ex₂ rp₂ g₂ o₂
  exact wpAny_mono (item_ok I₂.st (rv.mono ex₂.mono) rv₂ q₂ ns) (fun _ _ p => p.trans (ex.trans ex₂)) fun _ _ p => p.trans (ex.trans ex₂)

/-- f(..), f by its name -/
noncomputable def callable : V → Bool
  | .bi _ | .type _ => true
  | _ => false
/-- what a value that is called is kept by -/
noncomputable def KeepsIn (T : Tp) (f : V) : Prop := callable f = true ∨ ∀ v, (∃ x, f = .glob x ∧ T.g x = some v) ∨ (∃ c x, f = .mth c x ∧ T.m c x = some v) → PySem.W.keepIn T.K v = true

theorem keeps_any {f : V} {fv : Value} {ι : Inj} {h : Heap} {M : Model} (hk : KeepsIn T f) (r : VRel T ι h f fv) (hc : callable f = true ∨ (∃ x, f = .glob x) ∨ (∃ c x, f = .mth c x)) :
    ∀ h', T.K.In h' → ∃ k, (k = Keeper.frame ∨ k = Keeper.machine ∨ k = Keeper.boundFrame) ∧ PySem.W.Looks M h' (keeperOf fv) k := by
  intro h' X'
  have triv : (∀ a, fv ≠ .ref a) → ∃ k, (k = Keeper.frame ∨ k = Keeper.machine ∨ k = Keeper.boundFrame) ∧ PySem.W.Looks M h' (keeperOf fv) k := fun ne =>
    ⟨.machine, .inr (.inl rfl), PySem.W.Looks.of_pure (by cases fv <;> first | rfl | exact absurd rfl (ne _))⟩
  have key : PySem.W.keepIn T.K fv = true → ∃ k, (k = Keeper.frame ∨ k = Keeper.machine ∨ k = Keeper.boundFrame) ∧ PySem.W.Looks M h' (keeperOf fv) k := fun e => PySem.W.keeps_K e h' X'
  rcases hc with hc | ⟨x, rfl⟩ | ⟨c, x, rfl⟩
  · cases f <;> first | (cases hc; done) | skip
    · unfold VRel at r; subst r; exact triv fun a e => by cases e
    · unfold VRel at r; subst r; exact triv fun a e => by cases e
  · unfold VRel at r
    rcases hk with hk | hk
    · cases hk
    · exact key (hk fv (.inl ⟨x, rfl, r⟩))
  · unfold VRel at r
    rcases hk with hk | hk
    · cases hk
    · exact key (hk fv (.inr ⟨c, x, rfl, r⟩))

theorem evalArgs_list {M : Model} {A : Around} {E : Value → Shared → Prop} {s : Shared} {f : Value} {env : Env} {es : List Expr} {Q : Args → Shared → Prop}
    (h : wpAny M A (spliced (es.map fun e => (false, eval e env))) (fun vs s' => Q ⟨vs, []⟩ s') E s) : wpAny M A (evalArgs f true (es.map fun e => (false, eval e env)) []) Q E s := by
  cases es with
  | nil =>
    unfold evalArgs
    show wpAny M A (spliced [] >>= _) Q E s
    refine wpAny_bind (wpAny_mono h (fun vs s' h' => ?_) fun _ _ x => x)
    refine wpAny_holding ?_
    exact wpAny_bind (wpAny_pure (wpAny_bind (wpAny_pure (wpAny_pure h'))))
  | cons e r => exact evalArgs_plain h

theorem EvOk.call {x : Str} {np pos : Pos} {args : List Expr} (TO : TopOk T) (ns : noStar args = true)
    (h : EvOk T d sc ρ X (.Name x np) (fun f σ₁ => (callable f = true ∨ (∃ x, f = .glob x) ∨ (∃ c x, f = .mth c x)) ∧ KeepsIn T f ∧ EvsOk T d sc ρ X args (fun vs σ₂ => CallOk T d X f vs Q σ₂) σ₁) σ) :
    EvOk T d sc ρ X (.Call (.Name x np) args [] pos) Q σ := by
  intro env A fs F ι s hsc I
  rw [arm_eval_Call_Name']
  refine wpAny_bind (wpAny_mono (h env A fs F ι s hsc I) (fun fv s₁ p => ?_) fun _ _ p => p)
  obtain ⟨f, σ₁, ι₁, ⟨hc, hk, q⟩, rv, rp, ex, g, o⟩ := p
  have I₁ := I.ext ex rp g o
  rw [starEach_eq ns]
  refine PySem.W.callWith_of (P := T.K.In) (by rw [show backToKw pos (keywordEach [] env) = [] from rfl]; simp) (keeps_any hk rv hc) (evalArgs_list (wpAny_mono (q env A fs F ι₁ s₁ hsc I₁) (fun xs s₂ p => ?_) fun _ _ p => p.trans ex))
  obtain ⟨vs, σ₂, ι₂, q₂, rvs, rp₂, ex₂, g₂, o₂⟩ := p
  have I₂ := I₁.ext ex₂ rp₂ g₂ o₂
  refine ⟨TO.X0.keeps I₂.rep.base, ?_⟩
  exact wpAny_mono (q₂ A fs ι₂ s₂ fv xs I₂.st (rv.mono ex₂.mono) rvs) (fun _ _ p => p.trans (ex.trans ex₂)) fun _ _ p => p.trans (ex.trans ex₂)
end

end Mine

namespace Mine
open PySem PySem.Calls PyProof.Rows PySem.SeqAt

/-- what noting an exception ea that was made behind lo may turn -/
structure Touch (S : List Addr) (lo : Nat) (ea : Addr) (h h' : Heap) : Prop where
  size : h.objs.size ≤ h'.objs.size
  cls : ∀ a o, h.get? a = some o → ∃ o', h'.get? a = some o' ∧ o'.cls = o.cls
  keep : ∀ a o, h.get? a = some o → a ≠ ea → (a < lo ∨ o.cls ≠ .type "traceback") → a ∉ S → h'.get? a = some o
  frm : ∀ a o, h.get? a = some o → a ≠ ea → (a < lo ∨ o.cls ≠ .type "traceback") → ∃ sl, h'.get? a = some { o with slots := sl }

theorem Touch.refl {S lo ea} (h : Heap) : Touch S lo ea h h := ⟨Nat.le_refl _, fun _ o e => ⟨o, e, rfl⟩, fun _ _ e _ _ _ => e, fun _ o e _ _ => ⟨o.slots, e⟩⟩
theorem Touch.trans {S lo ea} {h h₁ h₂ : Heap} (x : Touch S lo ea h h₁) (y : Touch S lo ea h₁ h₂) : Touch S lo ea h h₂ where
  size := Nat.le_trans x.size y.size
  cls := fun a o e => let ⟨o₁, e₁, c₁⟩ := x.cls a o e; let ⟨o₂, e₂, c₂⟩ := y.cls a o₁ e₁; ⟨o₂, e₂, c₂.trans c₁⟩
  keep := fun a o e n c s => y.keep a o (x.keep a o e n c s) n c s
  frm := fun a o e n c => let ⟨_, e₁⟩ := x.frm a o e n c; let ⟨sl, e₂⟩ := y.frm a _ e₁ n c; ⟨sl, e₂⟩
theorem Touch.of_slots {S lo ea} {h h' : Heap} (x : Heap.SlotsOnly S h h') : Touch S lo ea h h' where
  size := Nat.le_of_eq x.1.symm
  cls := fun a o e => let ⟨_, e₁⟩ := x.2.2 a o e; ⟨_, e₁, rfl⟩
  keep := fun a o e _ _ s => (x.2.1 a s).trans e
  frm := fun a o e _ _ => x.2.2 a o e
theorem Touch.of_push {S lo ea} (h : Heap) (o : Obj) : Touch S lo ea h (h.push o) :=
  ⟨by rw [Heap.size_push]; omega, fun _ o e => ⟨o, Heap.get?_push_of_some _ e, rfl⟩, fun _ _ e _ _ _ => Heap.get?_push_of_some _ e, fun _ o e _ _ => ⟨o.slots, Heap.get?_push_of_some _ e⟩⟩
theorem Touch.of_set {S} {lo : Nat} {ea : Addr} {h : Heap} {a : Addr} {o : Obj} {vs : Array Value} (ho : h.get? a = some o) (hd : o.data = .fields vs) (f : Array Value → Array Value) (ha : a = ea ∨ (lo ≤ a ∧ o.cls = .type "traceback")) :
    Touch S lo ea h (h.update a (Obj.mapFields f)) := by
  have hself := Heap.get?_update_self (Obj.mapFields f) ho (Obj.isFreed_of_fields (Obj.data_mapFields hd f))
  have ne : ∀ b x, h.get? b = some x → b ≠ ea → (b < lo ∨ x.cls ≠ .type "traceback") → b ≠ a := fun b x hb n c q => by
    subst q
    rcases ha with ha | ⟨ha, hc⟩
    · exact n ha
    · rw [ho] at hb; cases hb
      rcases c with c | c
      · exact absurd c (Nat.not_lt.mpr ha)
      · exact c hc
  refine ⟨Nat.le_of_eq (Heap.size_after_update ..).symm, fun b x hb => ?_, fun b x hb n c _ => ?_, fun b x hb n c => ⟨x.slots, ?_⟩⟩
  · by_cases q : b = a
    · subst q; rw [ho] at hb; cases hb; exact ⟨_, hself, Obj.cls_mapFields _ _⟩
    · exact ⟨x, (Heap.get?_update_other h _ (Ne.symm q)).trans hb, rfl⟩
  · exact (Heap.get?_update_other h _ (Ne.symm (ne b x hb n c))).trans hb
  · exact (Heap.get?_update_other h _ (Ne.symm (ne b x hb n c))).trans hb

noncomputable def frs (fs : List Env) : List Addr := fs.filterMap (·.frame)

section
variable {T : Tp} {A : Around} {fs : List Env} {d : Nat} {ι : Inj} {σ : Hp} {s : Shared} {F : List Addr} {env : Env} {ρ : Loc} {lo : Nat} {ea : Addr} {c : Str}

theorem AOk.mem {h : Heap} (x : AOk T A fs d ι h) {a : Addr} (ha : a ∈ frs fs) : a ∉ own ι ∧ T.b0.objs.size ≤ a ∧ ∃ o es ep, h.get? a = some o ∧ o.cls = .type "frame" ∧ o.data = .dict es ep := by
  obtain ⟨e, he, hf⟩ := List.mem_filterMap.mp ha
  obtain ⟨_, L, o, es, ep, f, n, b, g, c, dd⟩ := x.funs e he
  rw [hf] at f; cases f
  exact ⟨n, b, o, es, ep, g, c, dd⟩

theorem Rep.own_cls {h : Heap} (r : Rep T ι σ h) {a : Addr} (ha : a ∈ own ι) {o : Obj} (ho : h.get? a = some o) : o.cls ≠ .type "traceback" ∧ o.cls ≠ .type "frame" := by
  obtain ⟨p, hp, e⟩ := mem_own.mp ha
  obtain ⟨l, hl, rfl⟩ := List.getElem_of_mem hp
  have hl' : l < σ.length := by rw [← r.len]; exact hl
  have := r.objs l σ[l] ι[l] (List.getElem?_eq_getElem hl') (List.getElem?_eq_getElem hl)
  cases hm : σ[l] <;> rw [hm] at this
  · obtain ⟨e1, _, ⟨_, x⟩, _⟩ := this
    have : h.get? a = h.get? (ι[l]).1 := by rcases e with rfl | rfl <;> simp [e1]
    rw [this, x] at ho; cases ho; simp
  · obtain ⟨e1, _, ⟨o', _, _, x, ex, _⟩, _⟩ := this
    have : h.get? a = h.get? (ι[l]).1 := by rcases e with rfl | rfl <;> simp [e1]
    rw [this, x] at ho; cases ho; rw [ex.1]; simp
  · exact this.elim
  · obtain ⟨C, m, sl, _, x, ⟨o', _, _, y, yc, _⟩, _⟩ := this
    rcases e with rfl | rfl
    · rw [x] at ho; cases ho; simp
    · rw [y] at ho; cases ho; rw [yc]; simp

theorem Touch.mono {S : List Addr} {h h' : Heap} (t : Touch S lo ea h h') (hS : ∀ a ∈ S, ∃ o, h.get? a = some o ∧ o.cls = .type "frame") (he : ∃ o C, h.get? ea = some o ∧ o.cls = .ref C) (ι : Inj) : Mono ι h ι h' where
  pre := ⟨[], by simp⟩
  cls := fun a o e _ => t.cls a o e
  frz := fun a o ho hf => t.keep a o ho (fun q => by
      obtain ⟨o', C, g, gc⟩ := he
      subst q; rw [ho] at g; cases g
      simp [frozen, gc] at hf) (.inr fun q => by simp [frozen, q] at hf) fun q => by
      obtain ⟨o', g, gc⟩ := hS a q
      rw [ho] at g; cases g
      simp [frozen, gc] at hf

theorem Rep.touch {S : List Addr} {h h' : Heap} (r : Rep T ι σ h) (t : Touch S lo ea h h') (hS : ∀ a ∈ S, a ∉ own ι ∧ T.b0.objs.size ≤ a ∧ ∃ o, h.get? a = some o ∧ o.cls = .type "frame") (he : ∃ o C, h.get? ea = some o ∧ o.cls = .ref C)
    (hn : ea ∉ own ι) (hl : T.b0.objs.size ≤ lo) (hle : lo ≤ ea) : Rep T ι σ h' :=
  r.keeps (t.mono (fun a ha => (hS a ha).2.2) he ι) t.size
    (fun a o e => t.keep a o (r.base a o e) (fun q => by
      have := Heap.lt_size e; rw [q] at this
      exact absurd (Nat.le_trans hl hle) (Nat.not_le.mpr this)) (.inl (Nat.lt_of_lt_of_le (Heap.lt_size e) hl)) fun q => absurd (hS a q).2.1 (Nat.not_le.mpr (Heap.lt_size e)))
    fun a ha o e => t.keep a o e (fun q => hn (q ▸ ha)) (.inr (r.own_cls ha e).1) fun q => (hS a q).1 ha

theorem Ext.touch {S : List Addr} {ι' : Inj} {h₀ h h' : Heap} (x : Ext T F ι h₀ ι' h) (t : Touch S h₀.objs.size ea h h') (hS : ∀ a ∈ S, ∃ o, h.get? a = some o ∧ o.cls = .type "frame") (hle : h₀.objs.size ≤ ea) : Ext T F ι h₀ ι' h' where
  pre := x.pre
  size := Nat.le_trans x.size t.size
  cls := fun a o e i => let ⟨o₁, e₁, c₁⟩ := x.cls a o e i; let ⟨o₂, e₂, c₂⟩ := t.cls a o₁ e₁; ⟨o₂, e₂, c₂.trans c₁⟩
  frz := fun a o e f => t.keep a o (x.frz a o e f) (fun q => absurd (Heap.lt_size e) (Nat.not_lt.mpr (q ▸ hle))) (.inl (Heap.lt_size e)) fun q => by
    obtain ⟨o', g, gc⟩ := hS a q
    rw [x.frz a o e f] at g; cases g
    simp [frozen, gc] at f
  keep := fun a o e n f c => t.keep a o (x.keep a o e n f c) (fun q => absurd (Heap.lt_size e) (Nat.not_lt.mpr (q ▸ hle))) (.inl (Heap.lt_size e)) fun q => by
    obtain ⟨o', g, gc⟩ := hS a q
    rw [x.keep a o e n f c] at g; cases g
    exact c gc
  frm := fun a o e n f => by
    obtain ⟨sl, e₁⟩ := x.frm a o e n f
    obtain ⟨sl', e₂⟩ := t.frm a _ e₁ (fun q => absurd (Heap.lt_size e) (Nat.not_lt.mpr (q ▸ hle))) (.inl (Heap.lt_size e))
    exact ⟨sl', e₂⟩

theorem AOk.touch {S : List Addr} {h h' : Heap} (x : AOk T A fs d ι h) (hT : T.hd = false) (t : Touch S lo ea h h') (he : ∃ o vs, h.get? ea = some o ∧ o.data = .fields vs) : AOk T A fs d ι h' where
  frames := x.frames
  funs := fun e hm => by
    obtain ⟨k, L, o, es, ep, f, n, b, g, c, dd⟩ := x.funs e hm
    obtain ⟨sl, e₁⟩ := t.frm L o g (fun q => by
      obtain ⟨o', vs, g', d'⟩ := he
      rw [← q, g] at g'; cases g'; rw [dd] at d'; cases d') (.inr (by rw [c]; simp))
    exact ⟨k, L, _, es, ep, f, n, b, e₁, c, dd⟩
  depth := x.depth
  units := x.units
  hd := x.hd
  hx := .none (x.hd hT)

theorem Frm.touch {S : List Addr} {h h' : Heap} (x : Frm T env F ρ ι h) (t : Touch S lo ea h h') (he : ∃ o C vs, h.get? ea = some o ∧ o.cls = .ref C ∧ o.data = .fields vs) (hS : ∀ a ∈ S, ∃ o, h.get? a = some o ∧ o.cls = .type "frame") : Frm T env F ρ ι h' := by
  obtain ⟨oe, C, vs, e1, e2, e3⟩ := he
  have m := t.mono hS ⟨oe, C, e1, e2⟩ ι
  refine ⟨x.kind, x.glb, x.blt, ?_, fun y hy => ?_, x.inj, x.loc, x.cin, x.apart, fun a ha => ?_⟩
  · obtain ⟨cl, mm, hc, hn, r⟩ := x.ns
    refine ⟨cl, mm, hc, hn.of_slots fun o ho => ?_, fun y hy => (r y hy).mono m⟩
    obtain ⟨o', es, ep, g, gc, _, gd, _⟩ := hn
    rw [ho] at g; cases g
    refine t.frm _ o ho (fun q => ?_) (.inr ?_)
    · rw [q, e1] at ho; cases ho; rw [e3] at gd; cases gd
    · rw [gc]; rcases hc.1 with rfl | rfl <;> simp
  · obtain ⟨cc, o, v, f1, f2, f3, f4, f5, f6⟩ := x.cells y hy
    refine ⟨cc, o, v, f1, t.keep cc o f2 (fun q => ?_) (.inr (by rw [f3]; simp)) (fun q => ?_), f3, f4, f5.mono m, f6⟩
    · rw [q, e1] at f2; cases f2; rw [e3] at f4; cases f4
    · obtain ⟨o', g, gc⟩ := hS cc q
      rw [f2] at g; cases g; rw [f3] at gc; simp at gc
  · obtain ⟨o, ho, hf, hi⟩ := x.there a ha
    obtain ⟨o', ho', hc⟩ := t.cls a o ho
    exact ⟨o', ho', by simpa [frozen, hc] using hf, (itr_eq hc).trans hi⟩

theorem Fly.hd {h : Heap} (x : Fly T lo ea c h) : T.hd = false := by obtain ⟨_, _, _, _, a, _⟩ := x; exact a.1
theorem Fly.there {h : Heap} (x : Fly T lo ea c h) : ∃ o C vs, h.get? ea = some o ∧ o.cls = .ref C ∧ o.data = .fields vs := by obtain ⟨C, oe, vs, _, _, _, d, e, f, _⟩ := x; exact ⟨oe, C, vs, d, e, f⟩

theorem Inv.touch {h' : Heap} (I : Inv T A fs d env F ρ ι σ s) (t : Touch (frs fs) lo ea s.heap h') (f : Fly T lo ea c s.heap) (hn : ea ∉ own ι) (hl : T.b0.objs.size ≤ lo) (hle : lo ≤ ea) : Inv T A fs d env F ρ ι σ { s with heap := h' } := by
  have hS : ∀ a ∈ frs fs, a ∉ own ι ∧ T.b0.objs.size ≤ a ∧ ∃ o, s.heap.get? a = some o ∧ o.cls = .type "frame" := fun a ha => let ⟨a1, a2, o, _, _, a3, a4, _⟩ := I.aok.mem ha; ⟨a1, a2, o, a3, a4⟩
  obtain ⟨o, C, vs, e1, e2, e3⟩ := f.there
  exact ⟨I.rep.touch t hS ⟨o, C, e1, e2⟩ hn hl hle, I.aok.touch f.hd t ⟨o, vs, e1, e3⟩, I.frm.touch t ⟨o, C, vs, e1, e2, e3⟩ fun a ha => (hS a ha).2.2, I.top, I.gens, I.os⟩

theorem AOk.funFrames {h : Heap} (x : AOk T A fs d ι h) : h.FunFrames T.b0 fs := by
  have : ∀ l : List Env, (∀ e ∈ l, e ∈ fs) → h.FunFrames T.b0 l := by
    intro l
    induction l with
    | nil => intro _; trivial
    | cons e r ih =>
      intro hl
      obtain ⟨k, L, o, es, ep, f, n, b, g, c, dd⟩ := x.funs e (hl e List.mem_cons_self)
      exact ⟨by rw [k]; decide, ⟨L, o, f, Heap.get?_none_of_le b, g, fun vs q => by rw [dd] at q; cases q⟩, ih fun y hy => hl y (List.mem_cons_of_mem _ hy)⟩
  exact this fs fun _ h => h

theorem frameOf_top {M : Model} {E : Value → Shared → Prop} {e : Env} {r : List Env} {L : Addr} {base : Heap} {Q : Value → Shared → Prop} (hfr : A.frames = some (e :: r)) (hl : s.heap.FunFrames base (e :: r)) (hf : e.frame = some L) (hv : env.frame = some L)
    (h : ∀ h', Heap.SlotsOnly (frs (e :: r)) s.heap h' → Q (.ref L) { s with heap := h' }) : wpAny M A (PySem.frameOf env) Q E s := by
  unfold PySem.frameOf
  refine wpAny_bind (wpAny_frameEnvs hfr ?_)
  have hdw : ((e :: r).dropWhile fun x => x.frame != env.frame) = e :: r := by simp [List.dropWhile, hf, hv]
  rw [hdw]
  unfold frameObject
  refine wpAny_bind (wpAny_bind (wpAny_readyFrames_fun hl fun h₁ hs₁ => wpAny_pure ?_))
  rw [hf]
  exact wpAny_pure (h h₁ hs₁)

theorem entry_ok {M : Model} {E : Value → Shared → Prop} {e : Env} {r : List Env} {L : Addr} {base : Heap} {head : Value} {hadNext : Bool} {Q : Unit → Shared → Prop} {oe : Obj} {vs : Array Value} (hfr : A.frames = some (e :: r)) (hl : s.heap.FunFrames base (e :: r))
    (hf : e.frame = some L) (hv : env.frame = some L) (he : s.heap.get? ea = some oe) (hd : oe.data = .fields vs) (hsz : 1 < vs.size) (hlo : lo ≤ s.heap.objs.size)
    (h : ∀ h' tb, Touch (frs (e :: r)) lo ea s.heap h' → (∃ oe', h'.get? ea = some oe' ∧ oe'.cls = oe.cls ∧ oe'.data = .fields (vs.setIfInBounds 1 (.ref tb))) → TbAt lo ea h' (.ref tb) → Q () { s with heap := h' }) :
    wpAny M A (do let a ← PySem.frameOf env; let pl ← entryPlaceOf L hadNext; let b ← EntryCells.newEntry head a .none (rawInt L) .none pl; setField (.ref ea) 1 b) Q E s := by
  have hene : ea ∉ frs (e :: r) := fun hm => by
    obtain ⟨_, o, ho, hnf⟩ := hl.mem hm
    rw [he] at ho; injection ho with ho; subst ho; exact hnf vs hd
  refine wpAny_bind (frameOf_top hfr hl hf hv fun h₁ hs₁ => ?_)
  refine wpAny_bind (wpAny_entryPlaceOf fun pl hpl => ?_)
  unfold EntryCells.newEntry newFields
  refine wpAny_bind (wpAny_newObj_type ?_ (hpl.sizeOk5 _ _ _ _ _))
  have he₁ : h₁.get? ea = some oe := (hs₁.2.1 ea hene).trans he
  have he₂ := Heap.get?_push_of_some (h := h₁) { cls := .type "traceback", dict := none, data := .fields ([head, .ref L, .none, rawInt L, .none] ++ (if pl.isEmpty then List.replicate 6 Value.none else pl)).toArray } he₁
  refine wpAny_setField he₂ hd hsz ?_
  have hTe : h₁.objs.size ≠ ea := Nat.ne_of_gt (Heap.lt_size he₁)
  have hd₃ := Obj.data_mapFields hd (·.setIfInBounds 1 (Value.ref h₁.objs.size))
  have he₃ := Heap.get?_update_self (Obj.mapFields (·.setIfInBounds 1 (Value.ref h₁.objs.size))) he₂ (Obj.isFreed_of_fields hd₃)
  have hT₃ := (Heap.get?_update_other (h₁.push { cls := .type "traceback", dict := none, data := .fields ([head, .ref L, .none, rawInt L, .none] ++ (if pl.isEmpty then List.replicate 6 Value.none else pl)).toArray })
    (Obj.mapFields (·.setIfInBounds 1 (Value.ref h₁.objs.size))) (Ne.symm hTe)).trans (Heap.get?_push_size h₁ rfl)
  refine h _ h₁.objs.size (((Touch.of_slots hs₁).trans (.of_push ..)).trans (.of_set he₂ hd _ (.inl rfl))) ⟨_, he₃, Obj.cls_mapFields _ _, hd₃⟩ ⟨_, _, _, rfl, ?_, hTe, hT₃, rfl, rfl, ?_⟩
  · rw [hs₁.1]; exact hlo
  · simp only [List.size_toArray, List.length_append, List.length_cons, List.length_nil]; (clear hsz hlo h he₂ hTe hd₃ he₃ hT₃; omega)

theorem note_ok {M : Model} {E : Value → Shared → Prop} {Q : Unit → Shared → Prop} (I : Inv T A fs d env F ρ ι σ s) (f : Fly T lo ea c s.heap) (hlo : lo ≤ s.heap.objs.size)
    (h : ∀ h', Touch (frs fs) lo ea s.heap h' → FlyT T lo ea c h' → Q () { s with heap := h' }) : wpAny M A (noteFrame (.ref ea) env) Q E s := by
  obtain ⟨e, r, L, rfl, hf, hv⟩ := I.top
  obtain ⟨C, oe, vs, v, f1, f2, f3, f4, f5, f6, f7, f8, f9⟩ := f
  unfold noteFrame
  simp only [hv]
  refine wpAny_bind (wpAny_field f3 f5 f8 ?_)
  have fin : ∀ (s' : Shared) (head : Value) (hn : Bool), s'.heap.get? ea = some oe → s'.heap.FunFrames T.b0 (e :: r) → lo ≤ s'.heap.objs.size → (∀ h', Touch (frs (e :: r)) lo ea s'.heap h' → FlyT T lo ea c h' → Q () { s' with heap := h' }) →
      wpAny M A (do let a ← PySem.frameOf env; let pl ← entryPlaceOf L hn; let b ← EntryCells.newEntry head a .none (rawInt L) .none pl; setField (.ref ea) 1 b) Q E s' := fun s' head hn g1 g2 g3 k =>
    entry_ok I.aok.frames g2 hf hv g1 f5 (by (clear f7 f8 g3 f2 hlo; omega)) g3 fun h' tb t o tb' => k h' t (by
      obtain ⟨oe', o1, o2, o3⟩ := o
      refine ⟨C, oe', _, .ref tb, f1, f2, o1, o2.trans f4, o3, by simpa using f6, ?_, ?_, tb'⟩
      · rw [Array.getElem?_setIfInBounds_ne (by decide)]; exact f7
      · rw [Array.getElem?_setIfInBounds_self_of_lt (by (clear f7 f8 g3 o3 f2 hlo; omega))])
  rcases f9 with rfl | ⟨tb, ot, ts, rfl, t2, t3, t4, t5, t6, t7⟩
  · rw [if_neg (by decide)]
    exact fin s _ _ f3 I.aok.funFrames hlo h
  · rw [if_pos (show (Value.ref tb != Value.none) = true from by simp)]
    have t8 : ts[3]? = some ts[3] := Array.getElem?_eq_getElem t7
    refine wpAny_bind (wpAny_field t4 t6 t8 ?_)
    by_cases q : (ts[3] == rawInt L) = true
    · rw [if_pos q]
      exact wpAny_pure (h _ (.refl _) ⟨C, oe, vs, _, f1, f2, f3, f4, f5, f6, f7, f8, ⟨tb, ot, ts, rfl, t2, t3, t4, t5, t6, t7⟩⟩)
    · rw [if_neg q]
      refine wpAny_bind (wpAny_setField t4 t6 t7 ?_)
      have other : ∀ b, b ≠ tb → (s.heap.update tb (Obj.mapFields (·.setIfInBounds 3 Value.none))).get? b = s.heap.get? b := fun b hb => Heap.get?_update_other _ _ (Ne.symm hb)
      have tt : Touch (frs (e :: r)) lo ea s.heap (s.heap.update tb (Obj.mapFields (·.setIfInBounds 3 Value.none))) := .of_set t4 t6 _ (.inr ⟨t2, t5⟩)
      refine fin _ _ _ ((other ea (Ne.symm t3)).trans f3) (I.aok.touch f1.1 tt ⟨oe, vs, f3, f5⟩).funFrames ?_ fun h' t k => h h' (tt.trans t) k
      rw [Heap.size_after_update]; exact hlo

theorem flight_ok {M : Model} {E : Value → Shared → Prop} {Q : Unit → Shared → Prop} {fr : Option Addr} {S : List Addr} (f : FlyT T lo ea c s.heap)
    (h : ∀ h', Touch S lo ea s.heap h' → FlyT T lo ea c h' → Q () { s with heap := h' }) : wpAny M A (setFlight (.ref ea) fr) Q E s := by
  obtain ⟨C, oe, vs, v, f1, f2, f3, f4, f5, f6, f7, f8, tb, ot, ts, rfl, t2, t3, t4, t5, t6, t7⟩ := f
  unfold setFlight
  refine wpAny_bind (wpAny_field f3 f5 f8 ?_)
  rw [if_pos (show (Value.ref tb != Value.none) = true from by simp)]
  refine wpAny_setField t4 t6 t7 (h _ (.of_set t4 t6 _ (.inr ⟨t2, t5⟩)) ⟨C, oe, vs, _, f1, f2, (Heap.get?_update_other _ _ t3).trans f3, f4, f5, f6, f7, f8, tb, _, _, rfl, t2, t3, Heap.get?_update_self _ t4 (Obj.isFreed_of_fields (Obj.data_mapFields t6 _)), (Obj.cls_mapFields _ _).trans t5, Obj.data_mapFields t6 _, by simpa using t7⟩)
end

end Mine

set_option genSizeOf false
namespace Mine
open PySem PySem.Calls PyProof.Rows PySem.SeqAt

inductive Fl where
  | next | brk | cont
  | ret (v : V)
noncomputable def FlRel (T : Tp) (ι : Inj) (h : Heap) : Fl → Flow → Prop
  | .next, .next => True
  | .brk, .brk => True
  | .cont, .cont => True
  | .ret v, .ret x => VRel T ι h v x
  | _, _ => False

noncomputable abbrev QS := Fl → Loc → Hp → Prop
noncomputable abbrev XS := Str → Hp → Prop
inductive PostS (T : Tp) (A : Around) (fs : List Env) (d : Nat) (env : Env) (F : List Addr) (Q : QS) (ι : Inj) (h : Heap) (f : Flow) (s' : Shared) : Prop where
  | mk (fl : Fl) (ρ' : Loc) (σ' : Hp) (ι' : Inj) (h0 : Q fl ρ' σ') (h1 : FlRel T ι' s'.heap fl f) (h2 : Inv T A fs d env F ρ' ι' σ' s') (h3 : Ext T F ι h ι' s'.heap) : PostS T A fs d env F Q ι h f s'
inductive PostSX (T : Tp) (A : Around) (fs : List Env) (d : Nat) (env : Env) (F : List Addr) (X : XS) (ι : Inj) (h : Heap) (x : Value) (s' : Shared) : Prop where
  | mk (ea : Addr) (c : Str) (ρ' : Loc) (σ' : Hp) (ι' : Inj) (h0 : x = .ref ea) (h1 : X c σ') (h2 : Fly T h.objs.size ea c s'.heap) (h3 : ea ∉ own ι') (h4 : Inv T A fs d env F ρ' ι' σ' s') (h5 : Ext T F ι h ι' s'.heap) : PostSX T A fs d env F X ι h x s'

/-- statements, at the mini level -/
noncomputable def ExOk (T : Tp) (d : Nat) (sc : Scope) (ρ : Loc) (X : XS) (ss : List Stmt) (Q : QS) (σ : Hp) : Prop :=
  ∀ env A fs F ι s, env.scope = sc → Inv T A fs d env F ρ ι σ s → wpAny (model T.prog T.w) A (execs ss env) (PostS T A fs d env F Q ι s.heap) (PostSX T A fs d env F X ι s.heap) s
noncomputable def StOk (T : Tp) (d : Nat) (sc : Scope) (ρ : Loc) (X : XS) (st : Stmt) (Q : QS) (σ : Hp) : Prop :=
  ∀ env A fs F ι s, env.scope = sc → Inv T A fs d env F ρ ι σ s → wpAny (model T.prog T.w) A (exec st env) (PostS T A fs d env F Q ι s.heap) (PostSX T A fs d env F X ι s.heap) s

section
variable {T : Tp} {A : Around} {fs : List Env} {d : Nat} {env : Env} {F : List Addr} {ι ι₁ : Inj} {h h₁ : Heap} {s s' : Shared} {ρ : Loc} {σ : Hp} {sc : Scope}

theorem PostS.trans {Q : QS} {f : Flow} (e : Ext T F ι h ι₁ h₁) (p : PostS T A fs d env F Q ι₁ h₁ f s') : PostS T A fs d env F Q ι h f s' :=
  by obtain ⟨fl, ρ', σ', ι', q, r, i, e'⟩ := p; exact ⟨fl, ρ', σ', ι', q, r, i, e.trans e'⟩
theorem PostSX.trans {X : XS} {x : Value} (e : Ext T F ι h ι₁ h₁) (p : PostSX T A fs d env F X ι₁ h₁ x s') : PostSX T A fs d env F X ι h x s' :=
  by obtain ⟨ea, c, ρ', σ', ι', a, b, f, n, i, e'⟩ := p; exact ⟨ea, c, ρ', σ', ι', a, b, f.lo e.size, n, i, e.trans e'⟩
theorem PostS.mono {Q Q' : QS} {f : Flow} (p : PostS T A fs d env F Q ι h f s') (k : ∀ fl ρ σ, Q fl ρ σ → Q' fl ρ σ) : PostS T A fs d env F Q' ι h f s' :=
  by obtain ⟨fl, ρ', σ', ι', q, r, i, e'⟩ := p; exact ⟨fl, ρ', σ', ι', k _ _ _ q, r, i, e'⟩
theorem PostSX.mono {X X' : XS} {x : Value} (p : PostSX T A fs d env F X ι h x s') (k : ∀ c σ, X c σ → X' c σ) : PostSX T A fs d env F X' ι h x s' :=
  by obtain ⟨ea, c, ρ', σ', ι', a, b, f, n, i, e'⟩ := p; exact ⟨ea, c, ρ', σ', ι', a, k _ _ b, f, n, i, e'⟩
theorem Ext.up (e : Ext T [] ι h ι₁ h₁) : Ext T F ι h ι₁ h₁ := e.weaken fun a ha => by simp at ha
/-- an expression's exception is the statement's -/
theorem PostX.sx {X : QX} {XX : XS} {x : Value} (I : Inv T A fs d env F ρ ι σ s) (p : PostX T [] X ι s.heap x s') (k : ∀ c σ, X c σ → XX c σ) : PostSX T A fs d env F XX ι s.heap x s' :=
  by obtain ⟨ea, c, σ', ι', a, b, f, n, rp, e', g, o⟩ := p; exact ⟨ea, c, ρ, σ', ι', a, k _ _ b, f, n, I.ext e' rp g o, e'.up⟩

theorem StOk.mono {X X' : XS} {st : Stmt} {Q Q' : QS} (x : StOk T d sc ρ X st Q σ) (k : ∀ fl ρ σ, Q fl ρ σ → Q' fl ρ σ) (kx : ∀ c σ, X c σ → X' c σ) : StOk T d sc ρ X' st Q' σ :=
  fun env A fs F ι s hsc I => wpAny_mono (x env A fs F ι s hsc I) (fun _ _ p => p.mono k) fun _ _ p => p.mono kx

theorem ExOk.nil {X : XS} {Q : QS} (q : Q .next ρ σ) : ExOk T d sc ρ X [] Q σ := fun env A fs F ι s _ I => wpAny_execs_nil ⟨.next, ρ, σ, ι, q, trivial, I, .refl ..⟩
theorem ExOk.cons {X : XS} {Q : QS} {st : Stmt} {r : List Stmt} (x : StOk T d sc ρ X st (fun fl ρ' σ' => match fl with | .next => ExOk T d sc ρ' X r Q σ' | fl => Q fl ρ' σ') σ) : ExOk T d sc ρ X (st :: r) Q σ := by
  intro env A fs F ι s hsc I
  refine wpAny_execs_cons (wpAny_mono (x env A fs F ι s hsc I) (fun f s₁ p => ?_) fun _ _ p => p)
  obtain ⟨fl, ρ', σ', ι', q, r, i, e⟩ := p
  cases fl <;> cases f <;> first | exact r.elim | skip
  · exact wpAny_mono (q env A fs F ι' s₁ hsc i) (fun _ _ p => p.trans e) fun _ _ p => p.trans e
  · exact ⟨_, ρ', σ', ι', q, r, i, e⟩
  · exact ⟨_, ρ', σ', ι', q, r, i, e⟩
  · exact ⟨_, ρ', σ', ι', q, r, i, e⟩

theorem StOk.pass {X : XS} {Q : QS} {pos} (q : Q .next ρ σ) : StOk T d sc ρ X (.Pass pos) Q σ := fun env A fs F ι s _ I => wpAny_Pass ⟨.next, ρ, σ, ι, q, trivial, I, .refl ..⟩
theorem StOk.brk {X : XS} {Q : QS} {pos} (q : Q .brk ρ σ) : StOk T d sc ρ X (.Break pos) Q σ := fun env A fs F ι s _ I => wpAny_Break ⟨.brk, ρ, σ, ι, q, trivial, I, .refl ..⟩
theorem StOk.cont {X : XS} {Q : QS} {pos} (q : Q .cont ρ σ) : StOk T d sc ρ X (.Continue pos) Q σ := fun env A fs F ι s _ I => wpAny_Continue ⟨.cont, ρ, σ, ι, q, trivial, I, .refl ..⟩
theorem StOk.retNone {X : XS} {Q : QS} {pos} (q : Q (.ret .none) ρ σ) : StOk T d sc ρ X (.Return none pos) Q σ := fun env A fs F ι s _ I => wpAny_Return_none ⟨.ret .none, ρ, σ, ι, q, VRel.none_mk (T := T) (ι := ι) (h := s.heap), I, .refl ..⟩
theorem StOk.ret {X : XS} {Q : QS} {e : Expr} {pos} (q : EvOk T d sc ρ X e (fun v σ' => Q (.ret v) ρ σ') σ) : StOk T d sc ρ X (.Return (some e) pos) Q σ := by
  intro env A fs F ι s hsc I
  refine wpAny_Return_some (wpAny_mono (q env A fs F ι s hsc I) (fun x s₁ p => ?_) fun _ _ p => p.sx I fun _ _ k => k)
  obtain ⟨v, σ₁, ι₁, q, rv, rp, ex, g, o⟩ := p
  exact ⟨.ret v, ρ, σ₁, ι₁, q, rv, I.ext ex rp g o, ex.up⟩

/-- the value of an expression is no comprehension -/
noncomputable def noComp : Expr → Bool
  | .ListComp .. | .SetComp .. | .DictComp .. => false
  | _ => true
theorem swaps_no {e : Expr} {t : Option Expr} {l : Nat} (h : noComp e = true) : swapsWith e t l env = pure false := by
  cases e <;> first | rfl | cases h
theorem Inv.inter (I : Inv T A fs d env F ρ ι σ s) : interactive env = false := by simp [interactive, I.frm.kind]

theorem StOk.expr {X : XS} {Q : QS} {e : Expr} {pos} (q : EvOk T d sc ρ X e (fun _ σ' => Q .next ρ σ') σ) (hc : noComp e = true) : StOk T d sc ρ X (.Expr e pos) Q σ := by
  intro env A fs F ι s hsc I
  refine wpAny_Expr_any (wpAny_mono (q env A fs F ι s hsc I) (fun x s₁ p => ?_) fun _ _ p => p.sx I fun _ _ k => k) I.inter (swaps_no hc)
  obtain ⟨v, σ₁, ι₁, q, rv, rp, ex, g, o⟩ := p
  exact ⟨.next, ρ, σ₁, ι₁, q, trivial, I.ext ex rp g o, ex.up⟩

theorem StOk.ite {X : XS} {Q : QS} {e : Expr} {b o : List Stmt} {pos} (q : TsOk T d sc ρ X e (fun t σ' => if t then ExOk T d sc ρ X b Q σ' else ExOk T d sc ρ X o Q σ') σ) : StOk T d sc ρ X (.If e b o pos) Q σ := by
  intro env A fs F ι s hsc I
  refine wpAny_If (wpAny_mono (q env A fs F ι s hsc I) (fun t s₁ p => ?_) fun _ _ p => p.sx I fun _ _ k => k)
  obtain ⟨σ₁, ι₁, q, rp, ex, g, o⟩ := p
  have I₁ := I.ext ex rp g o
  cases t
  · exact wpAny_mono (q env A fs F ι₁ s₁ hsc I₁) (fun _ _ p => p.trans ex.up) fun _ _ p => p.trans ex.up
  · exact wpAny_mono (q env A fs F ι₁ s₁ hsc I₁) (fun _ _ p => p.trans ex.up) fun _ _ p => p.trans ex.up

/-- dicts stay dicts -/
noncomputable def DStay (h h' : Heap) : Prop := ∀ a o es ep, h.get? a = some o → o.data = .dict es ep → ∃ o' es' ep', h'.get? a = some o' ∧ o'.data = .dict es' ep'
noncomputable def isStore (sc : Scope) (x : Str) : Bool := match sc.names.lookup x with
  | some .local | some .cell => true
  | _ => false

theorem storeCell {M : Model} {A : Around} {E : Value → Shared → Prop} {x : Str} {c : Addr} {o : Obj} {v₀ : Option Value} {y : Value} {Q : Unit → Shared → Prop} (hk : env.scope.kind = .function) (hl : env.kindOf x = some .cell) (hc : env.cells.lookup x = some c)
    (ho : s.heap.get? c = some o) (hd : o.data = .cell v₀) (k : ∀ h', h'.get? c = some { o with data := .cell (some y) } → Heap.SameBut c s.heap h' → Q () { s with heap := h' }) : wpAny M A (storeName env x y) Q E s := by
  unfold storeName
  simp only [hl, hk]
  refine wpAny_bind (wpAny_cellOf hc ?_)
  unfold cellSet
  refine wpAny_bind (wpAny_load ho ?_)
  rw [hd]
  exact wpAny_update ho (k _ (Heap.get?_update_self _ ho rfl) (Heap.SameBut.update ..))

theorem store_at {M : Model} {A : Around} {E : Value → Shared → Prop} {x : Str} {v : V} {y : Value} {Q : Unit → Shared → Prop} (R : Rep T ι σ s.heap) (H : Frm T env F ρ ι s.heap) (hk : isStore env.scope x = true) (r : VRel T ι s.heap v y)
    (k : ∀ h' t, Rep T ι σ h' → Frm T env F (upd ρ x (some v)) ι h' → Ext T F ι s.heap ι h' → DStay s.heap h' → (∃ a, Heap.SameBut a s.heap h' ∧ (a = env.locals ∨ (env.kindOf x = some .cell ∧ env.cells.lookup x = some a))) → Q () { s with heap := h', toks := t }) : wpAny M A (storeName env x y) Q E s := by
  unfold isStore at hk
  have kd : ∀ z, env.kindOf z = env.scope.names.lookup z := fun _ => rfl
  obtain ⟨c, m, hc, hn, hr⟩ := H.ns
  have common : ∀ a o o' h', a ∈ F → s.heap.get? a = some o → h'.get? a = some o' → o'.cls = o.cls → Heap.SameBut a s.heap h' → (∀ es ep, o.data = .dict es ep → ∃ es' ep', o'.data = .dict es' ep') →
      Rep T ι σ h' ∧ Ext T F ι s.heap ι h' ∧ DStay s.heap h' := fun a o o' h' ha ho ho' hcl hs hd => by
    obtain ⟨o₁, g1, g2, _⟩ := H.there a ha
    rw [ho] at g1; cases g1
    have e : Ext T F ι s.heap ι h' := .of_sameBut hs ho ho' hcl g2 (.inr ha)
    have ap := H.apart a ha
    refine ⟨R.keeps e.mono e.size (fun b z hz => (hs.2 b fun q => ?_).trans (R.base b z hz)) fun b hb z hz => (hs.2 b fun q => ap.1 (q ▸ hb)).trans hz, e, fun b z es ep hz hzd => ?_⟩
    · exact absurd (Heap.lt_size hz) (Nat.not_lt.mpr (q ▸ ap.2))
    · by_cases q : b = a
      · subst q; rw [ho] at hz; cases hz
        obtain ⟨es', ep', g⟩ := hd es ep hzd
        exact ⟨o', es', ep', ho', g⟩
      · exact ⟨z, es, ep, (hs.2 b q).trans hz, hzd⟩
  split at hk
  · rename_i hl
    rw [storeName_local (kd x |>.trans hl) (by simp [H.kind])]
    refine nsSetC hn fun h' hn' hs _ => ?_
    have hn0 := hn
    obtain ⟨o, es, ep, ho, ocl, _, od, _⟩ := hn0
    have hn1 := hn'
    obtain ⟨o', es', ep', ho', ocl', _, od', _⟩ := hn1
    obtain ⟨R', e, ds⟩ := common env.locals o o' h' H.loc ho ho' (ocl'.trans ocl.symm) hs fun _ _ _ => ⟨_, _, od'⟩
    refine k h' _ R' ⟨H.kind, H.glb, H.blt, ⟨c, _, hc, hn', fun z hz => ?_⟩, fun z hz => ?_, H.inj, H.loc, H.cin, H.apart, fun a ha => ?_⟩ e ds ⟨env.locals, hs, .inl rfl⟩
    · unfold upd
      by_cases q : z = x
      · subst q; simp only [if_true]; exact r.mono e.mono
      · simp only [if_neg q]; exact (hr z hz).mono e.mono
    · obtain ⟨cc, oc, vc, e1, e2, e3, e4, e5, e6⟩ := H.cells z hz
      have ne : cc ≠ env.locals := fun q => by
        rw [q, ho] at e2; cases e2; rw [ocl] at e3
        rcases hc.1 with rfl | rfl <;> simp at e3
      have : z ≠ x := fun q => by subst q; rw [kd, hl] at hz; rcases hz with hz | hz <;> cases hz
      refine ⟨cc, oc, vc, e1, (hs.2 cc ne).trans e2, e3, e4, ?_, e6⟩
      unfold upd; simp only [if_neg this]; exact e5.mono e.mono
    · obtain ⟨oa, g1, g2, g3⟩ := H.there a ha
      by_cases q : a = env.locals
      · subst q
        rw [ho] at g1; cases g1
        exact ⟨_, ho', by simpa [frozen, (ocl'.trans ocl.symm)] using g2, (itr_eq (ocl'.trans ocl.symm)).trans g3⟩
      · exact ⟨oa, (hs.2 a q).trans g1, g2, g3⟩
  · rename_i hl
    obtain ⟨cc, oc, vc, e1, e2, e3, e4, e5, e6⟩ := H.cells x (.inl ((kd x).trans hl))
    refine storeCell H.kind ((kd x).trans hl) e1 e2 e4 fun h' ho' hs => ?_
    have ccF := H.cin x cc ((kd x).trans hl) e1
    obtain ⟨R', e, ds⟩ := common cc oc _ h' ccF e2 ho' rfl hs fun _ _ q => by rw [e4] at q; cases q
    have hn0 := hn
    obtain ⟨o, es, ep, ho, ocl, _, od, _⟩ := hn0
    have lne : env.locals ≠ cc := fun q => by
      rw [q, e2] at ho; cases ho; rw [e4] at od; cases od
    refine k h' _ R' ⟨H.kind, H.glb, H.blt, ⟨c, m, hc, hn.sameBut hs lne, fun z hz => ?_⟩, fun z hz => ?_, H.inj, H.loc, H.cin, H.apart, fun a ha => ?_⟩ e ds ⟨cc, hs, .inr ⟨(kd x).trans hl, e1⟩⟩
    · have : z ≠ x := fun q => by subst q; rw [kd, hl] at hz; cases hz
      unfold upd; simp only [if_neg this]; exact (hr z hz).mono e.mono
    · by_cases q : z = x
      · subst q
        exact ⟨cc, _, some y, e1, ho', e3, rfl, by unfold upd; simp only [if_true]; exact r.mono e.mono, e6⟩
      · obtain ⟨c2, o2, v2, f1, f2, f3, f4, f5, f6⟩ := H.cells z hz
        have ne : c2 ≠ cc := fun p => by
          subst p; exact q (H.inj z x c2 hz (.inl ((kd x).trans hl)) f1 e1)
        refine ⟨c2, o2, v2, f1, (hs.2 c2 ne).trans f2, f3, f4, ?_, f6⟩
        unfold upd; simp only [if_neg q]; exact f5.mono e.mono
    · obtain ⟨oa, g1, g2, g3⟩ := H.there a ha
      by_cases q : a = cc
      · subst q
        rw [e2] at g1; cases g1
        exact ⟨_, ho', by simpa [frozen] using g2, by simpa [itr, iterish] using g3⟩
      · exact ⟨oa, (hs.2 a q).trans g1, g2, g3⟩
  · cases hk

theorem store_ok {M : Model} {A : Around} {E : Value → Shared → Prop} {x : Str} {v : V} {y : Value} {Q : Unit → Shared → Prop} (R : Rep T ι σ s.heap) (H : Frm T env F ρ ι s.heap) (hk : isStore env.scope x = true) (r : VRel T ι s.heap v y)
    (k : ∀ h' t, Rep T ι σ h' → Frm T env F (upd ρ x (some v)) ι h' → Ext T F ι s.heap ι h' → DStay s.heap h' → Q () { s with heap := h', toks := t }) : wpAny M A (storeName env x y) Q E s :=
  store_at R H hk r fun h' t R' H' e ds _ => k h' t R' H' e ds

theorem Inv.stored {ρ' : Loc} {h' : Heap} {t : Nat} (I : Inv T A fs d env F ρ ι σ s) (R : Rep T ι σ h') (H : Frm T env F ρ' ι h') (e : Ext T F ι s.heap ι h') (ds : DStay s.heap h') : Inv T A fs d env F ρ' ι σ { s with heap := h', toks := t } :=
  ⟨R, I.aok.ext e (fun en hen L hf _ => by
    obtain ⟨_, L', o, es, ep, f, _, _, g, _, dd⟩ := I.aok.funs en hen
    rw [hf] at f; cases f
    exact ds L o es ep g dd) (fun a ha => let ⟨o, g, _, gi⟩ := I.frm.there a ha; ⟨o, g, gi⟩), H, I.top, I.gens, I.os⟩

theorem StOk.assign {X : XS} {Q : QS} {x : Str} {pos' pos : Pos} {e : Expr} (q : EvOk T d sc ρ X e (fun v σ' => Q .next (upd ρ x (some v)) σ') σ) (hc : noComp e = true) (hk : isStore sc x = true) :
    StOk T d sc ρ X (.Assign [.Name x pos'] e pos) Q σ := by
  intro env A fs F ι s hsc I
  refine wpAny_Assign_Name (wpAny_mono (q env A fs F ι s hsc I) (fun y s₁ p => ?_) fun _ _ p => p.sx I fun _ _ k => k) (swaps_no hc)
  obtain ⟨v, σ₁, ι₁, q, rv, rp, ex, g, o⟩ := p
  have I₁ := I.ext ex rp g o
  refine store_ok I₁.rep I₁.frm (hsc ▸ hk) rv fun h' t R' H' e' ds => ?_
  exact ⟨.next, _, σ₁, ι₁, q, trivial, I₁.stored R' H' e' ds, ex.up.trans e'⟩
end
end Mine

namespace Mine
open PySem PySem.Calls PyProof.Rows PySem.SeqAt

noncomputable def bindLoc (ρ : Loc) : List Str → List V → Loc
  | p :: ps, v :: vs => bindLoc (upd ρ p (some v)) ps vs
  | _, _ => ρ
noncomputable def noFree (sc : Scope) : Bool := sc.names.all fun p => p.2 != .free
structure FnAt (T : Tp) (v : Value) (ps : List Str) (body : List Stmt) (sc : Scope) : Prop where
  fn : ∃ f o fd, v = .ref f ∧ T.K.lookup f = some o ∧ o.data = .func fd ∧ fd.scope = sc ∧ fd.body = .stmts body ∧ fd.closure = [] ∧ fd.globals = mainGlobals ∧ fd.builtins = builtinsNs ∧ PySem.W.codeIn T.K fd.code fd.qualname = true ∧
    ∀ vals : List Value, vals.length = ps.length → bindArgs fd ⟨vals, []⟩ = pure (ps.zip vals)
  co : sc.isCoroutine = false
  gen : sc.isGenerator = false
  kind : sc.kind = .function
  par : (ps.all fun p => isStore sc p) = true
  free : noFree sc = true
noncomputable def FnV (T : Tp) (f : V) (ps : List Str) (body : List Stmt) (sc : Scope) : Prop := ∀ ι h fv, VRel T ι h f fv → FnAt T fv ps body sc
theorem FnV.glob {T : Tp} {x : Str} {v : Value} {ps body sc} (e : T.g x = some v) (h : FnAt T v ps body sc) : FnV T (.glob x) ps body sc := fun _ _ fv r => by
  unfold VRel at r; rw [e] at r; cases r; exact h
theorem FnV.mth {T : Tp} {c x : Str} {v : Value} {ps body sc} (e : T.m c x = some v) (h : FnAt T v ps body sc) : FnV T (.mth c x) ps body sc := fun _ _ fv r => by
  unfold VRel at r; rw [e] at r; cases r; exact h

noncomputable def retQ (Q : QE) : QS := fun fl _ σ => match fl with | .ret v => Q v σ | _ => Q .none σ

theorem pushCells_cls : ∀ (names : List (Str × NameKind)) (h : Heap) (c : Addr) (o : Obj), (pushCells h names).get? c = some o → h.objs.size ≤ c → o.cls = .type "cell"
  | [], h, c, o, e, hl => absurd (Heap.lt_size e) (Nat.not_lt.mpr hl)
  | (_, kind) :: r, h, c, o, e, hl => by
    unfold pushCells at e
    split at e
    · by_cases q : c = h.objs.size
      · subst q
        rw [pushCells_keeps r _ _ _ (Heap.get?_push_size h rfl)] at e
        cases e; rfl
      · exact pushCells_cls r _ c o e (by rw [Heap.size_push]; exact Nat.lt_of_le_of_ne hl (Ne.symm q))
    · exact pushCells_cls r h c o e hl
theorem pushCells_size : ∀ (names : List (Str × NameKind)) (h : Heap), h.objs.size ≤ (pushCells h names).objs.size
  | [], _ => Nat.le_refl _
  | (_, kind) :: r, h => by
    unfold pushCells
    split
    · exact Nat.le_trans (by rw [Heap.size_push]; omega) (pushCells_size r _)
    · exact pushCells_size r h
theorem cellsFrom_acc : ∀ (names : List (Str × NameKind)) (n : Nat) (acc : List (Str × Addr)) (x : Str × Addr), x ∈ acc → x ∈ cellsFrom n names acc
  | [], _, _, _, h => h
  | (_, kind) :: r, n, acc, x, h => by
    unfold cellsFrom
    split
    · exact cellsFrom_acc r _ _ x (List.mem_cons_of_mem _ h)
    · exact cellsFrom_acc r _ _ x h
theorem cellsFrom_mem : ∀ (names : List (Str × NameKind)) (n : Nat) (acc : List (Str × Addr)) (x : Str), (x, NameKind.cell) ∈ names → ∃ c, (x, c) ∈ cellsFrom n names acc
  | (y, kind) :: r, n, acc, x, h => by
    unfold cellsFrom
    rcases List.mem_cons.mp h with e | h
    · cases e
      exact ⟨n, cellsFrom_acc r _ _ _ (by simp)⟩
    · split
      · exact cellsFrom_mem r _ _ x h
      · exact cellsFrom_mem r _ _ x h
theorem lookup_of_mem {α : Type} : ∀ {l : List (Str × α)} {x : Str} {c : α}, (x, c) ∈ l → ∃ c', l.lookup x = some c'
  | (k, v) :: r, x, c, h => by
    rw [List.lookup_cons]
    cases hb : x == k with
    | true => exact ⟨v, rfl⟩
    | false =>
      rcases List.mem_cons.mp h with e | h
      · cases e; simp at hb
      · exact lookup_of_mem h

section
variable {T : Tp} {A : Around} {fs : List Env} {d : Nat} {ι : Inj} {σ : Hp} {s : Shared} {sc : Scope}

/-- the parameters, stored one by one -/
theorem binds_ok {M : Model} {A : Around} {E : Value → Shared → Prop} {env : Env} {F : List Addr} (f : Str × Value → PUnit → Sem (ForInStep PUnit)) (hf : ∀ n v u, f (n, v) u = (do storeName env n v; pure (.yield ⟨⟩))) :
    ∀ (ps : List Str) (vs : List V) (xs : List Value) (ρ : Loc) (s : Shared) (Q : PUnit → Shared → Prop), Rep T ι σ s.heap → Frm T env F ρ ι s.heap → VRels T ι s.heap vs xs → xs.length = ps.length → (ps.all fun p => isStore env.scope p) = true →
      (∀ h' t, Rep T ι σ h' → Frm T env F (bindLoc ρ ps vs) ι h' → Ext T F ι s.heap ι h' → DStay s.heap h' → Q ⟨⟩ { s with heap := h', toks := t }) → wpAny M A (forIn (ps.zip xs) ⟨⟩ f) Q E s
  | [], vs, xs, ρ, s, Q, R, H, r, hl, _, k => by
    cases xs with
    | nil =>
      cases vs with
      | nil => rw [List.zip_nil_left, List.forIn_nil]; exact wpAny_pure (k s.heap s.toks R H (.refl ..) fun a o es ep e q => ⟨o, es, ep, e, q⟩)
      | cons => simp [VRels] at r
    | cons => simp at hl
  | p :: ps, vs, xs, ρ, s, Q, R, H, r, hl, ha, k => by
    cases xs with
    | nil => simp at hl
    | cons x xs =>
      cases vs with
      | nil => simp [VRels] at r
      | cons v vs =>
        unfold VRels at r
        rw [List.zip_cons_cons, List.forIn_cons, hf]
        simp only [List.all_cons, Bool.and_eq_true] at ha
        refine wpAny_bind (wpAny_bind (store_ok R H ha.1 r.1 fun h' t R' H' e' ds => wpAny_pure ?_))
        refine binds_ok f hf ps vs xs _ _ Q R' H' (r.2.mono e'.mono) (by simpa using hl) (by simpa using ha.2) fun h'' t' R'' H'' e'' ds' => ?_
        exact k h'' t' R'' H'' (e'.trans e'') fun a o es ep e q => by
          obtain ⟨o₁, es₁, ep₁, g, gd⟩ := ds a o es ep e q
          exact ds' a o₁ es₁ ep₁ g gd

/-- the frame of a call, ahead of its parameters -/
theorem frame_new {L : Addr} {qual : Str} {func : Option Addr} {code : Value} (R : Rep T ι σ s.heap) (hL : L = s.heap.objs.size) (hk : sc.kind = .function) (hf : noFree sc = true) (h₁ : Heap) (hh : h₁ = pushCells (s.heap.push { cls := .type "frame", data := .dict #[] }) sc.names)
    (env : Env) (he : env = newEnv sc L mainGlobals (cellsFrom (L + 1) sc.names []) qual func code none builtinsNs) :
    ∃ F, (∀ a ∈ F, s.heap.objs.size ≤ a) ∧ Rep T ι σ h₁ ∧ Frm T env F (fun _ => none) ι h₁ ∧ Ext T F ι s.heap ι h₁ ∧ (∃ o, h₁.get? L = some o ∧ o.cls = .type "frame" ∧ o.data = .dict #[] 0) := by
  subst hh he hL
  have ok := cellsFrom_ok sc.names (s.heap.push { cls := .type "frame", data := .dict #[] }) (s.heap.objs.size + 1) [] ⟨fun _ _ hm => (nomatch hm), List.Pairwise.nil⟩ (by rw [Heap.size_push]; exact Nat.le_refl _)
  rw [Heap.size_push] at ok
  have keep : ∀ b o, s.heap.get? b = some o → (pushCells (s.heap.push { cls := .type "frame", data := .dict #[] }) sc.names).get? b = some o := fun b o e => pushCells_keeps _ _ b o (Heap.get?_push_of_some _ e)
  have hsz : s.heap.objs.size ≤ (pushCells (s.heap.push { cls := .type "frame", data := .dict #[] }) sc.names).objs.size := Nat.le_trans (by rw [Heap.size_push]; (clear ok keep; omega)) (pushCells_size _ _)
  have hL := pushCells_keeps sc.names (s.heap.push { cls := .type "frame", data := .dict #[] }) _ _ (Heap.get?_push_size s.heap rfl)
  have no : ∀ a, s.heap.objs.size ≤ a → a ∉ own ι := fun a ha q => absurd (R.own_lt q) (Nat.not_lt.mpr ha)
  have cellAt : ∀ x c, (x, c) ∈ cellsFrom (s.heap.objs.size + 1) sc.names [] → s.heap.objs.size + 1 ≤ c ∧ ∃ o, (pushCells (s.heap.push { cls := .type "frame", data := .dict #[] }) sc.names).get? c = some o ∧ o.cls = .type "cell" ∧ o.data = .cell none := fun x c hm => by
    obtain ⟨⟨o, g, gd⟩, hc⟩ := ok.empty x c hm
    exact ⟨hc, o, g, pushCells_cls _ _ c o g (by rw [Heap.size_push]; exact hc), gd⟩
  refine ⟨s.heap.objs.size :: (cellsFrom (s.heap.objs.size + 1) sc.names []).map (·.2), fun a ha => ?_, R.grow hsz keep, ?_, .of_keeps hsz keep, ⟨_, hL, rfl, rfl⟩⟩
  · rcases List.mem_cons.mp ha with rfl | ha
    · exact Nat.le_refl _
    · obtain ⟨⟨x, c⟩, hm, rfl⟩ := List.mem_map.mp ha
      exact Nat.le_of_succ_le (cellAt x c hm).1
  · refine ⟨hk, rfl, rfl, ⟨"frame", fun _ => none, ⟨.inl rfl, fun q => absurd rfl q⟩, ⟨_, #[], 0, hL, rfl, rfl, rfl, fun e he => by simp at he, List.Pairwise.nil, fun _ => rfl⟩, fun x _ => trivial⟩, fun x hx => ?_, fun x y c hx hy h1 h2 => name_of_addr ok.apart (mem_of_lookup h1) (mem_of_lookup h2), List.mem_cons_self, fun x c _ h => List.mem_cons_of_mem _ (List.mem_map.mpr ⟨(x, c), mem_of_lookup h, rfl⟩), fun a ha => ?_, fun a ha => ?_⟩
    · have hx' : sc.names.lookup x = some .cell := by
        rcases hx with hx | hx
        · exact hx
        · have := List.all_eq_true.mp hf _ (mem_of_lookup (show sc.names.lookup x = some .free from hx))
          simp at this
      obtain ⟨c, hc⟩ := cellsFrom_mem sc.names (s.heap.objs.size + 1) [] x (mem_of_lookup hx')
      obtain ⟨c', hc'⟩ := lookup_of_mem hc
      obtain ⟨g1, o, g2, g3, g4⟩ := cellAt x c' (mem_of_lookup hc')
      exact ⟨c', o, none, hc', g2, g3, g4, trivial, no c' (Nat.le_of_succ_le g1)⟩
    · have hs : s.heap.objs.size ≤ a := by
        rcases List.mem_cons.mp ha with rfl | ha
        · exact Nat.le_refl _
        · obtain ⟨⟨x, c⟩, hm, rfl⟩ := List.mem_map.mp ha
          exact Nat.le_of_succ_le (cellAt x c hm).1
      exact ⟨no a hs, Nat.le_trans R.size hs⟩
    · rcases List.mem_cons.mp ha with rfl | ha
      · exact ⟨_, hL, rfl, rfl⟩
      · obtain ⟨⟨x, c⟩, hm, rfl⟩ := List.mem_map.mp ha
        obtain ⟨_, o, g2, g3, _⟩ := cellAt x c hm
        exact ⟨o, g2, by simp [frozen, g3], by simp [itr, iterish, g3]⟩
end
end Mine

namespace Mine
open PySem PySem.Calls PyProof.Rows PySem.SeqAt

section
variable {T : Tp} {A : Around} {fs : List Env} {d : Nat} {ι : Inj} {σ : Hp} {s : Shared} {sc : Scope}

/-- a statement's exception, on its way out of a frame or a loop: the heap behind the notes -/
theorem PostSX.touched {env : Env} {F : List Addr} {X : XS} {h : Heap} {ρ' : Loc} {σ' : Hp} {ι' : Inj} {ea : Addr} {c : Str} {h' : Heap} (x : X c σ') (hn : ea ∉ own ι') (I : Inv T A fs d env F ρ' ι' σ' s) (e : Ext T F ι h ι' s.heap) (f : Fly T h.objs.size ea c s.heap) (hb : T.b0.objs.size ≤ h.objs.size)
    (t : Touch (frs fs) h.objs.size ea s.heap h') : Inv T A fs d env F ρ' ι' σ' { s with heap := h' } ∧ Ext T F ι h ι' h' := by
  have hle : h.objs.size ≤ ea := by obtain ⟨_, _, _, _, _, q, _⟩ := f; exact q
  exact ⟨I.touch t f hn hb hle, e.touch t (fun a ha => let ⟨_, _, o, _, _, g, gc, _⟩ := I.aok.mem ha; ⟨o, g, gc⟩) hle⟩

theorem noted_ok {env : Env} {F : List Addr} {X : XS} {h : Heap} {x : Value} {E : Value → Shared → Prop} {Q : Unit → Shared → Prop} (hb : T.b0.objs.size ≤ h.objs.size) (p : PostSX T A fs d env F X ι h x s)
    (k : ∀ ea c ρ' σ' ι' h', x = .ref ea → X c σ' → FlyT T h.objs.size ea c h' → ea ∉ own ι' → Inv T A fs d env F ρ' ι' σ' { s with heap := h' } → Ext T F ι h ι' h' → Q () { s with heap := h' }) :
    wpAny (model T.prog T.w) A (noteFrame x env) Q E s := by
  obtain ⟨ea, c, ρ', σ', ι', rfl, b, f, n, I, e⟩ := p
  refine note_ok I f e.size fun h' t f' => ?_
  obtain ⟨I', e'⟩ := PostSX.touched b n I e f hb t
  exact k ea c ρ' σ' ι' h' rfl b f' n I' e'

theorem leaving_ok {env : Env} {F : List Addr} {X : XS} {h : Heap} {x : Value} {E : Value → Shared → Prop} {Q : Unit → Shared → Prop} (hb : T.b0.objs.size ≤ h.objs.size) (p : PostSX T A fs d env F X ι h x s)
    (k : ∀ s', PostSX T A fs d env F X ι h x s' → Q () s') : wpAny (model T.prog T.w) A (leaving env x) Q E s := by
  unfold leaving
  refine wpAny_bind (noted_ok hb p fun ea c ρ' σ' ι' h' hx b f n I e => ?_)
  subst hx
  refine flight_ok (S := frs fs) f fun h'' t f' => ?_
  obtain ⟨I', e'⟩ := PostSX.touched b n I e f.fly hb t
  exact k _ ⟨ea, c, ρ', σ', ι', rfl, b, f'.fly, n, I', e'⟩

/-- an exception that comes out of a loop of the frame -/
theorem loop_ok {env : Env} {F : List Addr} {X : XS} {h : Heap} {x : Value} (hb : T.b0.objs.size ≤ h.objs.size) (p : PostSX T A fs d env F X ι h x s) :
    notedBy (model T.prog T.w) A env (fun e s' => cameBackBy (model T.prog T.w) A env (PostSX T A fs d env F X ι h) e s') x s := by
  unfold notedBy
  refine noted_ok hb p fun ea c ρ' σ' ι' h' hx b f n I e => ?_
  subst hx
  unfold cameBackBy
  have f₀ := f
  obtain ⟨C, oe, vs, v, f1, f2, f3, f4, f5, f6, f7, f8, tb, ot, ts, rfl, _⟩ := f
  refine wpAny_bind (wpAny_field f3 f5 f8 ?_)
  rw [if_neg (by simp)]
  refine flight_ok (S := frs fs) f₀ fun h'' t f' => ?_
  obtain ⟨I', e'⟩ := PostSX.touched b n I e f₀.fly hb t
  exact ⟨ea, c, ρ', σ', ι', rfl, b, f'.fly, n, I', e'⟩

/-- a call as a run of its own -/
noncomputable def CodeOk (T : Tp) (d : Nat) (X : QX) (f : V) (args : List V) (Q : QE) (σ : Hp) : Prop :=
  ∀ A fs ι s fv xs, St T A fs d ι σ s → VRel T ι s.heap f fv → VRels T ι s.heap args xs → codeAny (model T.prog T.w) A (.call fv ⟨xs, []⟩)
    (fun r s' => match r with | .ok (.ret v) => PostE T [] Q ι s.heap v s' | .ok _ => False | .error e => PostX T [] X ι s.heap e s') s
theorem CodeOk.call {f : V} {args : List V} {Q : QE} {X : QX} (h : CodeOk T d X f args Q σ) : CallOk T d X f args Q σ := fun A fs ι s fv xs S rf rxs => wpAny_call (h A fs ι s fv xs S rf rxs)

theorem CodeOk.fn {f : V} {ps : List Str} {body : List Stmt} {args : List V} {Q : QE} {X : QX} (TO : TopOk T) (hf : FnV T f ps body sc) (hl : args.length = ps.length)
    (hb : ExOk T d sc (bindLoc (fun _ => none) ps args) X body (retQ Q) σ) : CodeOk T (d + 1) X f args Q σ := by
  intro A fs ι s fv xs S rf rxs
  obtain ⟨⟨fa, o, fd, rfl, ho, hd, rfl, hbody, hclo, hg, hbu, hcd, hbind⟩, co, gen, kind, par, free⟩ := hf ι s.heap fv rf
  have X₁ := TO.X0.keeps S.rep.base
  refine codeAny_call_function (by have := S.aok.depth; (clear hbind hl S; omega)) (X₁ _ _ ho) hd co gen hbody (PySem.W.codeRec_of X₁ hcd) ?_
  have hlen : xs.length = ps.length := rxs.length.trans hl
  rw [hbind xs hlen, hclo, hg, hbu]
  refine wpAny_pure ?_
  simp only [newFunctionEnv, Option.isSome_none, Bool.false_eq_true, if_false]
  refine wpAny_bind (wpAny_alloc ?_)
  refine wpAny_bind (wpAny_layCells _ (fun name kind cells => by cases hkc : kind == NameKind.cell <;> simp [hkc]) _ _ _ _ ?_)
  rw [show ({ s with heap := s.heap.push { cls := .type "frame", data := .dict #[] } } : Shared).heap.objs.size = s.heap.objs.size + 1 from Heap.size_push ..]
  obtain ⟨F, hF, R₁, H₁, e₁, oL, hoL, hcL, hdL⟩ := frame_new (T := T) (L := s.heap.objs.size) (sc := fd.scope) (qual := fd.qualname ++ ".<locals>.") (func := some fa) (code := fd.code) S.rep rfl kind free _ rfl _ rfl
  refine wpAny_bind (binds_ok (T := T) (ι := ι) (σ := σ) (env := newEnv fd.scope s.heap.objs.size mainGlobals (cellsFrom (s.heap.objs.size + 1) fd.scope.names []) (fd.qualname ++ ".<locals>.") (some fa) fd.code none builtinsNs) (F := F)
    _ (fun _ _ _ => rfl) ps args xs (fun _ => none) _ _ R₁ H₁ (rxs.mono e₁.mono) hlen par fun h₂ t R₂ H₂ e₂ ds => wpAny_pure ⟨?_, codeAny_func ?_⟩)
  · exact TO.lim.keeps R₂.base
  have e₃ := e₁.trans e₂
  have hoL₂ := ds _ _ _ _ hoL hdL
  obtain ⟨oL', hoL', hcL'⟩ := e₂.cls _ _ hoL (by simp [loose, hcL])
  obtain ⟨oL₂, es, ep, hL2, hd2⟩ := hoL₂
  rw [hoL'] at hL2; cases hL2
  have no : ∀ a, s.heap.objs.size ≤ a → a ∉ own ι := fun a ha q => absurd (S.rep.own_lt q) (Nat.not_lt.mpr ha)
  have aok : AOk T (A.deeper (newEnv fd.scope s.heap.objs.size mainGlobals (cellsFrom (s.heap.objs.size + 1) fd.scope.names []) (fd.qualname ++ ".<locals>.") (some fa) fd.code none builtinsNs)) ((newEnv fd.scope s.heap.objs.size mainGlobals (cellsFrom (s.heap.objs.size + 1) fd.scope.names []) (fd.qualname ++ ".<locals>.") (some fa) fd.code none builtinsNs) :: fs) d ι h₂ := by
    refine ⟨Around.frames_deeper S.aok.frames, fun e he => ?_, by have := S.aok.depth; show A.depth + 1 + d ≤ _; (clear no e₂ ds e₁ hoL hdL H₂ hl S hbind hlen hF R₁ H₁; omega), by have := S.aok.units; show A.units + 3 + 10 * d + 50 ≤ _; (clear no e₂ ds e₁ hoL hdL H₂ hl S hbind hlen hF R₁ H₁; omega), S.aok.hd, S.aok.hx.keep fun a o C e1 e2 e3 => ⟨e₃.keep a o e1 e3 (fun q => absurd (Heap.lt_size e1) (Nat.not_lt.mpr (hF a q))) (by rw [e2]; simp), e3⟩⟩
    rcases List.mem_cons.mp he with rfl | he
    · exact ⟨kind, s.heap.objs.size, oL', es, ep, rfl, no _ (Nat.le_refl _), S.rep.size, hoL', hcL'.trans hcL, hd2⟩
    · obtain ⟨k1, L', o', es', ep', f1, n1, b1, g1, c1, d1⟩ := S.aok.funs e he
      have hne : L' ∉ F := fun q => absurd (Heap.lt_size g1) (Nat.not_lt.mpr (hF L' q))
      obtain ⟨sl, g2⟩ := e₃.frm L' o' g1 n1 hne
      exact ⟨k1, L', _, es', ep', f1, n1, b1, g2, c1, d1⟩
  have I : Inv T (A.deeper (newEnv fd.scope s.heap.objs.size mainGlobals (cellsFrom (s.heap.objs.size + 1) fd.scope.names []) (fd.qualname ++ ".<locals>.") (some fa) fd.code none builtinsNs)) ((newEnv fd.scope s.heap.objs.size mainGlobals (cellsFrom (s.heap.objs.size + 1) fd.scope.names []) (fd.qualname ++ ".<locals>.") (some fa) fd.code none builtinsNs) :: fs) d _ F (bindLoc (fun _ => none) ps args) ι σ { s with heap := h₂, toks := t } :=
    ⟨R₂, aok, H₂, ⟨_, fs, s.heap.objs.size, rfl, rfl, rfl⟩, S.gens, S.os⟩
  have dn : ∀ {ι' : Inj} {h' : Heap}, Ext T F ι s.heap ι' h' → Ext T [] ι s.heap ι' h' := fun e => e.weaken fun a ha hlt => absurd hlt (Nat.not_lt.mpr (hF a ha))
  refine wpAny_mono (hb _ _ _ F ι _ rfl I) (fun fl s' p => ?_) fun e s' p => ?_
  · obtain ⟨fl', ρ', σ', ι', q, r, i, ex⟩ := p
    have ex' := dn (e₃.trans ex)
    cases fl' <;> cases fl <;> first | exact r.elim | skip
    · exact ⟨.none, σ', ι', q, .none_mk, i.rep, ex', i.gens, i.os⟩
    · exact ⟨.none, σ', ι', q, .none_mk, i.rep, ex', i.gens, i.os⟩
    · exact ⟨.none, σ', ι', q, .none_mk, i.rep, ex', i.gens, i.os⟩
    · exact ⟨_, σ', ι', q, r, i.rep, ex', i.gens, i.os⟩
  · refine leaving_ok R₂.size p fun s'' p' => ?_
    obtain ⟨ea, c, ρ', σ', ι', rfl, b, f, n, i, ex⟩ := p'
    exact ⟨ea, c, σ', ι', rfl, b, f.lo e₃.size, n, i.rep, dn (e₃.trans ex), i.gens, i.os⟩
theorem CallOk.fn {f : V} {ps : List Str} {body : List Stmt} {args : List V} {Q : QE} {X : QX} (TO : TopOk T) (hf : FnV T f ps body sc) (hl : args.length = ps.length)
    (hb : ExOk T d sc (bindLoc (fun _ => none) ps args) X body (retQ Q) σ) : CallOk T (d + 1) X f args Q σ := (CodeOk.fn TO hf hl hb).call
end
end Mine

namespace Mine
open PySem PySem.Calls PyProof.Rows PySem.SeqAt

/-- what updates and new objects keep -/
structure Kept (P : Heap → Prop) : Prop where
  upd : ∀ h a f, (h.get? a).isSome = true → P h → P (h.update a f)
  new : ∀ h o, P h → P (h.push o)
/-- a run keeps it -/
theorem runs_keep {P : Heap → Prop} (K : Kept P) {M : Model} {Γ : Ctx} {p : Pos} {t : Sem Fin} {fs : List Frame} {s s' : Shared} {e : End} (h : Runs M Γ p t fs s e s') : P s.heap → P s'.heap := by
  induction h with
  | done | raise | yield => exact id
  | update ho _ ih => exact fun x => ih (K.upd _ _ _ ho x)
  | alloc _ ih => exact fun x => ih (K.new _ _ x)
  | call _ _ i1 i2 => exact fun x => i2 (i1 x)
  | resumeFresh _ _ _ _ i1 i2 => exact fun x => i2 (i1 x)
  | resumeSuspended _ _ _ _ i1 i2 => exact fun x => i2 (i1 x)
  | segRet _ _ i1 i2 => exact fun x => i2 (i1 x)
  | segGen _ _ i1 i2 => exact fun x => i2 (i1 x)
  | segSuspGen _ _ _ _ i1 i2 => exact fun x => i2 (i1 x)
  | _ => assumption
theorem wp_keep {P : Heap → Prop} (K : Kept P) {α : Type} {M : Model} {Γ : Ctx} : ∀ (m : Sem α) (Q : α → Pos → Shared → Prop) (E : Value → Pos → Shared → Prop) (p : Pos) (s : Shared), P s.heap → Sem.wp M Γ m Q E p s →
    Sem.wp M Γ m (fun a p' s' => Q a p' s' ∧ P s'.heap) (fun a p' s' => E a p' s' ∧ P s'.heap) p s := by
  intro m
  induction m with
  | pure a => intro Q E p s hn h; exact ⟨h, hn⟩
  | raise e => intro Q E p s hn h; exact ⟨h, hn⟩
  | unsupported => intro Q E p s hn h; exact h
  | finish => intro Q E p s hn h; exact h
  | update a part f k ih => intro Q E p s hn h; exact ⟨h.1, ih () Q E p _ (K.upd _ _ _ h.1 hn) h.2⟩
  | alloc o k ih => intro Q E p s hn h; exact ih _ Q E p _ (K.new _ _ hn) h
  | load a part k ih => intro Q E p s hn h; obtain ⟨o, ho, h⟩ := h; exact ⟨o, ho, ih o Q E p s hn h⟩
  | call c hh g l k ih => intro Q E p s hn h; obtain ⟨r, s', hr, h⟩ := h; exact ⟨r, s', hr, ih r Q E p s' (runs_keep K hr hn) h⟩
  | choose src m k ih => intro Q E p s hn h; exact ⟨h.1, ih _ Q E p _ hn h.2⟩
  | genState g k ih => intro Q E p s hn h; obtain ⟨st, hs, h⟩ := h; exact ⟨st, hs, ih _ Q E p s hn h⟩
  | resume g r l k ih =>
    intro Q E p s hn h
    obtain ⟨res, s', hw, h⟩ := h
    refine ⟨res, s', hw, ih _ Q E p s' ?_ h⟩
    unfold Wakes at hw
    split at hw
    · exact hw.elim
    · split at hw
      · obtain ⟨e₁, s₁, hr, _, _, rfl⟩ := hw; exact (runs_keep K hr hn :)
      · rw [hw.2]; exact hn
      · rw [hw.2]; exact hn
    · obtain ⟨e₁, s₁, hr, _, _, rfl⟩ := hw; exact (runs_keep K hr hn :)
    · rw [hw.2]; exact hn
    · rw [hw.2]; exact hn
  | await => intro Q E p s hn h; exact h.elim
  | register => intro Q E p s hn h; exact h
  | yield => intro Q E p s hn h; exact h
  | fork => intro Q E p s hn h; exact h
  | _ => rename_i ih; intro Q E p s hn h; exact ih _ Q E _ _ hn h
theorem wpAny_keep {P : Heap → Prop} (K : Kept P) {α : Type} {M : Model} {A : Around} {m : Sem α} {Q : α → Shared → Prop} {E : Value → Shared → Prop} {s : Shared} (hn : P s.heap) (h : wpAny M A m Q E s) :
    wpAny M A m (fun a s' => Q a s' ∧ P s'.heap) (fun a s' => E a s' ∧ P s'.heap) s := fun Γ p hΓ => wp_keep K m _ _ p s hn (h Γ p hΓ)
/-- a run never makes the heap smaller -/
theorem wpAny_size {α : Type} {M : Model} {A : Around} {m : Sem α} {Q : α → Shared → Prop} {E : Value → Shared → Prop} {s : Shared} (h : wpAny M A m Q E s) :
    wpAny M A m (fun a s' => Q a s' ∧ s.heap.objs.size ≤ s'.heap.objs.size) (fun a s' => E a s' ∧ s.heap.objs.size ≤ s'.heap.objs.size) s :=
  wpAny_keep (P := fun h => s.heap.objs.size ≤ h.objs.size) ⟨fun _ _ _ _ x => by rw [Heap.size_after_update]; exact x, fun _ _ x => by rw [Heap.size_push]; exact Nat.le_succ_of_le x⟩ (Nat.le_refl _) h
end Mine

namespace Mine
open PySem PySem.Calls PyProof.Rows PySem.SeqAt

/-- the items that a loop over a value walks -/
noncomputable def iterV (σ : Hp) : V → Option (List V)
  | .tup vs => some vs
  | .ref l => (match σ[l]? with | some (.list vs) => some vs | _ => none)
  | .str x => some (x.cps.toList.map fun c => .str ⟨#[c]⟩)
  | .rng n => if -(2 ^ 62) ≤ n ∧ n < 2 ^ 62 then some ((List.range n.toNat).map fun (k : Nat) => .int k) else none
  | _ => none

noncomputable def ItAt (T : Tp) (ι : Inj) (h : Heap) (v : V) (I : Addr) (i : Nat) : Prop := match v with
  | .tup vs => ∃ a items n, IsT h a items n ∧ VRels T ι h vs items.toList ∧ h.IsTupleIter I a i
  | .ref l => ∃ a d, ι[l]? = some (a, d) ∧ h.IsListIter I a i
  | .str x => ∃ t, h.IsStrIter I "str_ascii_iterator" x t i ∨ h.IsStrIter I "str_iterator" x t i
  | .rng n => IsRangeIter h I i ((n.toNat : Int) - i) 1
  | _ => False

section
variable {T : Tp} {A : Around} {fs : List Env} {d : Nat} {env : Env} {F : List Addr} {ι ι' : Inj} {h h' : Heap} {s : Shared} {ρ : Loc} {σ : Hp} {sc : Scope} {v : V} {I : Addr} {i : Nat}

theorem ItAt.obj (x : ItAt T ι h v I i) : ∃ o n, h.get? I = some o ∧ o.cls = .type n ∧ ["list_iterator", "tuple_iterator", "range_iterator", "str_iterator", "str_ascii_iterator"].contains n = true ∧ ∃ vs, o.data = .fields vs := by
  unfold ItAt at x
  split at x
  · obtain ⟨_, _, _, _, _, o, ho, hc, hd⟩ := x; exact ⟨o, _, ho, hc, by decide, _, hd⟩
  · obtain ⟨_, _, _, o, ho, hc, hd⟩ := x; exact ⟨o, _, ho, hc, by decide, _, hd⟩
  · obtain ⟨_, ⟨o, ho, hc, hd⟩ | ⟨o, ho, hc, hd⟩⟩ := x
    · exact ⟨o, _, ho, hc, by decide, _, hd⟩
    · exact ⟨o, _, ho, hc, by decide, _, hd⟩
  · exact ⟨_, _, x, rfl, by decide, _, rfl⟩
  · exact x.elim
theorem ItAt.iterish (x : ItAt T ι h v I i) : ∃ o, h.get? I = some o ∧ iterish o = true := by
  obtain ⟨o, n, ho, hc, hn, _⟩ := x.obj
  refine ⟨o, ho, ?_⟩
  simp only [Mine.iterish, hc]
  simp only [List.contains_iff_mem, List.mem_cons, List.not_mem_nil, or_false] at hn
  rcases hn with rfl | rfl | rfl | rfl | rfl <;> decide
theorem ItAt.keep (x : ItAt T ι h v I i) (m : Mono ι h ι' h') (k : ∀ o, h.get? I = some o → h'.get? I = some o) : ItAt T ι' h' v I i := by
  unfold ItAt at x ⊢
  split at x
  · obtain ⟨a, items, n, h1, h2, o, ho, r⟩ := x; exact ⟨a, items, n, m.frz a _ h1 (by simp [frozen]), h2.mono m, o, k o ho, r⟩
  · obtain ⟨a, dd, e, o, ho, r⟩ := x; exact ⟨a, dd, m.get e, o, k o ho, r⟩
  · obtain ⟨t, ⟨o, ho, r⟩ | ⟨o, ho, r⟩⟩ := x
    · exact ⟨t, .inl ⟨o, k o ho, r⟩⟩
    · exact ⟨t, .inr ⟨o, k o ho, r⟩⟩
  · exact k _ x
  · exact x.elim

theorem Mono.but (hs : ∀ b o, b ≠ I → h.get? b = some o → h'.get? b = some o) (ho : ∃ o, h.get? I = some o ∧ loose o = true ∧ frozen o = false) (ι : Inj) : Mono ι h ι h' where
  pre := ⟨[], by simp⟩
  cls := fun b o e i => ⟨o, hs b o (fun q => by obtain ⟨o', g, gi, _⟩ := ho; subst q; rw [e] at g; cases g; rw [i] at gi; cases gi) e, rfl⟩
  frz := fun b o e f => hs b o (fun q => by
    obtain ⟨o', g, _, gi⟩ := ho; subst q; rw [e] at g; cases g
    rw [f] at gi; cases gi) e
theorem iterish_frozen {o : Obj} (h : iterish o = true) : frozen o = false := by
  cases f : frozen o with
  | false => rfl
  | true =>
    simp only [frozen, Bool.or_eq_true, beq_iff_eq] at f
    rcases f with f | f <;> simp [iterish, f] at h
theorem Mono.free (hs : ∀ b o, b ≠ I → h.get? b = some o → h'.get? b = some o) (ho : ∃ o, h.get? I = some o ∧ iterish o = true) (ι : Inj) : Mono ι h ι h' :=
  .but hs (let ⟨o, a, b⟩ := ho; ⟨o, a, iterish_loose b, iterish_frozen b⟩) ι

theorem Inv.free {t : Nat} (I0 : Inv T A fs d env F ρ ι σ s) (hs : ∀ b o, b ≠ I → s.heap.get? b = some o → h'.get? b = some o) (hz : s.heap.objs.size ≤ h'.objs.size) (ho : ∃ o, s.heap.get? I = some o ∧ iterish o = true) (hn : I ∉ own ι) (hb : T.b0.objs.size ≤ I) :
    Inv T A fs d env F ρ ι σ { s with heap := h', toks := t } := by
  have m : Mono ι s.heap ι h' := .free hs ho ι
  have ne : ∀ b o, s.heap.get? b = some o → iterish o = false → b ≠ I := fun b o e i q => by obtain ⟨o', g, gi⟩ := ho; subst q; rw [e] at g; cases g; rw [i] at gi; cases gi
  refine ⟨I0.rep.keeps m hz (fun a o e => hs a o (fun q => absurd (Heap.lt_size e) (Nat.not_lt.mpr (q ▸ hb))) (I0.rep.base a o e)) fun a ha o e => hs a o (fun q => hn (q ▸ ha)) e, ⟨I0.aok.frames, fun e he => ?_, I0.aok.depth, I0.aok.units, I0.aok.hd, I0.aok.hx.keep fun a o C e1 e2 e3 => ⟨hs a o (ne a o e1 (by simp [iterish, e2])) e1, e3⟩⟩, ⟨I0.frm.kind, I0.frm.glb, I0.frm.blt, ?_, fun x hx => ?_, I0.frm.inj, I0.frm.loc, I0.frm.cin, I0.frm.apart, fun a ha => ?_⟩, I0.top, I0.gens, I0.os⟩
  · obtain ⟨k, L, o, es, ep, f, n, b, g, c, dd⟩ := I0.aok.funs e he
    exact ⟨k, L, o, es, ep, f, n, b, hs L o (ne L o g (by simp [iterish, c])) g, c, dd⟩
  · obtain ⟨c, mm, hc, hN, r⟩ := I0.frm.ns
    refine ⟨c, mm, hc, hN.of_slots fun o e => ⟨o.slots, hs _ o (ne _ o e ?_) e⟩, fun y hy => (r y hy).mono m⟩
    obtain ⟨o', _, _, g, gc, _⟩ := hN
    rw [e] at g; cases g
    rcases hc.1 with rfl | rfl <;> simp [iterish, gc]
  · obtain ⟨c, o, v, e1, e2, e3, e4, e5, e6⟩ := I0.frm.cells x hx
    exact ⟨c, o, v, e1, hs c o (ne c o e2 (by simp [iterish, e3])) e2, e3, e4, e5.mono m, e6⟩
  · obtain ⟨o, g1, g2, g3⟩ := I0.frm.there a ha
    exact ⟨o, hs a o (ne a o g1 (itr_iterish g3)) g1, g2, g3⟩

theorem Ext.free {h₀ : Heap} (x : Ext T F ι h₀ ι' h) (hs : ∀ b o, b ≠ I → h.get? b = some o → h'.get? b = some o) (hz : h.objs.size ≤ h'.objs.size) (hI : h₀.objs.size ≤ I) : Ext T F ι h₀ ι' h' := by
  have ne : ∀ b o, h₀.get? b = some o → b ≠ I := fun b o e q => absurd (Heap.lt_size e) (Nat.not_lt.mpr (q ▸ hI))
  refine ⟨x.pre, Nat.le_trans x.size hz, fun a o e i => ?_, fun a o e f => hs a o (ne a o e) (x.frz a o e f), fun a o e n f c => hs a o (ne a o e) (x.keep a o e n f c), fun a o e n f => ?_⟩
  · obtain ⟨o', g, gc⟩ := x.cls a o e i
    exact ⟨o', hs a o' (ne a o e) g, gc⟩
  · obtain ⟨sl, g⟩ := x.frm a o e n f
    exact ⟨sl, hs a _ (ne a o e) g⟩

theorem iter_ok {E : Value → Shared → Prop} {x : Value} {items : List V} {Q : Value → Shared → Prop} (R : Rep T ι σ s.heap) (r : VRel T ι s.heap v x) (hi : iterV σ v = some items)
    (k : ∀ o, ItAt T ι (s.heap.push o) v s.heap.objs.size 0 → Q (.ref s.heap.objs.size) { s with heap := s.heap.push o }) : wpAny (model T.prog T.w) A (pyIter x) Q E s := by
  cases v <;> simp only [iterV, reduceCtorEq] at hi
  · obtain ⟨t, rfl⟩ := r.str_inv
    rename_i x
    cases ha : x.cps.all (· < 128)
    · exact wpAny_pyIter_wide ha (k _ ⟨t, .inr ⟨_, Heap.get?_push_size _ rfl, rfl, rfl⟩⟩)
    · exact wpAny_pyIter_ascii ha (k _ ⟨t, .inl ⟨_, Heap.get?_push_size _ rfl, rfl, rfl⟩⟩)
  · obtain ⟨a, its, n, rfl, ht, hv⟩ := r.tup_inv
    exact wpAny_pyIter_tuple ⟨_, ht, rfl, n, rfl⟩ (k _ ⟨a, its, n, Heap.get?_push_of_some _ ht, hv.mono (Ext.push T [] ι s.heap _).mono, _, Heap.get?_push_size _ rfl, rfl, rfl⟩)
  · obtain ⟨a, dd, rfl, e⟩ := r.ref_inv
    split at hi
    · rename_i vs hvs
      obtain ⟨its, n, hL, hv⟩ := R.list_at hvs e
      exact wpAny_pyIter_list hL.isList (k _ ⟨a, dd, e, _, Heap.get?_push_size _ rfl, rfl, rfl⟩)
    · cases hi
  · rename_i n
    split at hi
    · rename_i hn
      unfold VRel at r
      obtain ⟨a, t1, t2, t3, rfl, hr⟩ := r
      refine wpAny_pyIter_range hr (small_one (by decide) (by decide) hn.1 hn.2) (k _ ?_)
      have : Builtin.Range.rangeSize 0 n 1 = (n.toNat : Int) := by unfold Builtin.Range.rangeSize; simp; split <;> (clear k hn hi hr; omega)
      show IsRangeIter _ _ _ _ _
      rw [this]
      show _ = _
      rw [Heap.get?_push_size _ rfl]; simp [rawInt]
    · cases hi

theorem next_ok {E : Value → Shared → Prop} {items : List V} {y : V} {Q : Option Value → Shared → Prop} (R : Rep T ι σ s.heap) (it : ItAt T ι s.heap v I i) (hn : I ∉ own ι) (hi : iterV σ v = some items) (hy : items[i]? = some y)
    (k : ∀ h' t x, Heap.SameBut I s.heap h' → VRel T ι h' y x → ItAt T ι h' v I (i + 1) → Q (some x) { s with heap := h', toks := t }) : wpAny (model T.prog T.w) A (pyNext (.ref I)) Q E s := by
  have hit := it.iterish
  have mono : ∀ {h'}, Heap.SameBut I s.heap h' → Mono ι s.heap ι h' := fun hs => .free (fun b o hb e => (hs.2 b hb).trans e) hit ι
  cases v <;> simp only [iterV, reduceCtorEq] at hi <;> simp only [ItAt] at it
  · rename_i x
    cases hi
    rw [List.getElem?_map] at hy
    cases hc : x.cps.toList[i]? with
    | none => rw [hc] at hy; cases hy
    | some c =>
      rw [hc] at hy; cases hy
      have hc' : x.cps[i]? = some c := by simpa using hc
      obtain ⟨t, it | it⟩ := it
      · exact wpAny_pyNext_ascii_item it hc' fun h' it' hs => k h' _ _ hs .str_mk ⟨t, .inl it'⟩
      · exact wpAny_pyNext_wide_item it hc' fun h' it' hs => k h' _ _ hs .str_mk ⟨t, .inr it'⟩
  · cases hi
    obtain ⟨a, its, n, ht, hv, it⟩ := it
    obtain ⟨x, hx, rx⟩ := hv.get hy
    refine wpAny_pyNext_tuple_item it ⟨_, ht, rfl, n, rfl⟩ (by simpa using hx) fun h' it' hs => k h' s.toks x hs (rx.mono (mono hs)) ⟨a, its, n, (mono hs).frz a _ ht (by simp [frozen]), hv.mono (mono hs), it'⟩
  · obtain ⟨a, dd, e, it⟩ := it
    split at hi
    · rename_i vs hvs
      cases hi
      obtain ⟨its, n, hL, hv⟩ := R.list_at hvs e
      obtain ⟨x, hx, rx⟩ := hv.get hy
      exact wpAny_pyNext_list_item it hL.isList (by simpa using hx) fun h' it' hs => k h' s.toks x hs (rx.mono (mono hs)) ⟨a, dd, e, it'⟩
    · cases hi
  · rename_i n
    split at hi
    · cases hi
      rw [List.getElem?_map] at hy
      have hlt : i < n.toNat := by
        rcases Nat.lt_or_ge i n.toNat with q | q
        · exact q
        · rw [List.getElem?_eq_none (by simpa using q)] at hy; cases hy
      rw [List.getElem?_range hlt] at hy; cases hy
      refine wpAny_pyNext_range_item it (by (clear k it; omega)) fun h' it' hs => k h' _ _ hs .int_mk ?_
      show IsRangeIter _ _ _ _ _
      rw [show ((i + 1 : Nat) : Int) = (i : Int) + 1 by (clear it hlt k it'; omega), show ((n.toNat : Int) - ((i : Int) + 1)) = (n.toNat : Int) - i - 1 by (clear it hlt k it'; omega)]
      exact it'
    · cases hi

theorem entry_unchain : entryFor table "proto.unchain" = some Builtin.«proto.unchain» := entryFor_of_fast (by kernel_rfl)
/-- an exception is made while another one, without a context, is being handled -/
theorem raiseNew_h {α : Type} {E : Value → Shared → Prop} {e : Addr} {oe : Obj} {vs : Array Value} {Q : α → Shared → Prop} (hx : HandAt A ι s.heap) (he : s.heap.get? e = some oe) (hd : oe.data = .fields vs) (h2 : 2 < vs.size)
    (k : ∀ h', Heap.SameBut e s.heap h' → (∃ oe', h'.get? e = some oe' ∧ oe'.cls = oe.cls) → E (.ref e) { s with heap := h' }) :
    wpAny (model T.prog T.w) A (raiseNew (.ref e) : Sem α) Q E s := by
  unfold raiseNew
  refine wpAny_bind (wpAny_handled ?_)
  cases hA : A.handled with
  | none => exact wpAny_bind (wpAny_pure (wpAny_throw (k _ (.refl ..) ⟨_, he, rfl⟩)))
  | some v =>
    obtain ⟨ea, o, C, ws, rfl, g1, g2, g3, g4, g5⟩ := hx v hA
    dsimp only
    by_cases q : (Value.ref ea != Value.ref e) = true
    · rw [if_pos q]
      refine wpAny_bind (wpAny_holding (runValue_entry entry_unchain ?_))
      unfold Builtin.«proto.unchain»
      dsimp only
      refine wpAny_bind (wpAny_field g1 g3 g4 ?_)
      rw [if_pos (by decide)]
      refine wpAny_bind (wpAny_pure (wpAny_pure ⟨_, rfl, ?_⟩))
      refine wpAny_bind (show wpAny _ _ (setField (.ref e) 2 (.ref ea)) _ _ _ from wpAny_setField he hd h2 (wpAny_throw (k _ (Heap.SameBut.update ..) ⟨_, Heap.get?_update_self _ he (Obj.isFreed_of_fields (Obj.data_mapFields hd _)), Obj.cls_mapFields _ _⟩)))
    · rw [if_neg q]
      exact wpAny_bind (wpAny_pure (wpAny_throw (k _ (.refl ..) ⟨_, he, rfl⟩)))
theorem range_end_h {E : Value → Shared → Prop} {it : Addr} {x left step : Int} {Q : Option Value → Shared → Prop} (hx : HandAt A ι s.heap) (hit : IsRangeIter s.heap it x left step) (hleft : left ≤ 0)
    (hQ : ∀ h', Heap.ExtBut it s.heap h' → Q none { s with heap := h' }) : wpAny (model T.prog T.w) A (pyNext (.ref it)) Q E s := by
  have hT : s.TypeIs (.ref it) "range_iterator" := ⟨_, hit, rfl⟩
  unfold pyNext
  refine wpAny_bind (wpAny_attempt (wpAny_callSpecial?_slot (name := Str.ofString "__next__") hT F.slot_range_iterator_next
    (wpAny_call_entry F.slot_range_iterator_next hT F.entry_range_iterator_next ?_ (F.args_range_iterator_next_1 _))))
  show wpAny _ _ (field (.ref it) 0 >>= _) _ _ s
  refine wpAny_bind (wpAny_field hit rfl (x := rawInt x) rfl ?_)
  show wpAny _ _ (field (.ref it) 1 >>= _) _ _ s
  refine wpAny_bind (wpAny_field hit rfl (x := rawInt left) rfl ?_)
  show wpAny _ _ (field (.ref it) 2 >>= _) _ _ s
  refine wpAny_bind (wpAny_field hit rfl (x := rawInt step) rfl ?_)
  show wpAny _ _ (if left ≤ 0 then _ else _) _ _ s
  rw [if_pos hleft]
  refine wpAny_bind (wpAny_rule ?_)
  refine wpAny_bind ?_
  show wpAny _ _ (newExc (.type "StopIteration") [] >>= _) _ _ _
  refine wpAny_bind ?_
  simp only [newExc, newTuple]
  refine wpAny_bind (wpAny_newObj_type ?_ (by size_fits))
  refine wpAny_bind (m := firstArgMember _ _) (wpAny_of_eq (a := Value.none) (by first | rfl | (simp only [firstArgMember]; rfl)) ?_)
  refine wpAny_newObj_type ?_ (by size_fits)
  have kp : ∀ (o₁ o₂ : Obj) b o, s.heap.get? b = some o → ((s.heap.push o₁).push o₂).get? b = some o := fun _ _ b o e => Heap.get?_push_of_some _ (Heap.get?_push_of_some _ e)
  have hx1 : HandAt A.in1 ι s.heap := hx
  refine raiseNew_h (ι := ι) (hx1.keep fun a o C e1 e2 e3 => ⟨kp _ _ _ _ e1, e3⟩) (Heap.get?_push_size _ rfl) rfl (by simp; (clear hleft; omega)) fun h' hs ho => ?_
  obtain ⟨oe', ho1, ho2⟩ := ho
  refine wpAny_bind (wpAny_isInstance (T := "StopIteration") (b := true) ⟨_, ho1, ho2⟩ isSubtype_stop ?_)
  refine wpAny_pure (hQ _ fun b o hb e => (hs.2 b (fun q => ?_)).trans (kp _ _ _ _ e))
  have := Heap.lt_size e
  rw [q, Heap.size_push] at this
  exact absurd this (Nat.not_lt.mpr (Nat.le_succ _))

theorem end_ok {E : Value → Shared → Prop} {items : List V} {Q : Option Value → Shared → Prop} (hh : A.handled = none ∨ (HandAt A ι s.heap ∧ ∃ n, v = .rng n)) (R : Rep T ι σ s.heap) (it : ItAt T ι s.heap v I i) (hi : iterV σ v = some items) (hy : items.length ≤ i)
    (k : ∀ h', Heap.ExtBut I s.heap h' → s.heap.objs.size ≤ h'.objs.size → Q none { s with heap := h' }) : wpAny (model T.prog T.w) A (pyNext (.ref I)) Q E s := by
  have hN : (∀ n, v ≠ .rng n) → A.handled = none := fun q => hh.elim id fun p => p.2.elim fun n e => absurd e (q n)
  have fin : wpAny (model T.prog T.w) A (pyNext (.ref I)) (fun r s' => r = none ∧ ∃ h', s' = { s with heap := h' } ∧ Heap.ExtBut I s.heap h') E s := by
    cases v <;> simp only [iterV, reduceCtorEq] at hi <;> simp only [ItAt] at it
    · cases hi
      obtain ⟨t, it | it⟩ := it
      · exact wpAny_pyNext_ascii_end (hN fun _ q => by cases q) it (by simpa using hy) fun h' e => ⟨rfl, h', rfl, e⟩
      · exact wpAny_pyNext_wide_end (hN fun _ q => by cases q) it (by simpa using hy) fun h' e => ⟨rfl, h', rfl, e⟩
    · cases hi
      obtain ⟨a, its, n, ht, hv, it⟩ := it
      have := hv.length
      simp only [Array.length_toList] at this
      exact wpAny_pyNext_tuple_end (hN fun _ q => by cases q) it ⟨_, ht, rfl, n, rfl⟩ (by simpa [this] using hy) fun h' e => ⟨rfl, h', rfl, e⟩
    · obtain ⟨a, dd, e, it⟩ := it
      split at hi
      · rename_i vs hvs
        cases hi
        obtain ⟨its, n, hL, hv⟩ := R.list_at hvs e
        have := hv.length
        simp only [Array.length_toList] at this
        exact wpAny_pyNext_list_end (hN fun _ q => by cases q) it hL.isList (by simpa [this] using hy) fun h' e => ⟨rfl, h', rfl, e⟩
      · cases hi
    · split at hi
      · cases hi
        simp only [List.length_map, List.length_range] at hy
        exact hh.elim (fun hh => wpAny_pyNext_range_end hh it (by (clear hN k it; omega)) fun h' e => ⟨rfl, h', rfl, e⟩) fun hh => range_end_h hh.1 it (by (clear hh hN k it; omega)) fun h' e => ⟨rfl, h', rfl, e⟩
      · cases hi
  refine wpAny_mono (wpAny_size fin) (fun r s' p => ?_) fun _ _ p => p.1
  obtain ⟨⟨rfl, h', rfl, e⟩, hz⟩ := p
  exact k h' e hz

theorem letOwned_ok {E : Value → Shared → Prop} {target : Expr} {x : Value} {Q : Unit → Shared → Prop} (it : ItAt T ι s.heap v I i) (k : Q () s) : wpAny (model T.prog T.w) A (letOwnedTupleGo target (.ref I) x) Q E s := by
  obtain ⟨o, n, ho, hc, hn, vs, hd⟩ := it.obj
  have no : ["enumerate", "zip", "dict_itemiterator", "dict_reverseitemiterator", "odict_iterator", "itertools.zip_longest", "itertools.pairwise"].contains n = false := by
    simp only [List.contains_iff_mem, List.mem_cons, List.not_mem_nil, or_false] at hn
    rcases hn with rfl | rfl | rfl | rfl | rfl <;> decide
  have main : ∀ a, wpAny (model T.prog T.w) A (do
      let o ← load I
      match o.cls, o.data with
      | .type n, .fields vs =>
        if ["enumerate", "zip", "dict_itemiterator", "dict_reverseitemiterator", "odict_iterator", "itertools.zip_longest", "itertools.pairwise"].contains n && vs[0]? == some (rawInt a) then
          rule "for.unpacks-the-owned-tuple"
          updateField I 0 .none
      | _, _ => pure ()) Q E s := fun a => by
    refine wpAny_bind (wpAny_load ho ?_)
    rw [hc, hd]
    simp only [no, Bool.false_and, Bool.false_eq_true, if_false]
    exact wpAny_pure k
  cases target <;> first | exact wpAny_pure k | (cases x <;> first | exact main _ | exact wpAny_pure k)
end
end Mine

namespace Mine
open PySem PySem.Calls PyProof.Rows PySem.SeqAt

/-- what a target's names become -/
noncomputable def nx1 (x : Str) (v : V) (ρ : Loc) : Option Loc := some (upd ρ x (some v))
noncomputable def nx2 (a b : Str) (v : V) (ρ : Loc) : Option Loc := match v with
  | .tup [p, q] => some (upd (upd ρ a (some p)) b (some q))
  | _ => none

noncomputable def loopQ (Q : QS) (N : Loc → Hp → Prop) : QS := fun fl ρ σ => match fl with
  | .next | .cont => N ρ σ
  | .brk => Q .next ρ σ
  | .ret v => Q (.ret v) ρ σ

section
variable {T : Tp} {A : Around} {fs : List Env} {d : Nat} {env : Env} {F : List Addr} {ι ι' : Inj} {h h' : Heap} {s : Shared} {ρ : Loc} {σ : Hp} {sc : Scope} {v : V} {I : Addr} {i : Nat}

theorem storeI {M : Model} {A' : Around} {E : Value → Shared → Prop} {x : Str} {v : V} {y : Value} {Q : Unit → Shared → Prop} (I : Inv T A fs d env F ρ ι σ s) (hk : isStore env.scope x = true) (r : VRel T ι s.heap v y)
    (k : ∀ h' t, Inv T A fs d env F (upd ρ x (some v)) ι σ { s with heap := h', toks := t } → Ext T F ι s.heap ι h' → Q () { s with heap := h', toks := t }) : wpAny M A' (storeName env x y) Q E s :=
  store_ok I.rep I.frm hk r fun h' t R' H' e' ds => k h' t (I.stored R' H' e' ds) e'

theorem Inv.grown {h' : Heap} (I0 : Inv T A fs d env F ρ ι σ s) (hz : s.heap.objs.size ≤ h'.objs.size) (k : ∀ b o, s.heap.get? b = some o → h'.get? b = some o) : Inv T A fs d env F ρ ι σ { s with heap := h' } :=
  I0.ext (.of_keeps hz k) (I0.rep.grow hz k) I0.gens I0.os

theorem tupItems {E : Value → Shared → Prop} {a : Addr} {items : Array Value} {n : Nat} {Q : List Value → Shared → Prop} (hh : A.handled = none) (ht : IsT s.heap a items n)
    (k : ∀ h', s.heap.objs.size ≤ h'.objs.size → (∀ b o, s.heap.get? b = some o → h'.get? b = some o) → Q items.toList { s with heap := h' }) : wpAny (model T.prog T.w) A (unpackItems (.ref a) items.size none) Q E s := by
  have fin : wpAny (model T.prog T.w) A (unpackItems (.ref a) items.size none) (fun r s' => r = items.toList ∧ ∃ h', s' = { s with heap := h' } ∧ Heap.ExtBut s.heap.objs.size s.heap h') E s :=
    unpackItems_tuple hh ⟨_, ht, rfl, n, rfl⟩ fun h' e => ⟨rfl, h', rfl, e⟩
  refine wpAny_mono (wpAny_size fin) (fun r s' p => ?_) fun _ _ p => p.1
  obtain ⟨⟨rfl, h', rfl, e⟩, hz⟩ := p
  exact k h' hz fun b o hb => e b o (Nat.ne_of_lt (Heap.lt_size hb)) hb

/-- an item goes to its names -/
noncomputable def AsgOk (T : Tp) (d : Nat) (sc : Scope) (t : Expr) (nx : V → Loc → Option Loc) : Prop :=
  ∀ {E : Value → Shared → Prop} {Q : Unit → Shared → Prop} {env : Env} {A : Around} {fs : List Env} {F : List Addr} {ρ ρ' : Loc} {ι : Inj} {σ : Hp} {s : Shared} {v : V} {x : Value}, env.scope = sc → Inv T A fs d env F ρ ι σ s → VRel T ι s.heap v x → nx v ρ = some ρ' →
    (∀ h' tk, Inv T A fs d env F ρ' ι σ { s with heap := h', toks := tk } → Ext T F ι s.heap ι h' → Q () { s with heap := h', toks := tk }) → wpAny (model T.prog T.w) A (assign t env x) Q E s
theorem asg_nm {x : Str} {p : Pos} (ht : isStore sc x = true) : AsgOk T d sc (.Name x p) (nx1 x) := fun hsc I r hl k => by
  cases hl; exact wpAny_assign_Name (storeI I (hsc ▸ ht) r k)
theorem asg_two {na nb : Str} {pa pb pp : Pos} {kk : Nat} (hd : T.hd = false) (ha : isStore sc na = true) (hb : isStore sc nb = true) : AsgOk T d sc (.Tuple [.Name na pa, .Name nb pb] kk pp) (nx2 na nb) := by
  intro E Q env A fs F ρ ρ' ι σ s v x hsc I r hl k
  subst hsc
  unfold nx2 at hl
  split at hl
  · rename_i p q
    cases hl
    obtain ⟨a, items, n, rfl, hT, hv⟩ := r.tup_inv
    obtain ⟨y₁, r₁, e₁, v₁, hv⟩ := VRels.cons_iff.mp hv
    obtain ⟨y₂, r₂, rfl, v₂, hv⟩ := VRels.cons_iff.mp hv
    cases VRels.nil_iff.mp hv
    have hsz : items.size = 2 := by rw [← Array.length_toList, e₁]; rfl
    rw [arm_assign_Tuple]
    refine wpAny_bind (wpAny_standAt ?_)
    unfold unpack
    show wpAny _ _ (do assignInOrder [assign (.Name na _) env, assign (.Name nb _) env] (← holding [.ref a] (unpackItems (.ref a) 2 none))) _ _ _
    refine wpAny_bind (wpAny_holding (hsz ▸ tupItems (I.aok.hd hd) hT fun h' hz hk => ?_))
    have e0 : Ext T F ι s.heap ι h' := .of_keeps hz hk
    rw [e₁]
    refine assignInOrder_cons (wpAny_assign_Name (storeI (I.grown hz hk) ha (v₁.mono e0.mono) fun h₂ t₂ I₂ e₂ => ?_))
    refine assignInOrder_cons (wpAny_assign_Name (storeI I₂ hb (v₂.mono (e0.trans e₂).mono) fun h₃ t₃ I₃ e₃ => ?_))
    exact assignInOrder_nil (k h₃ t₃ I₃ (e0.trans (e₂.trans e₃)))
  · cases hl

theorem StOk.while {X : XS} {Q : QS} {test : Expr} {body : List Stmt} {pos : Pos} (J : Nat → Loc → Hp → Prop) (n : Nat) (h0 : J n ρ σ)
    (turn : ∀ n ρ σ, J n ρ σ → TsOk T d sc ρ X test (fun b σ₁ => if b then ExOk T d sc ρ X body (loopQ Q fun ρ₂ σ₂ => ∃ m, m < n ∧ J m ρ₂ σ₂) σ₁ else Q .next ρ σ₁) σ) : StOk T d sc ρ X (.While test body [] pos) Q σ := by
  intro env A fs F ι s hsc I
  have hb := I.rep.size
  refine wpAny_While (codeAny_whileLoop (fun n s' => ∃ ρ' σ' ι', J n ρ' σ' ∧ Inv T A fs d env F ρ' ι' σ' s' ∧ Ext T F ι s.heap ι' s'.heap) (fun n s' hJ => ?_) n ⟨ρ, σ, ι, h0, I, .refl ..⟩)
  obtain ⟨ρ', σ', ι', j, I', e'⟩ := hJ
  refine wpAny_mono (turn n ρ' σ' j env A fs F ι' s' hsc I') (fun b s₁ p => ?_) fun x s₁ p => loop_ok hb ((p.sx I' fun _ _ k => k).trans e')
  obtain ⟨σ₁, ι₁, q, rp, ex, g, o⟩ := p
  have I₁ := I'.ext ex rp g o
  have e₁ := e'.trans ex.up
  cases b
  · exact wpAny_execs_nil ⟨.next, ρ', σ₁, ι₁, q, trivial, I₁, e₁⟩
  · refine wpAny_mono (q env A fs F ι₁ s₁ hsc I₁) (fun f s₂ p => ?_) fun x s₂ p => loop_ok hb (p.trans e₁)
    obtain ⟨fl, ρ₂, σ₂, ι₂, q₂, r₂, I₂, e₂⟩ := p
    cases fl <;> cases f <;> first | exact r₂.elim | skip
    · obtain ⟨m, hm, jm⟩ := q₂; exact ⟨m, hm, ρ₂, σ₂, ι₂, jm, I₂, e₁.trans e₂⟩
    · exact ⟨.next, ρ₂, σ₂, ι₂, q₂, trivial, I₂, e₁.trans e₂⟩
    · obtain ⟨m, hm, jm⟩ := q₂; exact ⟨m, hm, ρ₂, σ₂, ι₂, jm, I₂, e₁.trans e₂⟩
    · exact ⟨.ret _, ρ₂, σ₂, ι₂, q₂, r₂, I₂, e₁.trans e₂⟩

/-- the turns of a for loop, over any iterator's own tree -/
theorem forLoop_any {prog : Program} {w : World} {R : Result → Shared → Prop} {target : Expr} {it : Value} {body orelse : List Stmt} (J : Nat → Shared → Prop)
    (turn : ∀ n s, J n s → wpAny (model prog w) A (pyNext it) (fun r s₁ => match r with
      | none => wpAny (model prog w) A (execs orelse env) (fun f s₃ => R (.ok f) s₃) (notedBy (model prog w) A env fun e s' => R (.error e) s') s₁
      | some v => wpAny (model prog w) A (letOwnedTupleGo target it v) (fun _ s₁ => wpAny (model prog w) A (assign target env v) (fun _ s₂ => wpAny (model prog w) A (execs body env) (fun f s₃ => match f with
          | .next | .cont => ∃ m, m < n ∧ J m s₃
          | .brk => R (.ok .next) s₃
          | .ret v => R (.ok (.ret v)) s₃) (notedBy (model prog w) A env fun e s' => R (.error e) s') s₂) (notedBy (model prog w) A env fun e s' => R (.error e) s') s₁) (notedBy (model prog w) A env fun e s' => R (.error e) s') s₁)
      (notedBy (model prog w) A env fun e s' => R (.error e) s') s)
    (n : Nat) (h : J n s) : codeAny (model prog w) A (.forLoop target it body orelse env) R s := by
  refine codeAny_loop' rfl J (fun n s hJ => ?_) n h
  show wpAny _ _ ((forTurn target it body orelse env).onRaise (fun x => do noteFrame x env; theTreesLotGoes x)) _ _ s
  refine wpAny_noted ?_
  simp only [forTurn]
  refine wpAny_bind (wpAny_standAt (wpAny_bind (wpAny_onRaise (wpAny_mono (turn n s hJ) (fun r s₁ h₁ => ?_) fun _ _ h' => wpAny_standAt h'))))
  cases r with
  | none => exact wpAny_pure (.inr ⟨rfl, codeAny_block h₁⟩)
  | some v =>
    refine wpAny_bind (wpAny_mono h₁ (fun _ s₁ h₁ => ?_) fun _ _ h' => h')
    refine wpAny_bind (wpAny_mono h₁ (fun _ s₂ h₂ => wpAny_bind (wpAny_mono h₂ (fun f s₃ h₃ => ?_) fun _ _ h' => h')) fun _ _ h' => h')
    cases f with
    | next => exact wpAny_pure (.inl ⟨rfl, h₃⟩)
    | cont => exact wpAny_pure (.inl ⟨rfl, h₃⟩)
    | brk => exact wpAny_pure h₃
    | ret v => exact wpAny_pure h₃

noncomputable def noSet : Expr → Bool
  | .Set .. => false
  | _ => true
theorem folded_no {e : Expr} {x : Value} (h : noSet e = true) : foldedSetIterable e env x = pure x := by cases e <;> first | rfl | cases h

/-- the turns of a for loop -/
inductive ForOk (T : Tp) (d : Nat) (sc : Scope) (X : XS) (nx : V → Loc → Option Loc) (body : List Stmt) (Q : QS) (v : V) (ρ : Loc) (σ₁ : Hp) : Prop where
  | mk (items : List V) (J : Nat → Loc → Hp → Prop) (h0 : J 0 ρ σ₁) (h1 : ∀ i ρ σ, J i ρ σ → iterV σ v = some items) (h2 : ∀ ρ σ, J items.length ρ σ → Q .next ρ σ)
      (h3 : ∀ i x ρ σ, J i ρ σ → items[i]? = some x → ∃ ρ', nx x ρ = some ρ' ∧ ExOk T d sc ρ' X body (loopQ Q (J (i + 1))) σ) : ForOk T d sc X nx body Q v ρ σ₁
/-- a for loop: J i holds ahead of the item i -/
theorem StOk.forG {X : XS} {Q : QS} {target iter : Expr} {body : List Stmt} {pos : Pos} {nx : V → Loc → Option Loc}
    (he : EvOk T d sc ρ X iter (fun v σ₁ => ForOk T d sc X nx body Q v ρ σ₁) σ)
    (ha : AsgOk T d sc target nx) (hs : noSet iter = true) (hd : T.hd = false) : StOk T d sc ρ X (.For target iter body [] pos) Q σ := by
  intro env A fs F ι s hsc I
  have hb := I.rep.size
  refine wpAny_For (wpAny_mono (he env A fs F ι s hsc I) (fun x s₁ p => ?_) fun _ _ p => p.sx I fun _ _ k => k) fun _ => folded_no hs
  obtain ⟨v, σ₁, ι₁, ⟨items, J, j0, jit, jend, jturn⟩, rv, rp, ex, g, o⟩ := p
  have I₁ := I.ext ex rp g o
  refine iter_ok I₁.rep rv (jit 0 ρ σ₁ j0) fun ob it0 => ?_
  have e1 : Ext T F ι₁ s₁.heap ι₁ (s₁.heap.push ob) := .push ..
  have I₂ : Inv T A fs d env F ρ ι₁ σ₁ { s₁ with heap := s₁.heap.push ob } := I₁.grown (h' := s₁.heap.push ob) e1.size fun b o e => Heap.get?_push_of_some _ e
  have hI0 : s.heap.objs.size ≤ s₁.heap.objs.size := ex.size
  have hbI : T.b0.objs.size ≤ s₁.heap.objs.size := I₁.rep.size
  obtain ⟨JJ, hJJ⟩ : ∃ JJ : Nat → Shared → Prop, ∀ n s', JJ n s' ↔ ∃ i ρ' σ' ι', n = items.length - i ∧ i ≤ items.length ∧ J i ρ' σ' ∧ Inv T A fs d env F ρ' ι' σ' s' ∧ Ext T F ι s.heap ι' s'.heap ∧ ItAt T ι' s'.heap v s₁.heap.objs.size i ∧ s₁.heap.objs.size ∉ own ι' := ⟨_, fun _ _ => Iff.rfl⟩
  refine forLoop_any JJ (fun n s' hJ => ?_) items.length ((hJJ _ _).mpr ⟨0, ρ, σ₁, ι₁, rfl, Nat.zero_le _, j0, I₂, ex.up.trans e1, it0, fun q => absurd (I₁.rep.own_lt q) (Nat.lt_irrefl _)⟩)
  obtain ⟨i, ρ', σ', ι', rfl, hi, j, I', e', it, hn⟩ := (hJJ _ _).mp hJ
  have isit := it.iterish
  have hF : s₁.heap.objs.size ∉ F := fun q => by
    obtain ⟨o1, g1, _, g3⟩ := I'.frm.there _ q
    obtain ⟨o2, g4, g5⟩ := isit
    rw [g1] at g4; cases g4; rw [itr_iterish g3] at g5; cases g5
  by_cases hlt : i < items.length
  · have hx : items[i]? = some items[i] := List.getElem?_eq_getElem hlt
    refine next_ok I'.rep it hn (jit i ρ' σ' j) hx fun h' t y hs' ry it' => ?_
    have hk : ∀ b o, b ≠ s₁.heap.objs.size → s'.heap.get? b = some o → h'.get? b = some o := fun b o hb e => (hs'.2 b hb).trans e
    have I₃ : Inv T A fs d env F ρ' ι' σ' { s' with heap := h', toks := t } := I'.free hk (Nat.le_of_eq hs'.1.symm) isit hn hbI
    have e₃ : Ext T F ι s.heap ι' h' := e'.free hk (Nat.le_of_eq hs'.1.symm) hI0
    refine letOwned_ok (s := { s' with heap := h', toks := t }) it' ?_
    obtain ⟨ρ'', hl, hbody⟩ := jturn i _ ρ' σ' j hx
    refine ha hsc I₃ ry hl fun h₄ t₄ I₄ e₄ => ?_
    refine wpAny_mono (hbody env A fs F ι' _ hsc I₄) (fun f s₅ p => ?_) fun x s₅ p => loop_ok hb (p.trans (e₃.trans e₄))
    obtain ⟨fl, ρ₅, σ₅, ι₅, q₅, r₅, I₅, e₅⟩ := p
    have e₆ := e₃.trans (e₄.trans e₅)
    have e45 := e₄.trans e₅
    have next : J (i + 1) ρ₅ σ₅ → ∃ m, m < items.length - i ∧ JJ m s₅ := fun q => by
      refine ⟨items.length - (i + 1), by (clear hk hl hbody q₅ q hx ry it' hF hb j0 jit jturn it0 hI0 hbI hi hn; omega), (hJJ _ _).mpr ⟨i + 1, ρ₅, σ₅, ι₅, rfl, hlt, q, I₅, e₆, ?_, ?_⟩⟩
      · refine it'.keep e45.mono fun o ho => ?_
        obtain ⟨o', g, gi⟩ := it'.iterish
        rw [ho] at g; cases g
        exact e45.keep _ o ho hn hF fun q => by simp [iterish, q] at gi
      · obtain ⟨o', g, gi⟩ := it'.iterish
        exact e45.not_own hn (Heap.lt_size g)
    cases fl <;> cases f <;> first | exact r₅.elim | skip
    · exact next q₅
    · exact ⟨.next, ρ₅, σ₅, ι₅, q₅, trivial, I₅, e₆⟩
    · exact next q₅
    · exact ⟨.ret _, ρ₅, σ₅, ι₅, q₅, r₅, I₅, e₆⟩
  · have : i = items.length := by (clear hF hn hbI hI0 hb j0 jit jturn it0; omega)
    subst this
    refine end_ok (.inl (I'.aok.hd hd)) I'.rep it (jit _ ρ' σ' j) (Nat.le_refl _) fun h' he hz => ?_
    have I₃ : Inv T A fs d env F ρ' ι' σ' { s' with heap := h' } := I'.free (t := s'.toks) (fun b o hb e => he b o hb e) hz isit hn hbI
    exact wpAny_execs_nil ⟨.next, ρ', σ', ι', jend ρ' σ' j, trivial, I₃, e'.free (fun b o hb e => he b o hb e) hz hI0⟩
theorem StOk.for {X : XS} {Q : QS} {x : Str} {px pos : Pos} {iter : Expr} {body : List Stmt} (he : EvOk T d sc ρ X iter (fun v σ₁ => ForOk T d sc X (nx1 x) body Q v ρ σ₁) σ) (ht : isStore sc x = true) (hs : noSet iter = true) (hd : T.hd = false := by rfl) :
    StOk T d sc ρ X (.For (.Name x px) iter body [] pos) Q σ := .forG he (asg_nm ht) hs hd
theorem StOk.for2 {X : XS} {Q : QS} {a b : Str} {pa pb pp pos : Pos} {kk : Nat} {iter : Expr} {body : List Stmt} (he : EvOk T d sc ρ X iter (fun v σ₁ => ForOk T d sc X (nx2 a b) body Q v ρ σ₁) σ) (ht : isStore sc a = true) (hu : isStore sc b = true) (hs : noSet iter = true) (hd : T.hd = false := by rfl) :
    StOk T d sc ρ X (.For (.Tuple [.Name a pa, .Name b pb] kk pp) iter body [] pos) Q σ := .forG he (asg_two hd ht hu) hs hd
end
end Mine

namespace Mine
open PySem PySem.Calls PyProof.Rows PySem.SeqAt

/-- an own class whose objects are plain -/
structure ClsAt (T : Tp) (c : Str) (C : Addr) : Prop where
  addr : T.c c = some C
  ga : PySem.W.findIn T.K (.ref C) "__getattribute__" = some (some (.builtin "object.__getattribute__"))
  gx : PySem.W.findIn T.K (.ref C) "__getattr__" = some none
  sa : PySem.W.findIn T.K (.ref C) "__setattr__" = some (some (.builtin "object.__setattr__"))
  dict : ((PySem.W.clsIn T.K C).any (·.hasDict)) = true
  over : PySem.W.plainOver T.K C = true

/-- a value that an attribute hands on as it is -/
noncomputable def handV : V → Bool
  | .none | .bool _ | .int _ | .str _ | .tup _ | .ref _ | .rng _ | .exc _ => true
  | _ => false
theorem handed {T : Tp} {ι : Inj} {h : Heap} {v : V} {x : Value} (e : handV v = true) (r : VRel T ι h v x) : PySem.W.handedIn x = true := by
  cases v <;> first | (cases e; done) | skip
  · cases r.none_inv; rfl
  · cases r.bool_inv; rfl
  · obtain ⟨_, rfl⟩ := r.int_inv; rfl
  · obtain ⟨_, rfl⟩ := r.str_inv; rfl
  · obtain ⟨_, _, _, rfl, _⟩ := r.tup_inv; rfl
  · obtain ⟨_, _, rfl, _⟩ := r.ref_inv; rfl
  · unfold VRel at r; obtain ⟨_, _, _, _, rfl, _⟩ := r; rfl
  · unfold VRel at r; obtain ⟨_, _, _, rfl, _⟩ := r; rfl

theorem any_inv {α : Type} {o : Option α} {f : α → Bool} (h : o.any f = true) : ∃ x, o = some x ∧ f x = true := by
  cases o with
  | none => cases h
  | some x => exact ⟨x, rfl, h⟩

theorem lookIn_of {o : Obj} {es : Array DictEntry} {ep : Nat} (hd : o.data = .dict es ep) (hk : StrKeys es) (name : Str) : PySem.W.lookIn name o = some (nsFind es name) := by
  unfold PySem.W.lookIn
  rw [hd]
  dsimp only
  have hn : nsFind es name = (es.toList.find? (·.key.isStr name)).map (·.val) := by
    rw [Array.find?_toList]; rfl
  rw [hn]
  cases hf : es.toList.find? (·.key.isStr name) with
  | some e => rfl
  | none =>
    have : es.toList.any (·.refKey) = false := by
      rw [Array.any_toList, Array.any_eq_false']
      intro e he
      obtain ⟨n, t, h⟩ := hk e he
      simp [DictEntry.refKey, h]
    simp [this]

section
variable {T : Tp} {A : Around} {fs : List Env} {d : Nat} {env : Env} {F : List Addr} {ι ι' : Inj} {h h' : Heap} {s : Shared} {ρ : Loc} {σ : Hp} {sc : Scope} {X : QX} {Q : QE}

/-- an own object, in the heap -/
theorem Rep.inst_at (r : Rep T ι σ h) {l : Nat} {c : Str} {fs : List (Str × V)} {a dx : Addr} {C : Addr} (e : σ[l]? = some (.inst c fs)) (q : ι[l]? = some (a, dx)) (hc : T.c c = some C) :
    ∃ sl o es ep, h.get? a = some ⟨.ref C, some dx, .plain, sl⟩ ∧ h.get? dx = some o ∧ PySem.W.InstAt h a ⟨.ref C, some dx, .plain, sl⟩ C (some o) ∧ o.cls = .type "dict" ∧ o.data = .dict es ep ∧ StrKeys es ∧ ∀ x, ORelV T ι h (fs.lookup x) (nsFind es x) := by
  obtain ⟨C', m, sl, c1, c2, ⟨o, es, ep, d1, d2, d3, d4, d5, d6, d7⟩, c4, _⟩ := r.objs l _ _ e q
  rw [hc] at c1; cases c1
  exact ⟨sl, o, es, ep, c2, d1, ⟨c2, rfl, rfl, d1⟩, d2, d4, d5, fun x => by rw [d7]; exact c4 x⟩

theorem attr_ok {ov v : V} {x : Value} {attr : Str} {l : Nat} {c : Str} {gs : List (Str × V)} {C : Addr} {e : Bool} (TO : TopOk T) (S : St T A fs d ι σ s) (r : VRel T ι s.heap (.ref l) x) (hl : σ[l]? = some (.inst c gs)) (hv : gs.lookup attr = some v) (hh : handV v = true)
    (hc : ClsAt T c C) (hf : PySem.W.findIn T.K (.ref C) attr = some none) (q : Q v σ) : wpAny (model T.prog T.w) A (getAttr x attr e) (PostE T [] Q ι s.heap) (PostX T [] X ι s.heap) s := by
  obtain ⟨a, dx, rfl, hι⟩ := r.ref_inv
  obtain ⟨sl, o, es, ep, h1, h2, IA, h3, h4, h5, h6⟩ := S.rep.inst_at hl hι hc.addr
  have rv := h6 attr
  rw [hv] at rv
  cases hm : nsFind es attr with
  | none => rw [hm] at rv; exact rv.elim
  | some y =>
    rw [hm] at rv
    obtain ⟨cd, hcd, hdict⟩ := any_inv hc.dict
    refine PySem.W.get_value (TO.X0.keeps S.rep.base) IA hc.ga ?_ (handed hh rv) (S.post q rv _)
    unfold PySem.W.findObj
    rw [hcd, Option.bind_some, hf, Option.bind_some]
    simp only [Option.bind_some]
    unfold PySem.W.ownOf
    rw [hdict, if_pos rfl]
    show (PySem.W.lookIn attr o).bind _ = _
    rw [lookIn_of h4 h5, hm]
    rfl

noncomputable def plainBase : Expr → Bool
  | .Call (.Name _ _) [] [] _ => false
  | _ => true
theorem base_plain {o : Expr} {attr : Str} {whole : Sem Value} (h : plainBase o = true) : attributeBase o attr env whole = whole := by
  cases o <;> first | rfl | skip
  rename_i f as ks pos
  cases f <;> first | rfl | skip
  cases as <;> first | rfl | skip
  cases ks <;> first | rfl | cases h

/-- o.x, x among the object's own -/
inductive AttrOk (T : Tp) (attr : Str) (Q : QE) (o : V) (σ₁ : Hp) : Prop where
  | mk (l : Nat) (c : Str) (gs : List (Str × V)) (v : V) (C : Addr) (h0 : o = .ref l) (h1 : σ₁[l]? = some (.inst c gs)) (h2 : gs.lookup attr = some v) (h3 : handV v = true) (h4 : ClsAt T c C) (h5 : PySem.W.findIn T.K (.ref C) attr = some Option.none) (h6 : Q v σ₁) : AttrOk T attr Q o σ₁
theorem EvOk.attr {value : Expr} {attr : Str} {pos : Pos} (TO : TopOk T) (hp : plainBase value = true)
    (he : EvOk T d sc ρ X value (fun o σ₁ => AttrOk T attr Q o σ₁) σ) :
    EvOk T d sc ρ X (.Attribute value attr pos) Q σ := by
  intro env A fs F ι s hsc I
  rw [arm_eval_Attribute, base_plain hp]
  refine wpAny_bind (wpAny_mono (he env A fs F ι s hsc I) (fun x s₁ p => ?_) fun _ _ p => p)
  obtain ⟨o, σ₁, ι₁, ⟨l, c, gs, v, C, rfl, h1, h2, h3, h4, h5, q⟩, rv, rp, ex, g, oo⟩ := p
  have I₁ := I.ext ex rp g oo
  refine wpAny_bind (wpAny_standAt (wpAny_bind (wpAny_holding (wpAny_mono (attr_ok (ov := .none) TO I₁.st rv h1 h2 h3 h4 h5 q) (fun r s₂ p => ?_) fun _ _ p => p.trans ex))))
  exact wpAny_bind (wpAny_letTemporaryGo (wpAny_pure (p.trans ex)))

/-- what a built-in method of a kind is -/
structure MethFacts (ty : String) (name : Str) (id : String) : Prop where
  pa : PlainAttrs ty
  slot : Slot ty name id
  ty : typeOf (.builtin id) = pure (.type "method_descriptor")
noncomputable def kindV (σ : Hp) : V → Option String
  | .str _ => some "str"
  | .ref l => (match σ[l]? with | some (.list _) => some "list" | some (.sdict _) => some "dict" | _ => none)
  | _ => none

/-- what o.name is, called -/
noncomputable def Resolves (T : Tp) (σ : Hp) (ov : V) (name : Str) (f : V) : Prop :=
  (∃ l c gs C fa, ov = .ref l ∧ σ[l]? = some (.inst c gs) ∧ gs.lookup name = none ∧ ClsAt T c C ∧ f = .mth c name ∧ PySem.W.findIn T.K (.ref C) name = some (some (.ref fa)) ∧ PySem.W.typeIn T.K (.ref fa) = some (.type "function") ∧ PySem.W.keepIn T.K (.ref fa) = true) ∨
  (∃ id ty, f = .bi id ∧ kindV σ ov = some ty ∧ MethFacts ty name id)

set_option maxRecDepth 20000 in
theorem meth_ok {ov f : V} {x : Value} {name : Str} {pl : Sem Bool} {E : Value → Shared → Prop} {R : Value × List Value → Shared → Prop} (TO : TopOk T) (S : St T A fs d ι σ s) (r : VRel T ι s.heap ov x) (hr : Resolves T σ ov name f)
    (k : ∀ fv, VRel T ι s.heap f fv → (∀ h', T.K.In h' → ∃ k, (k = Keeper.frame ∨ k = Keeper.machine ∨ k = Keeper.boundFrame) ∧ PySem.W.Looks (model T.prog T.w) h' (keeperOf fv) k) → R (fv, [x]) s) : wpAny (model T.prog T.w) A (getMethod x name pl) R E s := by
  rcases hr with ⟨l, c, gs, C, fa, rfl, h1, h2, h3, rfl, h4, h5, h6⟩ | ⟨id, ty, rfl, h1, h2⟩
  · obtain ⟨a, dx, rfl, hι⟩ := r.ref_inv
    obtain ⟨sl, o, es, ep, g1, g2, IA, g3, g4, g5, g6⟩ := S.rep.inst_at h1 hι h3.addr
    have rv := g6 name
    rw [h2] at rv
    cases hm : nsFind es name with
    | some y => rw [hm] at rv; exact rv.elim
    | none =>
      refine PySem.W.method_fn (TO.X0.keeps S.rep.base) IA h3.ga h3.gx h4 h5 (by unfold PySem.W.shadowIn; simp only [lookIn_of g4 g5, hm]; rfl) (k _ ?_ fun h' X' => PySem.W.keeps_K h6 h' X')
      unfold VRel Tp.m
      rw [h3.addr, Option.bind_some, h4]; rfl
  · have hk : ∀ h', T.K.In h' → ∃ k, (k = Keeper.frame ∨ k = Keeper.machine ∨ k = Keeper.boundFrame) ∧ PySem.W.Looks (model T.prog T.w) h' (keeperOf (.builtin id)) k := fun h' _ =>
      ⟨.machine, .inr (.inl rfl), PySem.W.Looks.of_pure (by unfold keeperOf; rfl)⟩
    have rf : VRel T ι s.heap (.bi id) (.builtin id) := by unfold VRel; rfl
    cases ov <;> simp only [kindV, reduceCtorEq] at h1
    · cases h1
      obtain ⟨t, rfl⟩ := r.str_inv
      rename_i w0
      have hd0 : ∀ a, Value.str w0 t = .ref a → ∃ o, s.heap.get? a = some o ∧ o.dict = none := fun _ e => nomatch e
      have kk := k _ rf hk
      have hT : s.TypeIs (.str w0 t) "str" := rfl
      exact getMethod_builtin hT h2.pa h2.slot h2.ty hd0 kk
    · obtain ⟨a, dx, rfl, hι⟩ := r.ref_inv
      split at h1
      · rename_i vs hvs
        cases h1
        obtain ⟨items, n, hL, hv⟩ := S.rep.list_at hvs hι
        exact getMethod_builtin ⟨_, hL, rfl⟩ h2.pa h2.slot h2.ty (fun _ e => by cases e; exact ⟨_, hL, rfl⟩) (k _ rf hk)
      · rename_i kvs hvs
        cases h1
        obtain ⟨rvs, hd, hv, _⟩ := S.rep.sdict_at hvs hι
        exact getMethod_builtin hd.mapOf.typeIs h2.pa h2.slot h2.ty hd.mapOf.noDict (k _ rf hk)
      · cases h1

theorem EvOk.meth {o : Expr} {name : Str} {apos pos : Pos} {args : List Expr} (TO : TopOk T) (hp : plainBase o = true) (ns : noStar args = true) (hl : (apos.endLine == pos.line) = true) (hn : args.length < 30)
    (he : EvOk T d sc ρ X o (fun ov σ₁ => ∃ f, Resolves T σ₁ ov name f ∧ EvsOk T d sc ρ X args (fun vs σ₂ => CallOk T d X f (ov :: vs) Q σ₂) σ₁) σ) :
    EvOk T d sc ρ X (.Call (.Attribute o name apos) args [] pos) Q σ := by
  intro env A fs F ι s hsc I
  rw [arm_eval_Call, base_plain hp]
  refine wpAny_bind (wpAny_mono (he env A fs F ι s hsc I) (fun x s₁ p => ?_) fun _ _ p => p)
  obtain ⟨ov, σ₁, ι₁, ⟨f, hr, q⟩, rv, rp, ex, g, oo⟩ := p
  have I₁ := I.ext ex rp g oo
  refine wpAny_bind (wpAny_standAt ?_)
  rw [starEach_eq ns]
  have hform : methodCallForm (args.length + ([] : List Keyword).length) (args.map fun e => (false, eval e env)) (backToKw pos (keywordEach [] env)) = true := by
    show ((args.map fun e => (false, eval e env)).all (fun x => !x.1) && (backToKw pos (keywordEach [] env)).all (fun x => x.1.isSome) && decide (args.length + ([] : List Keyword).length + (if ([] : List Keyword).isEmpty then 0 else 1) < 30)) = true
    rw [show backToKw pos (keywordEach [] env) = [] from rfl]
    simp; (clear hl; omega)
  have hpos : methodCallPos true o env apos pos = pure pos := by unfold methodCallPos; simp [hl]
  unfold methodCall
  rw [hform]
  refine wpAny_bind (wpAny_holding (meth_ok TO I₁.st rv hr fun fv rf hk => ?_))
  refine wpAny_bind (wpAny_of_eq hpos ?_)
  refine PySem.W.callWith_of (P := T.K.In) (by rw [show backToKw pos (keywordEach [] env) = [] from rfl]; simp) hk (evalArgs_list (wpAny_mono (q env A fs F ι₁ s₁ hsc I₁) (fun xs s₂ p => ?_) fun _ _ p => p.trans ex))
  obtain ⟨vs, σ₂, ι₂, q₂, rvs, rp₂, ex₂, g₂, o₂⟩ := p
  have I₂ := I₁.ext ex₂ rp₂ g₂ o₂
  refine ⟨TO.X0.keeps I₂.rep.base, ?_⟩
  refine wpAny_mono (q₂ A fs ι₂ s₂ fv (x :: xs) I₂.st (rf.mono ex₂.mono) ?_) (fun _ _ p => p.trans (ex.trans ex₂)) fun _ _ p => p.trans (ex.trans ex₂)
  show VRels T ι₂ s₂.heap (ov :: vs) (x :: xs)
  unfold VRels
  exact ⟨rv.mono ex₂.mono, rvs⟩
end
end Mine

namespace Mine
open PySem PySem.Calls PyProof.Rows PySem.SeqAt

/-- a key's value set, at its place or at the end -/
noncomputable def setKV (kvs : List (Str × V)) (k : Str) (v : V) : List (Str × V) :=
  if kvs.any (fun kv => kv.1 = k) then kvs.map (fun kv => if kv.1 = k then (kv.1, v) else kv) else kvs ++ [(k, v)]

theorem lookup_any {α : Type} : ∀ (kvs : List (Str × α)) (k : Str), (kvs.lookup k).isSome = kvs.any fun kv => kv.1 = k
  | [], _ => rfl
  | (k', v) :: r, k => by
    rw [List.lookup_cons, List.any_cons]
    by_cases h : k = k'
    · subst h; simp
    · have h1 : (k == k') = false := beq_eq_false_iff_ne.mpr h
      have h2 : decide (k' = k) = false := decide_eq_false (Ne.symm h)
      rw [h1, h2]; simpa using lookup_any r k
theorem lookup_append {α : Type} : ∀ (a b : List (Str × α)) (k : Str), (a ++ b).lookup k = (a.lookup k).or (b.lookup k)
  | [], b, k => by simp
  | (k', v) :: r, b, k => by
    rw [List.cons_append, List.lookup_cons, List.lookup_cons]
    cases (k == k')
    · exact lookup_append r b k
    · simp
theorem lookup_map {v : V} {k : Str} : ∀ (kvs : List (Str × V)) (x : Str), (kvs.map fun kv => if kv.1 = k then (kv.1, v) else kv).lookup x = if x = k then (kvs.lookup k).map fun _ => v else kvs.lookup x
  | [], x => by simp
  | (k', w) :: r, x => by
    rw [List.map_cons]
    by_cases h : k' = k
    · subst h
      simp only [if_true, List.lookup_cons]
      by_cases hx : x = k'
      · subst hx; simp
      · rw [beq_eq_false_iff_ne.mpr hx, if_neg hx, lookup_map r x, if_neg hx]
    · simp only [h, if_false, List.lookup_cons]
      by_cases hx : x = k'
      · subst hx; simp [h]
      · rw [beq_eq_false_iff_ne.mpr hx, lookup_map r x, beq_eq_false_iff_ne.mpr (Ne.symm h)]
theorem setKV_lookup (kvs : List (Str × V)) (k x : Str) (v : V) : (setKV kvs k v).lookup x = if x = k then some v else kvs.lookup x := by
  unfold setKV
  have ha := lookup_any kvs k
  split
  · rename_i h
    rw [h] at ha
    rw [lookup_map]
    by_cases hx : x = k
    · rw [if_pos hx, if_pos hx]
      obtain ⟨w, hw⟩ := Option.isSome_iff_exists.mp ha
      rw [hw]; rfl
    · rw [if_neg hx, if_neg hx]
  · rename_i h
    rw [Bool.not_eq_true] at h
    rw [h] at ha
    have hn : kvs.lookup k = none := by cases q : kvs.lookup k with | none => rfl | some _ => rw [q] at ha; cases ha
    rw [lookup_append]
    by_cases hx : x = k
    · subst hx; rw [hn, if_pos rfl]; simp
    · rw [if_neg hx]
      have : ([(k, v)] : List (Str × V)).lookup x = none := by rw [List.lookup_cons, beq_eq_false_iff_ne.mpr hx]; rfl
      rw [this]; simp
theorem setKV_length (kvs : List (Str × V)) (k : Str) (v : V) : (setKV kvs k v).length = if (kvs.lookup k).isSome then kvs.length else kvs.length + 1 := by
  rw [lookup_any]; unfold setKV; split <;> simp

section
variable {T : Tp} {A : Around} {fs : List Env} {d : Nat} {env : Env} {F : List Addr} {ι ι' : Inj} {h h' : Heap} {s : Shared} {ρ : Loc} {σ : Hp} {sc : Scope} {X : XS} {Q : QS}

theorem KVRel.set {rvs : List (Str × Value)} {kvs : List (Str × V)} {k : Str} {v : V} {x : Value} (e : KVRel T ι h kvs rvs) (r : VRel T ι h v x) : KVRel T ι h (setKV kvs k v) (stored rvs k x) := by
  have hany : ∀ {kvs : List (Str × V)} {rvs : List (Str × Value)}, KVRel T ι h kvs rvs → (rvs.any fun kv => kv.1 = k) = (kvs.any fun kv => kv.1 = k) := by
    intro kvs rvs e
    induction kvs generalizing rvs with
    | nil => cases rvs with | nil => rfl | cons => exact e.elim
    | cons p q ih =>
      cases rvs with
      | nil => exact e.elim
      | cons p' q' => obtain ⟨k1, v1⟩ := p; obtain ⟨k2, x2⟩ := p'; obtain ⟨rfl, _, e3⟩ := e; simp [ih e3]
  unfold setKV stored
  rw [hany e]
  split
  · clear hany; rename_i hh; clear hh
    induction kvs generalizing rvs with
    | nil => cases rvs with | nil => trivial | cons => exact e.elim
    | cons p q ih =>
      cases rvs with
      | nil => exact e.elim
      | cons p' q' =>
        obtain ⟨k1, v1⟩ := p; obtain ⟨k2, x2⟩ := p'
        obtain ⟨rfl, e2, e3⟩ := e
        simp only [List.map_cons]
        by_cases hk : k1 = k
        · simp only [hk, if_true]; exact ⟨rfl, r, ih e3⟩
        · simp only [hk, if_false]; exact ⟨rfl, e2, ih e3⟩
  · clear hany; rename_i hh; clear hh
    induction kvs generalizing rvs with
    | nil => cases rvs with | nil => exact ⟨rfl, r, trivial⟩ | cons => exact e.elim
    | cons p q ih =>
      cases rvs with
      | nil => exact e.elim
      | cons p' q' => obtain ⟨k1, v1⟩ := p; obtain ⟨k2, x2⟩ := p'; obtain ⟨rfl, e2, e3⟩ := e; exact ⟨rfl, e2, ih e3⟩
theorem KVRel.length {rvs : List (Str × Value)} {kvs : List (Str × V)} (e : KVRel T ι h kvs rvs) : rvs.length = kvs.length := by
  induction kvs generalizing rvs with
  | nil => cases rvs with | nil => rfl | cons => exact e.elim
  | cons p q ih => cases rvs with | nil => exact e.elim | cons p' q' => simp [ih e.2.2]

/-- what a statement that turns one object of the mini heap leaves -/
theorem Inv.turned {l : Nat} {p : Addr × Addr} {o : MObj} {a : Addr} {ob ob' : Obj} {t : Nat} (I : Inv T A fs d env F ρ ι σ s) (hp : ι[l]? = some p) (hs : Heap.SameBut a s.heap h') (ha : a = p.1 ∨ a = p.2)
    (h1 : s.heap.get? a = some ob) (h2 : h'.get? a = some ob') (hc : ob'.cls = ob.cls) (hf : frozen ob = false) (ho : Mono ι s.heap ι h' → ORel T ι h' o p) :
    Inv T A fs d env F ρ ι (σ.set l o) { s with heap := h', toks := t } ∧ Ext T [] ι s.heap ι h' := by
  have hin : a ∈ own ι := mem_own.mpr ⟨p, List.mem_of_getElem? hp, ha⟩
  have e : Ext T [] ι s.heap ι h' := .of_sameBut hs h1 h2 hc hf (.inl hin)
  exact ⟨I.ext (s' := { s with heap := h', toks := t }) e (I.rep.turn hp e.mono hs ha (ho e.mono)) I.gens I.os, e⟩
theorem St.turned {l : Nat} {p : Addr × Addr} {o : MObj} {a : Addr} {ob ob' : Obj} {t : Nat} (I : St T A fs d ι σ s) (hp : ι[l]? = some p) (hs : Heap.SameBut a s.heap h') (ha : a = p.1 ∨ a = p.2)
    (h1 : s.heap.get? a = some ob) (h2 : h'.get? a = some ob') (hc : ob'.cls = ob.cls) (hf : frozen ob = false) (ho : Mono ι s.heap ι h' → ORel T ι h' o p) :
    St T A fs d ι (σ.set l o) { s with heap := h', toks := t } ∧ Ext T [] ι s.heap ι h' := by
  have hin : a ∈ own ι := mem_own.mpr ⟨p, List.mem_of_getElem? hp, ha⟩
  have e : Ext T [] ι s.heap ι h' := .of_sameBut hs h1 h2 hc hf (.inl hin)
  exact ⟨I.ext (s' := { s with heap := h', toks := t }) e (I.rep.turn hp e.mono hs ha (ho e.mono)) I.gens I.os, e⟩

theorem setAttr_ok {E : Value → Shared → Prop} {v : V} {x y : Value} {attr : Str} {l : Nat} {c : Str} {gs : List (Str × V)} {C : Addr} {R : Unit → Shared → Prop} (TO : TopOk T) (I : St T A fs d ι σ s) (r : VRel T ι s.heap (.ref l) x) (rv : VRel T ι s.heap v y)
    (hl : σ[l]? = some (.inst c gs)) (hc : ClsAt T c C) (ht : PySem.W.takerIn T.K C attr = some none) (hsz : gs.length < 1000)
    (k : ∀ h' t, St T A fs d ι (σ.set l (.inst c (setKV gs attr v))) { s with heap := h', toks := t } → Ext T [] ι s.heap ι h' → R () { s with heap := h', toks := t }) : wpAny (model T.prog T.w) A (setAttr x attr y) R E s := by
  obtain ⟨a, dx, rfl, hι⟩ := r.ref_inv
  obtain ⟨C', m, sl, c1, c2, hns, c4, c5⟩ := I.rep.objs l _ _ hl hι
  rw [hc.addr] at c1; cases c1
  have hns0 := hns
  obtain ⟨o, es, ep, d1, d2, d3, d4, d5, d6, d7⟩ := hns0
  have IA : PySem.W.InstAt s.heap a ⟨.ref C, some dx, .plain, sl⟩ C (some o) := ⟨c2, rfl, rfl, d1⟩
  have X₁ := TO.X0.keeps I.rep.base
  refine PySem.W.set_plain X₁ IA hc.sa ?_
  refine PySem.W.osa_open (s := { s with toks := s.toks + 1 }) X₁ IA hc.over ht fun b => ?_
  obtain ⟨cd, hcd, hdict⟩ := any_inv hc.dict
  refine wpAny_bind (wpAny_pure (wpAny_bind (wpAny_bind (wpAny_loadPart c2 (wpAny_bind ((PySem.W.looks_clsIn (M := model T.prog T.w) X₁ hcd).here (s := { s with toks := s.toks + 1 }) ?_))))))
  rw [hdict]
  refine wpAny_pure (a := some dx) (wpAny_bind (wpAny_pure (wpAny_bind ?_)))
  refine nsSetC (s := { s with toks := s.toks + 1 }) hns fun h' hn' hs hz => ?_
  have hz' := hz _ c5
  have hn0 := hn'
  obtain ⟨o', es', ep', e1, e2, e3, e4, _⟩ := hn0
  have hb := hz' o' es' ep' e1 e4
  refine wpAny_bind (wpAny_lookBehind (s := { s with heap := h', toks := s.toks + 1 + 1 }) e1 (by rw [e4]; exact pastItsLine_dict (by rw [sizeLine_eq]; split at hb <;> (clear hz' hs hz k hι hl; omega))) ?_)
  refine wpAny_pure ?_
  have hne : a ≠ dx := fun q => by rw [q, d1] at c2; cases c2; cases d4
  obtain ⟨S', ex⟩ := St.turned (t := s.toks + 1 + 1) (o := .inst c (setKV gs attr v)) I hι hs (.inr rfl) d1 e1 (e2.trans d2.symm) (by simp [frozen, d2]) fun mo =>
    ⟨C, _, sl, hc.addr, (hs.2 a hne).trans c2, hn', fun z => by
      rw [setKV_lookup]
      by_cases q : z = attr
      · rw [if_pos q, if_pos q]; exact rv.mono mo
      · rw [if_neg q, if_neg q]; exact (c4 z).mono mo, by
      rw [setKV_length]
      have : (gs.lookup attr).isSome = (m attr).isSome := by
        have := c4 attr
        cases q1 : gs.lookup attr <;> cases q2 : m attr <;> rw [q1, q2] at this <;> first | rfl | exact this.elim
      rw [this]; exact hz'⟩
  exact k h' _ S' ex

inductive SetAttrOk (T : Tp) (attr : Str) (ρ : Loc) (Q : QS) (v ov : V) (σ₂ : Hp) : Prop where
  | mk (l : Nat) (c : Str) (gs : List (Str × V)) (C : Addr) (h0 : ov = .ref l) (h1 : σ₂[l]? = some (.inst c gs)) (h2 : ClsAt T c C) (h3 : PySem.W.takerIn T.K C attr = some none) (h4 : gs.length < 1000) (h5 : Q .next ρ (σ₂.set l (.inst c (setKV gs attr v)))) : SetAttrOk T attr ρ Q v ov σ₂
inductive SetItemOk (ρ : Loc) (Q : QS) (v ov iv : V) (σ₃ : Hp) : Prop where
  | mk (l : Nat) (k : Str) (kvs : List (Str × V)) (h0 : ov = .ref l) (h1 : iv = .str k) (h2 : σ₃[l]? = some (.sdict kvs)) (h3 : kvs.length ≤ sizeLine) (h4 : Q .next ρ (σ₃.set l (.sdict (setKV kvs k v)))) : SetItemOk ρ Q v ov iv σ₃
theorem StOk.setAttr {o value : Expr} {attr : Str} {pos' pos : Pos} (TO : TopOk T)
    (q : EvOk T d sc ρ X value (fun v σ₁ => EvOk T d sc ρ X o (fun ov σ₂ => SetAttrOk T attr ρ Q v ov σ₂) σ₁) σ) (hc : noComp value = true ) :
    StOk T d sc ρ X (.Assign [.Attribute o attr pos'] value pos) Q σ := by
  intro env A fs F ι s hsc I
  refine plainObj_wpAny_Assign_Attribute (wpAny_mono (q env A fs F ι s hsc I) (fun y s₁ p => ?_) fun _ _ p => p.sx I fun _ _ k => k) (swaps_no hc)
  obtain ⟨v, σ₁, ι₁, q, rv, rp, ex, g, oo⟩ := p
  have I₁ := I.ext ex rp g oo
  refine wpAny_mono (q env A fs F ι₁ s₁ hsc I₁) (fun x s₂ p => ?_) fun _ _ p => (p.sx I₁ fun _ _ k => k).trans ex.up
  obtain ⟨ov, σ₂, ι₂, ⟨l, c, gs, C, rfl, h1, h2, h3, h4, q⟩, ro, rp₂, ex₂, g₂, o₂⟩ := p
  have I₂ := I₁.ext ex₂ rp₂ g₂ o₂
  refine setAttr_ok TO I₂.st ro (rv.mono ex₂.mono) h1 h2 h3 h4 fun h' t S' e' => ?_
  exact ⟨.next, ρ, _, ι₂, q, trivial, I₂.ext (s' := { s₂ with heap := h', toks := t }) e' S'.rep S'.gens S'.os, (ex.trans (ex₂.trans e')).up⟩

theorem StOk.setItem {o i value : Expr} {pos' pos : Pos} 
    (q : EvOk T d sc ρ X value (fun v σ₁ => EvOk T d sc ρ X o (fun ov σ₂ => EvOk T d sc ρ X i (fun iv σ₃ => SetItemOk ρ Q v ov iv σ₃) σ₂) σ₁) σ) (hc : noComp value = true ) :
    StOk T d sc ρ X (.Assign [.Subscript o i pos'] value pos) Q σ := by
  intro env A fs F ι s hsc I
  refine wpAny_Assign_Subscript (wpAny_mono (q env A fs F ι s hsc I) (fun y s₁ p => ?_) fun _ _ p => p.sx I fun _ _ k => k) (swaps_no hc)
  obtain ⟨v, σ₁, ι₁, q, rv, rp, ex, g, oo⟩ := p
  have I₁ := I.ext ex rp g oo
  refine wpAny_mono (q env A fs F ι₁ s₁ hsc I₁) (fun x s₂ p => ?_) fun _ _ p => (p.sx I₁ fun _ _ k => k).trans ex.up
  obtain ⟨ov, σ₂, ι₂, q, ro, rp₂, ex₂, g₂, o₂⟩ := p
  have I₂ := I₁.ext ex₂ rp₂ g₂ o₂
  refine wpAny_mono (q env A fs F ι₂ s₂ hsc I₂) (fun z s₃ p => ?_) fun _ _ p => (p.sx I₂ fun _ _ k => k).trans (ex.trans ex₂).up
  obtain ⟨iv, σ₃, ι₃, ⟨l, k, kvs, rfl, rfl, h1, h2, qq⟩, ri, rp₃, ex₃, g₃, o₃⟩ := p
  have I₃ := I₂.ext ex₃ rp₃ g₃ o₃
  obtain ⟨a, dx, rfl, hι⟩ := (ro.mono ex₃.mono).ref_inv
  obtain ⟨t, rfl⟩ := ri.str_inv
  obtain ⟨hp, rvs, hd, hv⟩ := I₃.rep.objs l _ _ h1 hι
  cases hp
  refine wpAny_setItem_pairs (knd := PySem.strKind T.prog T.w) (k := k) (by simp [PySem.strKind, Value.isStrOf]) hd (fun h' hd' hs => ?_) (by rw [hv.length]; exact h2)
  have hd0 := hd; have hd1 := hd'
  obtain ⟨ob, es, ep, b1, b2, b3, _⟩ := hd0
  obtain ⟨ob', es', ep', b1', b2', b3', _⟩ := hd1
  obtain ⟨I₄, ex₄⟩ := Inv.turned (t := s₃.toks + 1) (o := .sdict (setKV kvs k v)) I₃ hι hs (.inl rfl) b1 b1' (b2'.1.trans b2.1.symm) (by simp [frozen, b2.1]) fun mo =>
    ⟨rfl, _, hd', (hv.mono mo).set ((rv.mono (ex₂.trans ex₃).mono).mono mo)⟩
  exact ⟨.next, ρ, _, ι₃, qq, trivial, I₄, (ex.trans (ex₂.trans (ex₃.trans ex₄))).up⟩
end

section
variable {T : Tp} {A : Around} {fs : List Env} {d : Nat} {env : Env} {F : List Addr} {ι ι' : Inj} {h h' : Heap} {s : Shared} {ρ : Loc} {σ : Hp} {sc : Scope} {X : QX} {Q : QE}
theorem EvOk.dict {pos : Pos} (q : Q (.ref σ.length) (σ ++ [.sdict []])) : EvOk T d sc ρ X (.Dict [] [] pos) Q σ := by
  intro env A fs F ι s hsc I
  refine wpAny_Dict_empty ?_
  have hget : (s.heap.push { cls := .type "dict", data := .dict #[] }).get? s.heap.objs.size = some { cls := .type "dict", data := .dict #[] } := Heap.get?_push_size _ rfl
  have no : s.heap.objs.size ∉ own ι := fun z => absurd (I.rep.own_lt z) (Nat.lt_irrefl _)
  have e := Ext.push T [] ι s.heap { cls := .type "dict", data := .dict #[] }
  refine ⟨_, _, ι ++ [(s.heap.objs.size, s.heap.objs.size)], q, ?_, (I.rep.push _).more (p := (s.heap.objs.size, s.heap.objs.size)) ⟨rfl, [], ?_, trivial⟩ I.rep.size I.rep.size no no, ⟨⟨[(s.heap.objs.size, s.heap.objs.size)], rfl, by simp⟩, e.size, e.cls, e.frz, e.keep, e.frm⟩, I.gens, I.os⟩
  · unfold VRel; exact ⟨s.heap.objs.size, s.heap.objs.size, rfl, by rw [← I.rep.len]; simp⟩
  · exact ⟨_, #[], 0, hget, ⟨rfl, rfl, rfl⟩, rfl, fun _ h => by simp at h, .nil, by simp⟩

/-- C(..): a new object, then its __init__ -/
theorem CallOk.make {c : Str} {C fI : Addr} {args : List V} (TO : TopOk T) (hc : T.c c = some C) (hm : PySem.W.makesIn T.K C = true) (hi : PySem.W.findIn T.K (.ref C) "__init__" = some (some (.ref fI))) (ht : PySem.W.typeIn T.K (.ref fI) = some (.type "function"))
    (hb : CodeOk T d X (.mth c "__init__") (.ref σ.length :: args) (fun v σ' => v = .none ∧ Q (.ref σ.length) σ') (σ ++ [.inst c []])) : CallOk T (d + 1) X (.glob c) args Q σ := by
  intro A fs ι s fv xs S rf rxs
  have hg : T.g c = some (.ref C) := by
    unfold Tp.c at hc
    split at hc
    · rename_i hq; cases hc; exact hq
    · cases hc
  unfold VRel at rf
  rw [hg] at rf; cases rf
  have X₁ := TO.X0.keeps S.rep.base
  refine wpAny_call ?_
  obtain ⟨hh, gn, dr, tk, os⟩ := s
  refine PySem.W.make_core (PySem.W.makes_of X₁ hm) (PySem.W.looks_findIn X₁ hi) (fun self => PySem.W.bind_fn X₁ self ht) (.inl rfl) ?_
  have no : ∀ a, hh.objs.size ≤ a → a ∉ own ι := fun a ha q => absurd (S.rep.own_lt q) (Nat.not_lt.mpr ha)
  have e1 := Ext.push T [] ι hh PySem.W.emptyDict
  have e2 := Ext.push T [] ι (hh.push PySem.W.emptyDict) (PySem.W.instObj C hh.objs.size)
  have e0 := e1.trans e2
  have hd : ((hh.push PySem.W.emptyDict).push (PySem.W.instObj C hh.objs.size)).get? hh.objs.size = some PySem.W.emptyDict := Heap.get?_push_of_some _ (Heap.get?_push_size _ rfl)
  have hx : ((hh.push PySem.W.emptyDict).push (PySem.W.instObj C hh.objs.size)).get? (hh.objs.size + 1) = some (PySem.W.instObj C hh.objs.size) := by
    have := Heap.get?_push_size (hh.push PySem.W.emptyDict) (o := PySem.W.instObj C hh.objs.size) rfl
    rwa [Heap.size_push] at this
  have hsz : hh.objs.size ≤ hh.objs.size + 1 := by (clear S no hx; omega)
  have R' : Rep T (ι ++ [(hh.objs.size + 1, hh.objs.size)]) (σ ++ [.inst c []]) ((hh.push PySem.W.emptyDict).push (PySem.W.instObj C hh.objs.size)) := by
    have R0 : Rep T ι σ hh := S.rep
    refine ((R0.push _).push _).more (p := (hh.objs.size + 1, hh.objs.size)) ⟨C, fun _ => none, #[], hc, hx, ⟨_, #[], 0, hd, rfl, rfl, rfl, fun e he => by simp at he, List.Pairwise.nil, fun _ => rfl⟩, fun _ => trivial, fun o es ep ho hdd => ?_⟩ (Nat.le_trans R0.size hsz) R0.size (no _ hsz) (no _ (Nat.le_refl _))
    rw [hd] at ho; cases ho; cases hdd; simp
  have eX : Ext T [] ι hh (ι ++ [(hh.objs.size + 1, hh.objs.size)]) ((hh.push PySem.W.emptyDict).push (PySem.W.instObj C hh.objs.size)) :=
    ⟨⟨[(hh.objs.size + 1, hh.objs.size)], rfl, by simp⟩, e0.size, e0.cls, e0.frz, e0.keep, e0.frm⟩
  have aok : AOk T (A.under (.builtin "type.__call__" ⟨.ref C :: xs, []⟩)) fs d (ι ++ [(hh.objs.size + 1, hh.objs.size)]) ((hh.push PySem.W.emptyDict).push (PySem.W.instObj C hh.objs.size)) := by
    have a0 := S.aok.ext eX (fun _ _ _ _ q => by simp at q) (fun _ q => by simp at q)
    refine ⟨a0.frames, a0.funs, ?_, ?_, a0.hd, a0.hx⟩
    · have := S.aok.depth
      show A.depth + 1 + d ≤ _
      (clear a0 R' eX S no hx hsz; omega)
    · have := S.aok.units
      show A.units + 1 + 10 * d + 50 ≤ _
      (clear a0 R' eX S no hx hsz; omega)
  have rI : VRel T (ι ++ [(hh.objs.size + 1, hh.objs.size)]) ((hh.push PySem.W.emptyDict).push (PySem.W.instObj C hh.objs.size)) (.mth c "__init__") (.ref fI) := by
    unfold VRel Tp.m; rw [hc, Option.bind_some, hi]; rfl
  have rS : VRel T (ι ++ [(hh.objs.size + 1, hh.objs.size)]) ((hh.push PySem.W.emptyDict).push (PySem.W.instObj C hh.objs.size)) (.ref σ.length) (.ref (hh.objs.size + 1)) := by
    unfold VRel; exact ⟨hh.objs.size + 1, hh.objs.size, rfl, by rw [← S.rep.len]; simp⟩
  refine codeAny_mono (hb _ fs _ ⟨(hh.push PySem.W.emptyDict).push (PySem.W.instObj C hh.objs.size), gn, dr, tk, os⟩ (.ref fI) (.ref (hh.objs.size + 1) :: xs) ⟨R', aok, S.gens, S.os⟩ rI ?_) fun r s' z => ?_
  · show VRels T _ _ (_ :: _) (_ :: _)
    unfold VRels
    exact ⟨rS, rxs.mono eX.mono⟩
  · rcases r with e | (_ | _ | _ | v)
    · exact PostX.trans (T := T) (F := []) (X := X) eX z
    · exact z.elim
    · exact z.elim
    · exact z.elim
    · obtain ⟨w, σ', ι', ⟨rfl, q⟩, rw', rp, ex, g, o⟩ := z
      cases rw'.none_inv
      exact ⟨rfl, .ref σ.length, σ', ι', q, rS.mono ex.mono, rp, eX.trans ex, g, o⟩
end
end Mine

namespace Mine
open PySem PySem.Calls PyProof.Rows PySem.SeqAt

/-- the scope of a comprehension, in a function of scope sc -/
noncomputable def relab (scope sc : Scope) : Scope :=
  { scope with names := scope.names.map fun (n, k) => if (k == .free && sc.kind == .function && sc.names.lookup n == some .cell) then (n, .cell) else (n, k) }
noncomputable def compLoc (scope : Scope) (ρ : Loc) : Loc := fun x => if scope.names.lookup x = some .free then ρ x else none

noncomputable def relK (sc : Scope) (n : Str) (k : NameKind) : NameKind := if (k == .free && sc.kind == .function && sc.names.lookup n == some .cell) then .cell else k
theorem relab_lookup {sc : Scope} : ∀ (names : List (Str × NameKind)) (x : Str),
    (names.map fun (n, k) => if (k == NameKind.free && sc.kind == .function && sc.names.lookup n == some .cell) then (n, NameKind.cell) else (n, k)).lookup x = (names.lookup x).map (relK sc x)
  | [], _ => rfl
  | (n, k) :: r, x => by
    have ih := relab_lookup (sc := sc) r x
    rw [List.map_cons, List.lookup_cons]
    have e : (if (k == NameKind.free && sc.kind == .function && sc.names.lookup n == some .cell) then (n, NameKind.cell) else (n, k)) = (n, relK sc n k) := by
      unfold relK; split <;> rfl
    dsimp only
    rw [e, List.lookup_cons]
    cases hx : x == n with
    | true => rw [beq_iff_eq.mp hx]; rfl
    | false => exact ih

noncomputable def closeFrom (env : Env) : List (Str × NameKind) → List (Str × Addr) → List (Str × Addr)
  | [], acc => acc
  | (n, k) :: r, acc => if k == .free then (match env.cells.lookup n with | some c => closeFrom env r ((n, c) :: acc) | none => acc) else closeFrom env r acc

theorem closure_eq {env : Env} {scope : Scope} (h : ∀ x ∈ scope.names, x.2 = .free → (env.cells.lookup x.1).isSome = true) : closureFor scope env = pure (closeFrom env scope.names []) := by
  have : ∀ (names : List (Str × NameKind)) (acc : List (Str × Addr)), (∀ x ∈ names, x.2 = .free → (env.cells.lookup x.1).isSome = true) →
      (forIn names acc fun (x : Str × NameKind) (cs : List (Str × Addr)) => (if x.2 == NameKind.free then (do let a ← cellOf env x.1; pure (ForInStep.yield ((x.1, a) :: cs))) else pure (ForInStep.yield cs) : Sem (ForInStep (List (Str × Addr))))) = pure (closeFrom env names acc) := by
    intro names
    induction names with
    | nil => intro acc _; rfl
    | cons p r ih =>
      intro acc hp
      obtain ⟨n, k⟩ := p
      rw [List.forIn_cons]
      have hr : ∀ x ∈ r, x.2 = .free → (env.cells.lookup x.1).isSome = true := fun x hx => hp x (List.mem_cons_of_mem _ hx)
      by_cases hk : (k == NameKind.free) = true
      · obtain ⟨c, hc⟩ := Option.isSome_iff_exists.mp (hp (n, k) List.mem_cons_self (beq_iff_eq.mp hk))
        have hc' : env.cells.lookup n = some c := hc
        simp only [hk, if_true, closeFrom, hc']
        rw [show cellOf env n = pure c by unfold cellOf; rw [hc']]
        show (forIn r ((n, c) :: acc) _ : Sem _) = _
        exact ih _ hr
      · simp only [hk, closeFrom]
        show (forIn r acc _ : Sem _) = _
        exact ih _ hr
  unfold closureFor
  have e := this scope.names [] h
  show (forIn scope.names [] _ >>= fun cs => pure cs) = _
  have e2 : (forIn scope.names ([] : List (Str × Addr)) fun (x : Str × NameKind) (cs : List (Str × Addr)) => (match x with | (name, kind) => if (kind == NameKind.free) = true then do let __do_lift ← cellOf env name; pure (ForInStep.yield ((name, __do_lift) :: cs)) else pure (ForInStep.yield cs) : Sem (ForInStep (List (Str × Addr))))) = pure (closeFrom env scope.names []) := e
  first
    | (rw [e2]; rfl)
    | (simp only [bind_pure]; exact e2)
    | (simp only [bind_pure_comp, id_map']; exact e2)

theorem closeFrom_acc {env : Env} : ∀ (names : List (Str × NameKind)) (acc : List (Str × Addr)) (p : Str × Addr), (∀ x ∈ names, x.2 = .free → (env.cells.lookup x.1).isSome = true) → p ∈ acc → p ∈ closeFrom env names acc
  | [], _, _, _, h => h
  | (n, k) :: r, acc, p, hs, h => by
    have hr : ∀ x ∈ r, x.2 = .free → (env.cells.lookup x.1).isSome = true := fun x hx => hs x (List.mem_cons_of_mem _ hx)
    unfold closeFrom
    split
    · rename_i hk
      obtain ⟨c, hc⟩ := Option.isSome_iff_exists.mp (hs (n, k) List.mem_cons_self (beq_iff_eq.mp hk))
      rw [show env.cells.lookup n = some c from hc]
      exact closeFrom_acc r _ p hr (List.mem_cons_of_mem _ h)
    · exact closeFrom_acc r _ p hr h
theorem closeFrom_mem {env : Env} : ∀ (names : List (Str × NameKind)) (acc : List (Str × Addr)) (x : Str), (∀ x ∈ names, x.2 = .free → (env.cells.lookup x.1).isSome = true) → (x, NameKind.free) ∈ names → ∃ c, (x, c) ∈ closeFrom env names acc
  | (n, k) :: r, acc, x, hs, h => by
    have hr : ∀ x ∈ r, x.2 = .free → (env.cells.lookup x.1).isSome = true := fun x hx => hs x (List.mem_cons_of_mem _ hx)
    unfold closeFrom
    rcases List.mem_cons.mp h with e | h
    · obtain ⟨rfl, rfl⟩ := Prod.mk.inj e
      obtain ⟨c, hc⟩ := Option.isSome_iff_exists.mp (hs (x, .free) List.mem_cons_self rfl)
      rw [if_pos (show (NameKind.free == NameKind.free) = true from rfl), show env.cells.lookup x = some c from hc]
      exact ⟨c, closeFrom_acc r _ _ hr List.mem_cons_self⟩
    · split
      · rename_i hk
        obtain ⟨c, hc⟩ := Option.isSome_iff_exists.mp (hs (n, k) List.mem_cons_self (beq_iff_eq.mp hk))
        rw [show env.cells.lookup n = some c from hc]
        exact closeFrom_mem r _ x hr h
      · exact closeFrom_mem r _ x hr h
theorem closeFrom_val {env : Env} : ∀ (names : List (Str × NameKind)) (acc : List (Str × Addr)), (∀ p ∈ acc, env.cells.lookup p.1 = some p.2) → ∀ p ∈ closeFrom env names acc, env.cells.lookup p.1 = some p.2
  | [], _, h => h
  | (n, k) :: r, acc, h => by
    unfold closeFrom
    split
    · split
      · rename_i c hc
        exact closeFrom_val r _ fun p hp => by
          rcases List.mem_cons.mp hp with e | hp
          · cases e; exact hc
          · exact h p hp
      · exact h
    · exact closeFrom_val r _ h

theorem cellsFrom_append : ∀ (names : List (Str × NameKind)) (n : Nat) (acc cl : List (Str × Addr)), cellsFrom n names (acc ++ cl) = cellsFrom n names acc ++ cl
  | [], _, _, _ => rfl
  | (_, kind) :: r, n, acc, cl => by
    unfold cellsFrom
    split
    · rw [← List.cons_append]; exact cellsFrom_append r _ _ _
    · exact cellsFrom_append r _ _ _
theorem cellsFrom_names : ∀ (names : List (Str × NameKind)) (n : Nat) (acc : List (Str × Addr)) (p : Str × Addr), p ∈ cellsFrom n names acc → p ∈ acc ∨ (p.1, NameKind.cell) ∈ names
  | [], _, _, _, h => .inl h
  | (x, kind) :: r, n, acc, p, h => by
    unfold cellsFrom at h
    split at h
    · rename_i hk
      rcases cellsFrom_names r _ _ p h with h | h
      · rcases List.mem_cons.mp h with e | h
        · subst e; exact .inr (by rw [beq_iff_eq.mp hk]; exact List.mem_cons_self)
        · exact .inl h
      · exact .inr (List.mem_cons_of_mem _ h)
    · rcases cellsFrom_names r _ _ p h with h | h
      · exact .inl h
      · exact .inr (List.mem_cons_of_mem _ h)

/-- a comprehension's scope that can be walked in a function of scope sc -/
noncomputable def compOk (scope sc : Scope) : Bool :=
  scope.kind == .function && decide ((scope.names.map (·.1)).Nodup) && scope.names.all fun p => p.2 != .free || (match sc.names.lookup p.1 with | some .cell | some .free => true | _ => false)

theorem nodup_kind {names : List (Str × NameKind)} (hn : (names.map (·.1)).Nodup) {x : Str} {k k' : NameKind} (h : (x, k) ∈ names) (h' : (x, k') ∈ names) : k = k' := by
  induction names with
  | nil => cases h
  | cons p r ih =>
    rw [List.map_cons, List.nodup_cons] at hn
    rcases List.mem_cons.mp h with e | h <;> rcases List.mem_cons.mp h' with e' | h'
    · rw [← e'] at e; exact (Prod.mk.inj e).2
    · exact absurd (List.mem_map.mpr ⟨(x, k'), h', by rw [← e]⟩) hn.1
    · exact absurd (List.mem_map.mpr ⟨(x, k), h, by rw [← e']⟩) hn.1
    · exact ih hn.2 h h'

section
variable {T : Tp} {A : Around} {fs : List Env} {d : Nat} {ι : Inj} {σ : Hp} {s : Shared} {sc : Scope} {env : Env} {F : List Addr} {ρ : Loc}

noncomputable def cenvOf (scope : Scope) (env : Env) (L : Addr) : Env :=
  { scope := relab scope env.scope, locals := L, globals := env.globals, cells := cellsFrom (L + 1) scope.names (closeFrom env scope.names []), qual := env.qual, func := none, code := env.code, frame := env.frame, builtins := env.builtins }

theorem comp_frame {scope : Scope} (I : Inv T A fs d env F ρ ι σ s) (ok : compOk scope env.scope = true) (h₁ : Heap) (hh : h₁ = pushCells (s.heap.push { cls := .type "dict", data := .dict #[] }) scope.names) :
    closureFor scope env = pure (closeFrom env scope.names []) ∧ ∃ Fn, (∀ a ∈ Fn, s.heap.objs.size ≤ a) ∧ Inv T A fs d (cenvOf scope env s.heap.objs.size) (Fn ++ F) (compLoc scope ρ) ι σ { s with heap := h₁ } ∧ Ext T [] ι s.heap ι h₁ ∧
      (∀ x c, scope.names.lookup x = some .local ∨ scope.names.lookup x = some .cell → (cenvOf scope env s.heap.objs.size).cells.lookup x = some c → scope.names.lookup x = some .cell → c ∈ Fn) ∧ s.heap.objs.size ∈ Fn := by
  simp only [compOk, Bool.and_eq_true, beq_iff_eq, decide_eq_true_eq] at ok
  obtain ⟨⟨hk, hnd⟩, hfr⟩ := ok
  have outer : ∀ x, (x, NameKind.free) ∈ scope.names → env.kindOf x = some .cell ∨ env.kindOf x = some .free := fun x hx => by
    have := List.all_eq_true.mp hfr _ hx
    simp only [bne_self_eq_false, Bool.false_or] at this
    show env.scope.names.lookup x = _ ∨ env.scope.names.lookup x = _
    split at this
    · rename_i q; exact .inl q
    · rename_i q; exact .inr q
    · cases this
  have hcl : ∀ x ∈ scope.names, x.2 = .free → (env.cells.lookup x.1).isSome = true := fun x hx hf => by
    obtain ⟨x, k⟩ := x
    cases hf
    obtain ⟨c, _, _, e1, _⟩ := I.frm.cells x (outer x hx)
    show (env.cells.lookup x).isSome = true
    rw [e1]; rfl
  refine ⟨closure_eq hcl, ?_⟩
  subst hh
  have ok := cellsFrom_ok scope.names (s.heap.push { cls := .type "dict", data := .dict #[] }) (s.heap.objs.size + 1) [] ⟨fun _ _ hm => (nomatch hm), List.Pairwise.nil⟩ (by rw [Heap.size_push]; exact Nat.le_refl _)
  rw [Heap.size_push] at ok
  have keep : ∀ b o, s.heap.get? b = some o → (pushCells (s.heap.push { cls := .type "dict", data := .dict #[] }) scope.names).get? b = some o := fun b o e => pushCells_keeps _ _ b o (Heap.get?_push_of_some _ e)
  have hsz : s.heap.objs.size ≤ (pushCells (s.heap.push { cls := .type "dict", data := .dict #[] }) scope.names).objs.size := Nat.le_trans (by rw [Heap.size_push]; (clear ok keep; omega)) (pushCells_size _ _)
  have hL := pushCells_keeps scope.names (s.heap.push { cls := .type "dict", data := .dict #[] }) _ _ (Heap.get?_push_size s.heap rfl)
  have no : ∀ a, s.heap.objs.size ≤ a → a ∉ own ι := fun a ha q => absurd (I.rep.own_lt q) (Nat.not_lt.mpr ha)
  have cellAt : ∀ x c, (x, c) ∈ cellsFrom (s.heap.objs.size + 1) scope.names [] → s.heap.objs.size + 1 ≤ c ∧ ∃ o, (pushCells (s.heap.push { cls := .type "dict", data := .dict #[] }) scope.names).get? c = some o ∧ o.cls = .type "cell" ∧ o.data = .cell none := fun x c hm => by
    obtain ⟨⟨o, g, gd⟩, hc⟩ := ok.empty x c hm
    exact ⟨hc, o, g, pushCells_cls _ _ c o g (by rw [Heap.size_push]; exact hc), gd⟩
  have csEq : (cenvOf scope env s.heap.objs.size).cells = cellsFrom (s.heap.objs.size + 1) scope.names [] ++ closeFrom env scope.names [] := cellsFrom_append scope.names _ [] _
  have kd : ∀ x, (cenvOf scope env s.heap.objs.size).kindOf x = (scope.names.lookup x).map (relK env.scope x) := fun x => relab_lookup scope.names x
  have ownL : ∀ x, scope.names.lookup x = some .cell → ∃ c, (cenvOf scope env s.heap.objs.size).cells.lookup x = some c ∧ (x, c) ∈ cellsFrom (s.heap.objs.size + 1) scope.names [] := fun x hx => by
    obtain ⟨c, hc⟩ := cellsFrom_mem scope.names (s.heap.objs.size + 1) [] x (mem_of_lookup hx)
    obtain ⟨c', hc'⟩ := lookup_of_mem hc
    refine ⟨c', ?_, mem_of_lookup hc'⟩
    rw [csEq, lookup_append, hc']; rfl
  have freeL : ∀ x, scope.names.lookup x = some .free → (cenvOf scope env s.heap.objs.size).cells.lookup x = env.cells.lookup x := fun x hx => by
    have hm := mem_of_lookup hx
    have h1 : (cellsFrom (s.heap.objs.size + 1) scope.names []).lookup x = none := by
      cases q : (cellsFrom (s.heap.objs.size + 1) scope.names []).lookup x with
      | none => rfl
      | some c =>
        rcases cellsFrom_names _ _ _ _ (mem_of_lookup q) with z | z
        · cases z
        · cases nodup_kind hnd hm z
    obtain ⟨c, hc⟩ := closeFrom_mem scope.names [] x hcl hm
    obtain ⟨c', hc'⟩ := lookup_of_mem hc
    rw [csEq, lookup_append, h1, hc']
    exact (closeFrom_val scope.names [] (fun _ h => by cases h) _ (mem_of_lookup hc')).symm
  have orig : ∀ x, ((cenvOf scope env s.heap.objs.size).kindOf x = some .cell ∨ (cenvOf scope env s.heap.objs.size).kindOf x = some .free) → scope.names.lookup x = some .cell ∨ scope.names.lookup x = some .free := fun x hx => by
    rw [kd] at hx
    cases q : scope.names.lookup x with
    | none => rw [q] at hx; rcases hx with hx | hx <;> cases hx
    | some k =>
      rw [q] at hx
      have h3 : relK env.scope x k = .cell ∨ relK env.scope x k = .free := hx.imp (fun z => by simpa using z) (fun z => by simpa using z)
      by_cases q2 : k = .free
      · subst q2; exact .inr rfl
      · have h4 : relK env.scope x k = k := by
          unfold relK
          have : (k == NameKind.free) = false := by simpa using q2
          rw [this]; rfl
        rw [h4] at h3
        rcases h3 with h3 | h3
        · exact .inl (by rw [h3])
        · exact absurd h3 q2
  have e0 : Ext T [] ι s.heap ι (pushCells (s.heap.push { cls := .type "dict", data := .dict #[] }) scope.names) := .of_keeps hsz keep
  have I0 := I.grown hsz keep
  have Fge : ∀ a ∈ (s.heap.objs.size :: (cellsFrom (s.heap.objs.size + 1) scope.names []).map (·.2)), s.heap.objs.size ≤ a := fun a ha => by
    rcases List.mem_cons.mp ha with rfl | ha
    · exact Nat.le_refl _
    · obtain ⟨⟨x, c⟩, hm, rfl⟩ := List.mem_map.mp ha
      exact Nat.le_of_succ_le (cellAt x c hm).1
  refine ⟨s.heap.objs.size :: (cellsFrom (s.heap.objs.size + 1) scope.names []).map (·.2), Fge, ⟨I0.rep, I0.aok, ?_, I0.top, I0.gens, I0.os⟩, e0, fun x c _ hc hx => ?_, List.mem_cons_self⟩
  · refine ⟨hk, I.frm.glb, I.frm.blt, ⟨"dict", fun _ => none, ⟨.inr rfl, fun _ => rfl⟩, ⟨_, #[], 0, hL, rfl, rfl, rfl, fun e he => by simp at he, List.Pairwise.nil, fun _ => rfl⟩, fun x hx => ?_⟩, fun x hx => ?_, fun x y c hx hy h1 h2 => ?_, List.mem_append_left _ List.mem_cons_self, fun x c hx hc => ?_, fun a ha => ?_, fun a ha => ?_⟩
    · have : compLoc scope ρ x = none := by
        unfold compLoc
        rw [if_neg]
        intro q
        rw [kd, q] at hx
        unfold relK at hx
        simp only [Option.map_some, Option.some.injEq] at hx
        split at hx <;> cases hx
      rw [this]; trivial
    · rcases orig x hx with q | q
      · obtain ⟨c, hc, hm⟩ := ownL x q
        obtain ⟨g1, o, g2, g3, g4⟩ := cellAt x c hm
        refine ⟨c, o, none, hc, g2, g3, g4, ?_, no c (Nat.le_of_succ_le g1)⟩
        have : compLoc scope ρ x = none := by unfold compLoc; rw [if_neg (by rw [q]; simp)]
        rw [this]; trivial
      · obtain ⟨c, o, v, f1, f2, f3, f4, f5, f6⟩ := I0.frm.cells x (outer x (mem_of_lookup q))
        refine ⟨c, o, v, (freeL x q).trans f1, f2, f3, f4, ?_, f6⟩
        unfold compLoc; rw [if_pos q]; exact f5
    · rcases orig x hx with q | q <;> rcases orig y hy with q' | q'
      · obtain ⟨c1, e1, m1⟩ := ownL x q
        obtain ⟨c2, e2, m2⟩ := ownL y q'
        rw [h1] at e1; cases e1; rw [h2] at e2; cases e2
        exact name_of_addr ok.apart m1 m2
      · exfalso
        obtain ⟨c1, e1, m1⟩ := ownL x q
        rw [h1] at e1; cases e1
        rw [freeL y q'] at h2
        obtain ⟨c', o, v, f1, f2, _⟩ := I.frm.cells y (outer y (mem_of_lookup q'))
        rw [h2] at f1; cases f1
        exact absurd (Heap.lt_size f2) (Nat.not_lt.mpr (Nat.le_of_succ_le (cellAt x _ m1).1))
      · exfalso
        obtain ⟨c1, e1, m1⟩ := ownL y q'
        rw [h2] at e1; cases e1
        rw [freeL x q] at h1
        obtain ⟨c', o, v, f1, f2, _⟩ := I.frm.cells x (outer x (mem_of_lookup q))
        rw [h1] at f1; cases f1
        exact absurd (Heap.lt_size f2) (Nat.not_lt.mpr (Nat.le_of_succ_le (cellAt y _ m1).1))
      · rw [freeL x q] at h1; rw [freeL y q'] at h2
        exact I.frm.inj x y c (outer x (mem_of_lookup q)) (outer y (mem_of_lookup q')) h1 h2
    · rcases orig x (.inl hx) with q | q
      · obtain ⟨c1, e1, m1⟩ := ownL x q
        rw [hc] at e1; cases e1
        exact List.mem_append_left _ (List.mem_cons_of_mem _ (List.mem_map.mpr ⟨_, m1, rfl⟩))
      · rw [freeL x q] at hc
        have : env.kindOf x = some .cell := by
          rw [kd, q] at hx
          unfold relK at hx
          simp only [Option.map_some, Option.some.injEq] at hx
          split at hx
          · rename_i z
            simp only [Bool.and_eq_true, beq_iff_eq] at z
            exact z.2
          · cases hx
        exact List.mem_append_right _ (I.frm.cin x c this hc)
    · rcases List.mem_append.mp ha with ha | ha
      · exact ⟨no a (Fge a ha), Nat.le_trans I.rep.size (Fge a ha)⟩
      · exact I0.frm.apart a ha
    · rcases List.mem_append.mp ha with ha | ha
      · rcases List.mem_cons.mp ha with rfl | ha
        · exact ⟨_, hL, rfl, rfl⟩
        · obtain ⟨⟨x, c⟩, hm, rfl⟩ := List.mem_map.mp ha
          obtain ⟨_, o, g2, g3, _⟩ := cellAt x c hm
          exact ⟨o, g2, by simp [frozen, g3], by simp [itr, iterish, g3]⟩
      · exact I0.frm.there a ha
  · obtain ⟨c1, e1, m1⟩ := ownL x hx
    rw [hc] at e1; cases e1
    exact List.mem_cons_of_mem _ (List.mem_map.mpr ⟨_, m1, rfl⟩)
end
end Mine

namespace Mine
open PySem PySem.Calls PyProof.Rows PySem.SeqAt

/-- the conditions of a comprehension -/
noncomputable def IfsOk (T : Tp) (d : Nat) (sc : Scope) (ρ : Loc) (X : QX) : List Expr → (Bool → Hp → Prop) → Hp → Prop
  | [], Q, σ => Q true σ
  | [c], Q, σ => TsOk T d sc ρ X c Q σ
  | _, _, _ => False

theorem lookup_nodup {names : List (Str × NameKind)} (hn : (names.map (·.1)).Nodup) {x : Str} {k : NameKind} (h : (x, k) ∈ names) : names.lookup x = some k := by
  obtain ⟨k', hk'⟩ := lookup_of_mem h
  rw [hk', nodup_kind hn (mem_of_lookup hk') h]

theorem isStore_relab {scope sc : Scope} {x : Str} (h : isStore scope x = true) : isStore (relab scope sc) x = true := by
  unfold isStore at h ⊢
  have e : (relab scope sc).names.lookup x = (scope.names.lookup x).map (relK sc x) := relab_lookup scope.names x
  rw [e]
  split at h
  · rename_i q; rw [q]; rfl
  · rename_i q; rw [q]; rfl
  · cases h

section
variable {T : Tp} {A : Around} {fs : List Env} {d : Nat} {env : Env} {F : List Addr} {ι ι' : Inj} {h h' : Heap} {s : Shared} {ρ : Loc} {σ : Hp} {sc : Scope} {X : QX} {Q : QE}

/-- an object that neither the mini heap nor the frame knows has turned -/
theorem Inv.side {a : Addr} {o : Obj} {t : Nat} (I : Inv T A fs d env F ρ ι σ s) (hs : Heap.SameBut a s.heap h') (ho : s.heap.get? a = some o) (hl : loose o = true) (hf : frozen o = false) (hc : o.cls ≠ .type "cell") (hn : a ∉ own ι) (hF : a ∉ F) (hb : T.b0.objs.size ≤ a) :
    Inv T A fs d env F ρ ι σ { s with heap := h', toks := t } := by
  have hk : ∀ b o, b ≠ a → s.heap.get? b = some o → h'.get? b = some o := fun b o q e => (hs.2 b q).trans e
  have m : Mono ι s.heap ι h' := .but hk ⟨o, ho, hl, hf⟩ ι
  refine ⟨I.rep.keeps m (Nat.le_of_eq hs.1.symm) (fun b z e => hk b z (fun q => absurd (Heap.lt_size e) (Nat.not_lt.mpr (q ▸ hb))) (I.rep.base b z e)) fun b hb z e => hk b z (fun q => hn (q ▸ hb)) e, ⟨I.aok.frames, fun e he => ?_, I.aok.depth, I.aok.units, I.aok.hd, I.aok.hx.keep fun b z C e1 e2 e3 => ⟨hk b z (fun q => by rw [q, ho] at e1; cases e1; simp [loose, e2] at hl) e1, e3⟩⟩, ⟨I.frm.kind, I.frm.glb, I.frm.blt, ?_, fun x hx => ?_, I.frm.inj, I.frm.loc, I.frm.cin, I.frm.apart, fun b hb => ?_⟩, I.top, I.gens, I.os⟩
  · obtain ⟨k, L, ob, es, ep, f, n, b, g, c, dd⟩ := I.aok.funs e he
    exact ⟨k, L, ob, es, ep, f, n, b, hk L ob (fun q => by rw [q, ho] at g; cases g; simp [loose, c] at hl) g, c, dd⟩
  · obtain ⟨c, mm, hcc, hN, r⟩ := I.frm.ns
    exact ⟨c, mm, hcc, hN.of_slots fun ob e => ⟨ob.slots, hk _ ob (fun q => hF (q ▸ I.frm.loc)) e⟩, fun y hy => (r y hy).mono m⟩
  · obtain ⟨c, ob, v, e1, e2, e3, e4, e5, e6⟩ := I.frm.cells x hx
    exact ⟨c, ob, v, e1, hk c ob (fun q => by rw [q, ho] at e2; cases e2; exact hc e3) e2, e3, e4, e5.mono m, e6⟩
  · obtain ⟨ob, g1, g2, g3⟩ := I.frm.there b hb
    exact ⟨ob, hk b ob (fun q => hF (q ▸ hb)) g1, g2, g3⟩

theorem appendL {E : Value → Shared → Prop} {D : Addr} {items : Array Value} {n : Nat} {x : Value} {R : Value → Shared → Prop} (hL : IsL s.heap D items n) (hsz : items.size ≤ sizeLine)
    (k : ∀ h' m, IsL h' D (items.push x) m → Heap.SameBut D s.heap h' → R .none { s with heap := h' }) : wpAny (model T.prog T.w) A (call (.builtin "list.append") [.ref D, x]) R E s := by
  refine call_meets F.slot_list_append ⟨_, hL, rfl⟩ F.entry_list_append (F.args_list_append_2 _ _) (list_append D items n x hsz) ⟨hL, ?_⟩
  refine k _ _ (Heap.get?_update_self _ hL rfl) (Heap.SameBut.update ..)

theorem iterSelf {E : Value → Shared → Prop} {v : V} {It : Addr} {i : Nat} {R : Value → Shared → Prop} (it : ItAt T ι s.heap v It i) (k : R (.ref It) s) : wpAny (model T.prog T.w) A (pyIter (.ref It)) R E s := by
  unfold ItAt at it
  split at it
  · obtain ⟨_, _, _, _, _, it⟩ := it; exact wpAny_pyIter_tupleiter it k
  · obtain ⟨_, _, _, it⟩ := it; exact wpAny_pyIter_listiter it k
  · obtain ⟨_, it | it⟩ := it
    · exact wpAny_pyIter_striter_ascii it k
    · exact wpAny_pyIter_striter_wide it k
  · exact wpAny_pyIter_rangeiter it k
  · exact it.elim

/-- behind a comprehension's own exception: what its letting go may turn -/
theorem passOn_ok {L : Addr} {ea : Addr} {c : Str} {σ' : Hp} {s' : Shared} {cenv cenv' : Env} {Fc : List Addr} {ρ' : Loc} (hb : T.b0.objs.size ≤ h.objs.size) (f : FlyT T h.objs.size ea c s'.heap) (hn : ea ∉ own ι') (I : Inv T A fs d cenv Fc ρ' ι' σ' s') (e : Ext T [] ι h ι' s'.heap) (x : X c σ')
    (hL : cenv.locals = L) (hs : Heap.SameBut L s'.heap h') (hd : L ∉ frs fs) (hl : h.objs.size ≤ L) (hnf : cenv.frame ≠ some cenv.locals) : wpAny (model T.prog T.w) A (PySem.passOn "comprehension.variables-let-go" (.ref ea) cenv' : Sem Value) (fun _ _ => False) (PostX T [] X ι h) { s' with heap := h' } := by
  subst hL
  obtain ⟨cl, mm, hc, hN, _⟩ := I.frm.ns
  obtain ⟨oL, es, ep, l1, l2, l3, l4, _⟩ := hN
  have hk : ∀ b o, b ≠ cenv.locals → s'.heap.get? b = some o → h'.get? b = some o := fun b o q e => (hs.2 b q).trans e
  have f₀ := f
  obtain ⟨C, oe, vs, v, f1, f2, f3, f4, f5, f6, f7, f8, tb, ot, ts, rfl, t2, t3, t4, t5, t6, t7⟩ := f
  have ne1 : ea ≠ cenv.locals := fun q => by rw [q, l1] at f3; cases f3; rw [l4] at f5; cases f5
  have ne2 : tb ≠ cenv.locals := fun q => by rw [q, l1] at t4; cases t4; rw [l4] at t6; cases t6
  have f' : FlyT T h.objs.size ea c h' := ⟨C, oe, vs, _, f1, f2, hk _ _ ne1 f3, f4, f5, f6, f7, f8, tb, ot, ts, rfl, t2, t3, hk _ _ ne2 t4, t5, t6, t7⟩
  have ap := I.frm.apart _ I.frm.loc
  obtain ⟨o₂, q1, q2, _⟩ := I.frm.there _ I.frm.loc
  rw [l1] at q1; cases q1
  have S : ∀ a ∈ frs fs, a ∉ own ι' ∧ T.b0.objs.size ≤ a ∧ ∃ o, h'.get? a = some o ∧ o.cls = .type "frame" := fun a ha => by
    obtain ⟨a1, a2, o, _, _, a3, a4, _⟩ := I.aok.mem ha
    exact ⟨a1, a2, o, hk a o (fun q => hd (q ▸ ha)) a3, a4⟩
  have hns : ∀ b, b ≠ cenv.locals → h'.get? b = s'.heap.get? b := fun b q => hs.2 b q
  have q := hc.2 hnf
  have m : Mono ι' s'.heap ι' h' := .but hk ⟨_, l1, by simp [loose, l2, q], q2⟩ ι'
  unfold PySem.passOn
  refine wpAny_bind (wpAny_field (s := { s' with heap := h' }) (hk _ _ ne1 f3) f5 f8 ?_)
  rw [if_neg (by simp)]
  refine wpAny_bind (flight_ok (S := frs fs) (s := { s' with heap := h' }) f' fun h'' t f'' => wpAny_throw ?_)
  have R' : Rep T ι' σ' h' := I.rep.keeps m (Nat.le_of_eq hs.1.symm) (fun b z e => hk b z (fun q => absurd (Heap.lt_size e) (Nat.not_lt.mpr (q ▸ ap.2))) (I.rep.base b z e)) fun b hb z e => hk b z (fun q => ap.1 (q ▸ hb)) e
  have e' : Ext T [] ι h ι' h' := e.free hk (Nat.le_of_eq hs.1.symm) hl
  exact ⟨ea, c, σ', ι', rfl, x, f''.fly, hn, R'.touch t S ⟨oe, C, hk _ _ ne1 f3, f4⟩ hn hb f2, e'.touch t (fun a ha => (S a ha).2.2) f2, I.gens, I.os⟩
end
end Mine

namespace Mine
open PySem PySem.Calls PyProof.Rows PySem.SeqAt

section
variable {T : Tp} {A : Around} {fs : List Env} {d : Nat} {env : Env} {F : List Addr} {ι ι' : Inj} {h h' : Heap} {s : Shared} {ρ : Loc} {σ : Hp} {sc : Scope} {X : QX} {Q : QE}

theorem comp_raise {cenv : Env} {Fc : List Addr} {ρ' : Loc} {ι₂ : Inj} {σ₂ : Hp} {s₂ s₃ : Shared} {x acc : Value} {R : Value → Shared → Prop} {use : Option (Value → Sem Unit)} {EE : Value → Shared → Prop} (hE : ∀ x s', PostX T [] X ι h x s' → EE x s') (hb : T.b0.objs.size ≤ h.objs.size) (I₂ : Inv T A fs d cenv Fc ρ' ι₂ σ₂ s₂) (e₂ : Ext T [] ι h ι₂ s₂.heap) (p : PostX T [] X ι₂ s₂.heap x s₃)
    (hd : cenv.locals ∉ frs fs) (hl : h.objs.size ≤ cenv.locals) (hnf : cenv.frame ≠ some cenv.locals) :
    notedBy (model T.prog T.w) A cenv (fun e s' => compPost (model T.prog T.w) A EE use R acc cenv.locals (.error e) s') x s₃ := by
  obtain ⟨ea, c, σ₃, ι₃, rfl, hx, f, n, rp, e', g, o⟩ := p
  have I₃ := I₂.ext e' rp g o
  have e₃ := e₂.trans e'
  have f₃ := f.lo e₂.size
  have hle : h.objs.size ≤ ea := by obtain ⟨_, _, _, _, _, q, _⟩ := f₃; exact q
  unfold notedBy
  refine note_ok I₃ f₃ e₃.size fun h₄ t f₄ => ?_
  have I₄ := I₃.touch t f₃ n hb hle
  have e₄ := e₃.touch t (fun a ha => let ⟨_, _, o, _, _, g, gc, _⟩ := I₃.aok.mem ha; ⟨o, g, gc⟩) hle
  obtain ⟨cl, mm, hc, hN, _⟩ := I₄.frm.ns
  have key : ∃ m, h₄.Ns cenv.locals m ∧ ∀ h', Heap.SameBut cenv.locals h₄ h' → ∀ cenv' : Env, cenv'.locals = cenv.locals → wpAny (model T.prog T.w) A (PySem.passOn "comprehension.variables-let-go" (.ref ea) cenv' : Sem Value) (fun _ _ => False) EE { s₃ with heap := h' } :=
    ⟨mm, hN.ns, fun h₅ hs cenv' _ => wpAny_mono (passOn_ok (s' := { s₃ with heap := h₄ }) hb f₄ n I₄ e₄ hx rfl hs hd hl hnf) (fun _ _ f => f) fun x s' p => hE x s' p⟩
  cases use <;> exact key

theorem ifs_ok {E : Value → Shared → Prop} {cenv : Env} {Fc : List Addr} {ifs : List Expr} {Q' : Bool → Hp → Prop} {R : Bool → Shared → Prop} (hsc : cenv.scope = sc) (I : Inv T A fs d cenv Fc ρ ι σ s) (hi : IfsOk T d sc ρ X ifs Q' σ)
    (k : ∀ b s', PostB T Q' ι s.heap b s' → R b s') (kx : ∀ x s', PostX T [] X ι s.heap x s' → E x s') :
    wpAny (model T.prog T.w) A (forIn ifs true fun c r => if r = true then do let ok ← isTrue c cenv (eval c cenv); pure (ForInStep.yield ok) else pure (ForInStep.yield r)) R E s := by
  unfold IfsOk at hi
  split at hi
  · rw [List.forIn_nil]; exact wpAny_pure (k _ _ ⟨σ, ι, hi, I.rep, .refl .., I.gens, I.os⟩)
  · rw [List.forIn_cons, if_pos rfl]
    refine wpAny_bind (wpAny_bind (wpAny_mono (hi cenv A fs Fc ι s hsc I) (fun b s' p => wpAny_pure ?_) fun x s' p => kx x s' p))
    show wpAny _ _ (forIn [] b _) _ _ _
    rw [List.forIn_nil]; exact wpAny_pure (k _ _ p)
  · exact hi.elim

theorem upd_upd {ρ ρ' : Loc} {x : Str} {v : Option V} (h : ∀ y, y ≠ x → ρ' y = ρ y) : upd ρ' x v = upd ρ x v := by
  funext y; unfold upd; split
  · rfl
  · rename_i q; exact h y q

/-- what is known of the names of a comprehension at its end -/
structure LetGo (T : Tp) (F : List Addr) (ι : Inj) (h₀ h : Heap) (L : Addr) : Prop where
  no : L ∉ own ι
  nF : L ∉ F
  b : T.b0.objs.size ≤ L
  lo : h₀.objs.size ≤ L
  dict : ∃ m, NsC h L "dict" m

/-- the turns of a comprehension -/
inductive CompOk (T : Tp) (d : Nat) (sc : Scope) (ρ : Loc) (X : QX) (scope : Scope) (x : Str) (ifs : List Expr) (elt : Expr) (Q : QE) (v : V) (σ₁ : Hp) : Prop where
  | mk (items : List V) (J : Nat → List V → Hp → Prop) (h0 : J 0 [] σ₁) (h1 : ∀ i acc σ, J i acc σ → iterV σ v = some items ∧ acc.length ≤ sizeLine) (h2 : ∀ acc σ, J items.length acc σ → Q (.ref σ.length) (σ ++ [.list acc]))
      (h3 : ∀ i y acc σ, J i acc σ → items[i]? = some y → IfsOk T d (relab scope sc) (upd (compLoc scope ρ) x (some y)) X ifs (fun b σ' => if b then EvOk T d (relab scope sc) (upd (compLoc scope ρ) x (some y)) X elt (fun z σ'' => J (i + 1) (acc ++ [z]) σ'') σ' else J (i + 1) acc σ') σ) : CompOk T d sc ρ X scope x ifs elt Q v σ₁
theorem comp_core {elt iter : Expr} {x : Str} {px pos : Pos} {ifs : List Expr} {scope : Scope} {use : Option (Value → Sem Unit)} {RR : Value → Shared → Prop} {EE : Value → Shared → Prop} (I : Inv T A fs d env F ρ ι σ s) (hok : compOk scope env.scope = true) (hx : isStore scope x = true) (hs : noSet iter = true)
    (he : EvOk T d env.scope ρ X iter (fun v σ₁ => (T.hd = false ∨ ∃ n, v = .rng n) ∧ CompOk T d env.scope ρ X scope x ifs elt Q v σ₁) σ)
    (hfin : ∀ v σ₂ ι₂ s₂ D L, Q v σ₂ → Inv T A fs d env F ρ ι₂ σ₂ s₂ → VRel T ι₂ s₂.heap v (.ref D) → Ext T [] ι s.heap ι₂ s₂.heap → LetGo T F ι₂ s.heap s₂.heap L → compPost (model T.prog T.w) A EE use RR (.ref D) L (.ok .next) s₂)
    (hE : ∀ x s', PostX T [] X ι s.heap x s' → EE x s') :
    wpAny (model T.prog T.w) A (comprehension (.ListComp elt [⟨.Name x px, iter, ifs, 0⟩] scope pos) scope env (firstIterPos [⟨.Name x px, iter, ifs, 0⟩] pos) (newList []) (firstAsync [⟨.Name x px, iter, ifs, 0⟩]) (firstIter [⟨.Name x px, iter, ifs, 0⟩] env) use) RR EE s := by
  obtain ⟨hclos, _⟩ := comp_frame I hok _ rfl
  have hok' := hok
  simp only [compOk, Bool.and_eq_true, beq_iff_eq, decide_eq_true_eq] at hok'
  obtain ⟨⟨hkind, hnd⟩, _⟩ := hok'
  refine wpAny_comprehension_free (use := use) (cl := closeFrom env scope.names []) rfl (fun _ => folded_no hs) hclos hkind (fun y hy hl => by obtain ⟨n, k⟩ := y; cases hl; exact lookup_nodup hnd hy) ?_
  show wpAny _ A (eval iter env) _ _ s
  refine wpAny_mono (he env A fs F ι s rfl I) (fun xv s₁ p => ?_) fun _ _ p => hE _ _ p
  obtain ⟨v, σ₁, ι₁, ⟨hRn, items, J, j0, jit, jend, jturn⟩, rv, rp, ex, g, o⟩ := p
  have I₁ := I.ext ex rp g o
  refine iter_ok I₁.rep rv (jit 0 [] σ₁ j0).1 fun ob it0 => ?_
  refine wpAny_newList ?_
  dsimp only
  generalize hH2 : s₁.heap.push ob = H2 at it0 ⊢
  have sz2 : H2.objs.size = s₁.heap.objs.size + 1 := by rw [← hH2, Heap.size_push]
  generalize hH3 : H2.push { cls := .type "list", data := .seq ([] : List Value).toArray } = H3
  have sz3 : H3.objs.size = H2.objs.size + 1 := by rw [← hH3, Heap.size_push]
  have k12 : ∀ b o, s₁.heap.get? b = some o → H2.get? b = some o := fun b o e => by rw [← hH2]; exact Heap.get?_push_of_some _ e
  have k23 : ∀ b o, H2.get? b = some o → H3.get? b = some o := fun b o e => by rw [← hH3]; exact Heap.get?_push_of_some _ e
  have hD : IsL H3 H2.objs.size #[] 0 := by rw [← hH3]; exact IsL.new H2 #[]
  have I₃ : Inv T A fs d env F ρ ι₁ σ₁ { s₁ with heap := H3 } := I₁.grown (by rw [sz3, sz2]; (clear he hRn j0 jit jturn it0 sz2 hH3 sz3 hD; omega)) fun b o e => k23 b o (k12 b o e)
  have e13 : Ext T [] ι₁ s₁.heap ι₁ H3 := .of_keeps (by rw [sz3, sz2]; (clear he hRn j0 jit jturn it0 sz2 hH3 sz3 hD; omega)) fun b o e => k23 b o (k12 b o e)
  simp only [newFunctionEnv, Option.isSome_some, if_true]
  refine wpAny_bind (wpAny_alloc ?_)
  refine wpAny_bind (wpAny_layCells _ (fun name kind cells => by cases hkc : kind == NameKind.cell <;> simp [hkc]) _ _ _ _ ?_)
  obtain ⟨_, Fn, hFn, I₄, e34, hcell, hLF⟩ := comp_frame I₃ hok _ rfl
  refine wpAny_bind ?_
  rw [List.forIn_nil]
  refine wpAny_pure (wpAny_pure ?_)
  dsimp only
  rw [show ({ s₁ with heap := H3.push { cls := .type "dict", data := .dict #[] } } : Shared).heap.objs.size = H3.objs.size + 1 from Heap.size_push ..]
  show codeAny _ A (.compStart _ 0 (.ref s₁.heap.objs.size) (.ref H2.objs.size) (cenvOf scope env H3.objs.size)) _ _
  generalize hh4 : pushCells (H3.push { cls := .type "dict", data := .dict #[] }) scope.names = h4 at I₄ e34 ⊢
  have Lc : (cenvOf scope env H3.objs.size).locals = H3.objs.size := rfl
  generalize hce : cenvOf scope env H3.objs.size = cenv at I₄ hcell Lc ⊢
  have cfr : cenv.frame = env.frame := by rw [← hce]; rfl
  have csc : cenv.scope = relab scope env.scope := by rw [← hce]; rfl
  obtain ⟨te, tr, tL, tfs, tf1, tf2⟩ := I₁.top
  have hb := I.rep.size
  have hb1 := I₁.rep.size
  have hd : cenv.locals ∉ frs fs := fun q => by
    obtain ⟨_, _, ofr, _, _, a3, _⟩ := I₁.aok.mem q
    rw [Lc] at a3
    have z : H3.objs.size < s₁.heap.objs.size := Heap.lt_size a3
    rw [sz3, sz2] at z; exact absurd z (by (clear he hRn j0 jit jturn it0 sz2 hH3 sz3 hD hFn hLF hh4 hb hb1 z; omega))
  have hnf : cenv.frame ≠ some cenv.locals := fun q => hd (by
    rw [cfr, tf2] at q; rw [← Option.some.inj q, tfs]
    unfold frs; rw [List.filterMap_cons, tf1]; exact List.mem_cons_self)
  have hl : s.heap.objs.size ≤ cenv.locals := by rw [Lc, sz3, sz2]; have := ex.size; (clear hb1 hh4 hb sz3 hD hFn hLF he hRn j0 jit jturn it0 sz2 hH3; omega)
  have hFF : ∀ a ∈ F, a < s₁.heap.objs.size := fun a ha => let ⟨_, g, _⟩ := I₁.frm.there a ha; Heap.lt_size g
  have hItF : s₁.heap.objs.size ∉ Fn ++ F := fun q => by
    rcases List.mem_append.mp q with q | q
    · have z : H3.objs.size ≤ s₁.heap.objs.size := hFn _ q
      rw [sz3, sz2] at z; exact absurd z (by (clear he hRn j0 jit jturn it0 sz2 hH3 sz3 hD hFn hLF hh4 hb hb1 hl q z; omega))
    · exact absurd (hFF _ q) (Nat.lt_irrefl _)
  have hDF : H2.objs.size ∉ Fn ++ F := fun q => by
    rcases List.mem_append.mp q with q | q
    · have z : H3.objs.size ≤ H2.objs.size := hFn _ q
      rw [sz3] at z; exact absurd z (by (clear he hRn j0 jit jturn it0 sz2 hH3 sz3 hD hFn hLF hh4 hb hb1 hl hItF q z; omega))
    · have z : H2.objs.size < s₁.heap.objs.size := hFF _ q
      rw [sz2] at z; exact absurd z (by (clear he hRn j0 jit jturn it0 sz2 hH3 sz3 hD hFn hLF hh4 hb hb1 hl hItF q z; omega))
  have no1 : ∀ a, s₁.heap.objs.size ≤ a → a ∉ own ι₁ := fun a ha q => absurd (I₁.rep.own_lt q) (Nat.not_lt.mpr ha)
  have it4 : ItAt T ι₁ h4 v s₁.heap.objs.size 0 := it0.keep ⟨⟨[], by simp⟩, fun a o e _ => ⟨o, (by
      have := k23 a o e; rw [← hh4]; exact pushCells_keeps _ _ _ _ (Heap.get?_push_of_some _ this)), rfl⟩, fun a o e _ => by
      have := k23 a o e; rw [← hh4]; exact pushCells_keeps _ _ _ _ (Heap.get?_push_of_some _ this)⟩ fun o e => by
      have := k23 _ o e; rw [← hh4]; exact pushCells_keeps _ _ _ _ (Heap.get?_push_of_some _ this)
  have hD4 : IsL h4 H2.objs.size #[] 0 := by rw [← hh4]; exact pushCells_keeps _ _ _ _ (Heap.get?_push_of_some _ hD)
  have e4 : Ext T [] ι s.heap ι₁ h4 := ex.trans (e13.trans e34)
  have hI0 : s.heap.objs.size ≤ s₁.heap.objs.size := ex.size
  have hD0 : s.heap.objs.size ≤ H2.objs.size := by rw [sz2]; (clear hD4 it4 hItF hDF no1 hLF hh4 hb hb1 hl he hRn j0 jit jturn it0 sz2 hH3 sz3 hD hFn; omega)
  have loop : codeAny (model T.prog T.w) A (.compLoop (.ListComp elt [⟨.Name x px, iter, ifs, 0⟩] scope pos) 0 (.ref s₁.heap.objs.size) (.ref H2.objs.size) cenv)
      (compPost (model T.prog T.w) A EE use RR (.ref H2.objs.size) cenv.locals) { s₁ with heap := h4 } := by
    obtain ⟨JJ, hJJ⟩ : ∃ JJ : Nat → Shared → Prop, ∀ n s', JJ n s' ↔ ∃ i acc σ' ι' ρ' its m, n = items.length - i ∧ i ≤ items.length ∧ J i acc σ' ∧ Inv T A fs d cenv (Fn ++ F) ρ' ι' σ' s' ∧ (∀ y, y ≠ x → ρ' y = compLoc scope ρ y) ∧ Ext T [] ι s.heap ι' s'.heap ∧ Ext T [] ι₁ s₁.heap ι' s'.heap ∧
      ItAt T ι' s'.heap v s₁.heap.objs.size i ∧ s₁.heap.objs.size ∉ own ι' ∧ H2.objs.size ∉ own ι' ∧ IsL s'.heap H2.objs.size its m ∧ VRels T ι' s'.heap acc its.toList := ⟨_, fun _ _ => Iff.rfl⟩
    refine codeAny_loop rfl JJ (fun n s' hJ => ?_) items.length ((hJJ _ _).mpr ⟨0, [], σ₁, ι₁, compLoc scope ρ, #[], 0, rfl, Nat.zero_le _, j0, I₄, fun _ _ => rfl, e4, e13.trans e34, it4, no1 _ (Nat.le_refl _), no1 _ (by rw [sz2]; (clear he hRn j0 jit jturn it0 sz2 hH3 sz3 hD hFn hLF hh4 hb hb1 hl hItF hDF no1 it4 hD4 hI0 hD0; omega)), hD4, trivial⟩)
    obtain ⟨i, acc, σ', ι', ρ', its, m, rfl, hi, j, I', hρ, e', f', it, nI, nD, hL, hv⟩ := (hJJ _ _).mp hJ
    show wpAny _ _ ((compTurn (.ListComp elt [⟨.Name x px, iter, ifs, 0⟩] scope pos) 0 (.ref s₁.heap.objs.size) (.ref H2.objs.size) cenv).onRaise (fun x => do noteFrame x cenv; theTreesLotGoes x)) _ _ s'
    refine wpAny_noted ?_
    rw [compTurn_list]
    have isit := it.iterish
    have ji := jit i acc σ' j
    by_cases hlt : i < items.length
    · have hy : items[i]? = some items[i] := List.getElem?_eq_getElem hlt
      refine wpAny_bind (wpAny_standAt (wpAny_bind (next_ok I'.rep it nI ji.1 hy fun h5 t5 y5 hs5 ry it5 => ?_)))
      have k5 : ∀ b o, b ≠ s₁.heap.objs.size → s'.heap.get? b = some o → h5.get? b = some o := fun b o q e => (hs5.2 b q).trans e
      have I5 : Inv T A fs d cenv (Fn ++ F) ρ' ι' σ' { s' with heap := h5, toks := t5 } := I'.free k5 (Nat.le_of_eq hs5.1.symm) isit nI hb1
      have e5 : Ext T [] ι s.heap ι' h5 := e'.free k5 (Nat.le_of_eq hs5.1.symm) hI0
      have f5 : Ext T [] ι₁ s₁.heap ι' h5 := f'.free k5 (Nat.le_of_eq hs5.1.symm) (Nat.le_refl _)
      have m5 : Mono ι' s'.heap ι' h5 := .free k5 isit ι'
      have hDI : H2.objs.size ≠ s₁.heap.objs.size := by rw [sz2]; exact Nat.succ_ne_self _
      have hL5 : IsL h5 H2.objs.size its m := k5 _ _ hDI hL
      refine wpAny_bind (letOwned_ok (s := { s' with heap := h5, toks := t5 }) it5 ?_)
      refine wpAny_bind (wpAny_assign_Name (store_at I5.rep I5.frm (by rw [csc]; exact isStore_relab hx) ry fun h6 t6 R6 H6 e6 ds6 a6 => ?_))
      have I6 := I5.stored (t := t6) R6 H6 e6 ds6
      rw [upd_upd hρ] at I6
      obtain ⟨a, hs6, ha⟩ := a6
      have aF : a ∈ Fn := by
        rcases ha with rfl | ⟨ka, ca⟩
        · rw [Lc]; exact hLF
        · have hxs : scope.names.lookup x = some .local ∨ scope.names.lookup x = some .cell := by
            unfold isStore at hx
            split at hx
            · rename_i q; exact .inl q
            · rename_i q; exact .inr q
            · cases hx
          have hxc : scope.names.lookup x = some .cell := by
            rcases hxs with q | q
            · exfalso
              have : cenv.kindOf x = (scope.names.lookup x).map (relK env.scope x) := by rw [← hce]; exact relab_lookup scope.names x
              rw [ka, q] at this; simp [relK] at this
            · exact q
          exact hcell x a hxs ca hxc
      have aL : H3.objs.size ≤ a := hFn a aF
      have k6 : ∀ b o, b ≠ a → h5.get? b = some o → h6.get? b = some o := fun b o q e => (hs6.2 b q).trans e
      have e6' : Ext T [] ι s.heap ι' h6 := e5.free k6 (Nat.le_of_eq hs6.1.symm) (Nat.le_trans (by rw [sz3]; (clear hlt hy ry it5 k5 hDI H6 I6 aL hD0 hi nI nD ji hD4 no1 it4 hD hFn hLF hh4 hb hb1 hl hItF hDF hH3 sz3 jturn it0 he hRn j0 jit; omega)) aL)
      have f6' : Ext T [] ι₁ s₁.heap ι' h6 := f5.free k6 (Nat.le_of_eq hs6.1.symm) (Nat.le_trans (by rw [sz3, sz2]; (clear he hRn j0 jit jturn it0 sz2 hH3 sz3 hD hFn hLF hh4 hb hb1 hl hItF hDF no1 it4 hD4 hI0 hD0 hi nI nD ji hlt hy ry it5 k5 hDI H6 I6 aL; omega)) aL)
      have itne : s₁.heap.objs.size ≠ a := fun q => by rw [← q, sz3, sz2] at aL; exact absurd aL (by (clear he hRn j0 jit jturn it0 sz2 hH3 sz3 hD hFn hLF hh4 hb hb1 hl hItF hDF no1 it4 hD4 hI0 hD0 hi nI nD ji hlt hy ry it5 k5 hDI H6 I6 aL q; omega))
      have Dne : H2.objs.size ≠ a := fun q => by rw [← q, sz3] at aL; exact absurd aL (by (clear he hRn j0 jit jturn it0 sz2 hH3 sz3 hD hFn hLF hh4 hb hb1 hl hItF hDF no1 it4 hD4 hI0 hD0 hi nI nD ji hlt hy ry it5 k5 hDI H6 I6 aL itne q; omega))
      have it6 : ItAt T ι' h6 v s₁.heap.objs.size (i + 1) := it5.keep e6.mono fun o e => k6 _ o itne e
      have hL6 : IsL h6 H2.objs.size its m := k6 _ _ Dne hL5
      have hv6 : VRels T ι' h6 acc its.toList := (hv.mono m5).mono e6.mono
      have hv' := hv6.length
      simp only [Array.length_toList] at hv'
      have next : ∀ (s7 : Shared) (σ7 : Hp) (ι7 : Inj), J (i + 1) acc σ7 → Inv T A fs d cenv (Fn ++ F) (upd (compLoc scope ρ) x (some items[i])) ι7 σ7 s7 → Ext T [] ι' h6 ι7 s7.heap → ∃ n, n < items.length - i ∧ JJ n s7 := fun s7 σ7 ι7 j7 I7 e7 => by
        obtain ⟨oi, gi, gii⟩ := it6.iterish
        refine ⟨items.length - (i + 1), by (clear k5 hDI H6 I6 aL itne Dne it6 hv' j7 I7 hy ry it5 ji hI0 hD0 hi nI nD he hRn j0 jit jturn it0 sz2 hH3 sz3 hD hFn hLF hh4 hb hb1 hl hItF hDF no1 it4 hD4; omega), (hJJ _ _).mpr ⟨i + 1, acc, σ7, ι7, _, its, m, rfl, hlt, j7, I7, fun y hy => by unfold upd; rw [if_neg hy], e6'.trans e7, f6'.trans e7, it6.keep e7.mono fun o ho => e7.keep _ o ho nI (by simp) fun q => ?_, e7.not_own nI (Heap.lt_size gi), e7.not_own nD (Heap.lt_size hL6), e7.keep _ _ hL6 nD (by simp) (by simp), hv6.mono e7.mono⟩⟩
        rw [gi] at ho; cases ho; simp [iterish, q] at gii
      show wpAny _ _ (forIn ifs true (fun c r => if r = true then do let ok ← isTrue c cenv (eval c cenv); pure (ForInStep.yield ok) else pure (ForInStep.yield r)) >>= _) _ _ _
      refine wpAny_bind (ifs_ok csc I6 (jturn i items[i] acc σ' j hy) (fun b s7 p => ?_) fun z s7 p => comp_raise hE hb I6 e6' p hd hl hnf)
      obtain ⟨σ7, ι7, q7, rp7, e7, g7, o7⟩ := p
      have I7 := I6.ext e7 rp7 g7 o7
      cases b with
      | false => exact wpAny_pure ⟨rfl, next s7 σ7 ι7 q7 I7 e7⟩
      | true =>
        have e67 := e6'.trans e7
        refine wpAny_bind (wpAny_bind (wpAny_mono (q7 cenv A fs (Fn ++ F) ι7 s7 csc I7) (fun z s8 p => ?_) fun z s8 p => comp_raise hE hb I7 e67 p hd hl hnf))
        obtain ⟨zv, σ8, ι8, j8, rz, rp8, e8, g8, o8⟩ := p
        have I8 := I7.ext e8 rp8 g8 o8
        have e78 := e7.trans e8
        have hL8 : IsL s8.heap H2.objs.size its m := e78.keep _ _ hL6 nD (by simp) (by simp)
        have nD8 := e78.not_own nD (Heap.lt_size hL6)
        obtain ⟨oi, gi, gii⟩ := it6.iterish
        have nI8 := e78.not_own nI (Heap.lt_size gi)
        have it8 : ItAt T ι8 s8.heap v s₁.heap.objs.size (i + 1) := it6.keep e78.mono fun o ho => e78.keep _ o ho nI (by simp) fun q => by rw [gi] at ho; cases ho; simp [iterish, q] at gii
        refine wpAny_bind (appendL hL8 (by rw [hv']; exact ji.2) fun h9 m9 hL9 hs9 => wpAny_pure (wpAny_pure ⟨rfl, ?_⟩))
        have I9 : Inv T A fs d cenv (Fn ++ F) (upd (compLoc scope ρ) x (some items[i])) ι8 σ8 { s8 with heap := h9 } := I8.side (t := s8.toks) hs9 hL8 rfl rfl (by simp) nD8 hDF (Nat.le_trans hb1 (by rw [sz2]; (clear he hRn j0 jit jturn it0 sz2 hH3 sz3 hD hFn hLF hh4 hb hb1 hl hItF hDF no1 it4 hD4 hI0 hD0 hi nI nD ji hlt hy ry it5 k5 hDI H6 I6 aL itne Dne it6 hv' next I7 q7 j8 I8 it8; omega)))
        have k9 : ∀ b o, b ≠ H2.objs.size → s8.heap.get? b = some o → h9.get? b = some o := fun b o q e => (hs9.2 b q).trans e
        have m9' : Mono ι8 s8.heap ι8 h9 := .but k9 ⟨_, hL8, rfl, rfl⟩ ι8
        refine ⟨items.length - (i + 1), by (clear itne Dne it6 hv' next I7 q7 j8 I8 it8 I9 k9 it5 k5 hDI H6 I6 aL hy ry nI nD ji he hRn j0 jit jturn it0 sz2 hH3 sz3 hD hFn hLF hh4 hb hb1 hl hItF hDF no1 it4 hD4 hI0 hD0 hi; omega), (hJJ _ _).mpr ⟨i + 1, acc ++ [zv], σ8, ι8, _, its.push z, m9, rfl, hlt, j8, I9, fun y hy => by unfold upd; rw [if_neg hy], (e6'.trans e78).free k9 (Nat.le_of_eq hs9.1.symm) hD0, (f6'.trans e78).free k9 (Nat.le_of_eq hs9.1.symm) (by rw [sz2]; (clear he hRn j0 jit jturn it0 sz2 hH3 sz3 hD hFn hLF hh4 hb hb1 hl hItF hDF no1 it4 hD4 hI0 hD0 hi nI nD ji hlt hy ry it5 k5 hDI H6 I6 aL itne Dne it6 hv' next I7 q7 j8 I8 it8 I9 k9; omega)), it8.keep m9' fun o ho => k9 _ o (Ne.symm hDI) ho, nI8, nD8, hL9, ?_⟩⟩
        rw [Array.toList_push]
        refine ((hv6.mono e78.mono).mono m9').append ?_
        unfold VRels
        exact ⟨rz.mono m9', by unfold VRels; trivial⟩
    · have : i = items.length := by (clear ji nI nD hD0 hI0 hb1 hl hItF hDF no1 it4 hD4 he hRn j0 jit jturn it0 sz2 hH3 sz3 hD hFn hLF hh4 hb; omega)
      subst this
      refine wpAny_bind (wpAny_standAt (wpAny_bind (end_ok (hRn.imp I'.aok.hd fun q => ⟨I'.aok.hx, q⟩) I'.rep it ji.1 (Nat.le_refl _) fun h5 he5 hz5 => wpAny_pure ?_)))
      have I5 : Inv T A fs d cenv (Fn ++ F) ρ' ι' σ' { s' with heap := h5 } := I'.free (t := s'.toks) (fun b o q e => he5 b o q e) hz5 isit nI hb1
      have m5 : Mono ι' s'.heap ι' h5 := .free (fun b o q e => he5 b o q e) isit ι'
      have e5 : Ext T [] ι s.heap ι' h5 := e'.free (fun b o q e => he5 b o q e) hz5 hI0
      have hDI : H2.objs.size ≠ s₁.heap.objs.size := by rw [sz2]; exact Nat.succ_ne_self _
      have hL5 : IsL h5 H2.objs.size its m := he5 _ _ hDI hL
      have f5 : Ext T [] ι₁ s₁.heap ι' h5 := f'.free (fun b o q e => he5 b o q e) hz5 (Nat.le_refl _)
      obtain ⟨cl, mm, hc, hN, _⟩ := I5.frm.ns
      cases hc.2 hnf
      have mz : Mono ι' h5 (ι' ++ [(H2.objs.size, H2.objs.size)]) h5 := ⟨⟨_, rfl⟩, fun _ o e _ => ⟨o, e, rfl⟩, fun _ _ e _ => e⟩
      have R5 : Rep T (ι' ++ [(H2.objs.size, H2.objs.size)]) (σ' ++ [.list acc]) h5 := I5.rep.more (o := .list acc) (p := (H2.objs.size, H2.objs.size)) ⟨rfl, its.toList, ⟨m, by simpa using hL5⟩, (hv.mono m5).mono mz⟩ (Nat.le_trans hb1 (by rw [sz2]; (clear he hRn j0 jit jturn it0 sz2 hH3 sz3 hD hFn hLF hh4 hb hb1 hl hItF hDF no1 it4 hD4 hI0 hD0 nI nD ji hi hlt hz5 hDI mz; omega))) (Nat.le_trans hb1 (by rw [sz2]; (clear he hRn j0 jit jturn it0 sz2 hH3 sz3 hD hFn hLF hh4 hb hb1 hl hItF hDF no1 it4 hD4 hI0 hD0 nI nD ji hi hlt hz5 hDI mz; omega))) nD nD
      have moreX : ∀ {ι₀ : Inj} {h₀ : Heap}, Ext T [] ι₀ h₀ ι' h5 → h₀.objs.size ≤ H2.objs.size → Ext T [] ι₀ h₀ (ι' ++ [(H2.objs.size, H2.objs.size)]) h5 := fun e6 hz => by
        obtain ⟨κ, hκ, hκ'⟩ := e6.pre
        exact ⟨⟨κ ++ [(H2.objs.size, H2.objs.size)], by rw [hκ]; simp, fun p hp => by
          rcases List.mem_append.mp hp with hp | hp
          · exact hκ' p hp
          · cases List.mem_singleton.mp hp; exact ⟨hz, hz⟩⟩, e6.size, e6.cls, e6.frz, e6.keep, e6.frm⟩
      have ap := I5.frm.apart _ I5.frm.loc
      have nL : cenv.locals ∉ own (ι' ++ [(H2.objs.size, H2.objs.size)]) := fun q => by
        rw [own_append, List.mem_append] at q
        rcases q with q | q
        · exact ap.1 q
        · have : cenv.locals = H2.objs.size := by simpa [own] using q
          rw [Lc, sz3] at this; exact absurd this (Nat.succ_ne_self _)
      have lF : cenv.locals ∉ F := fun q => by
        have z := hFF _ q
        rw [Lc] at z
        have z' : H3.objs.size < s₁.heap.objs.size := z
        rw [sz3, sz2] at z'; exact absurd z' (by (clear he hRn j0 jit jturn it0 sz2 hH3 sz3 hD hFn hLF hh4 hb hb1 hl hItF hDF no1 it4 hD4 hI0 hD0 nI nD ji hi hlt hz5 hDI mz R5 moreX ap nL z'; omega))
      have Iout : Inv T A fs d env F ρ (ι' ++ [(H2.objs.size, H2.objs.size)]) (σ' ++ [.list acc]) { s' with heap := h5 } := I₁.ext (s' := { s' with heap := h5 }) (moreX f5 (by rw [sz2]; (clear he hRn j0 jit jturn it0 sz2 hH3 sz3 hD hFn hLF hh4 hb hb1 hl hItF hDF no1 it4 hD4 hI0 hD0 nI nD ji hi hlt hz5 hDI mz R5 moreX ap nL; omega))) R5 I'.gens I'.os
      refine hfin (.ref σ'.length) (σ' ++ [.list acc]) (ι' ++ [(H2.objs.size, H2.objs.size)]) { s' with heap := h5 } H2.objs.size cenv.locals (jend acc σ' j) Iout ?_ (moreX e5 hD0) ⟨nL, lF, ap.2, hl, mm, hN⟩
      unfold VRel; exact ⟨H2.objs.size, H2.objs.size, rfl, by rw [← I5.rep.len]; simp⟩
  rw [Lc] at loop
  exact codeAny_compStart_list loop (iterSelf it4 loop)

theorem EvOk.compR {elt iter : Expr} {x : Str} {px pos : Pos} {ifs : List Expr} {scope : Scope} (hok : compOk scope sc = true) (hx : isStore scope x = true) (hs : noSet iter = true)
    (he : EvOk T d sc ρ X iter (fun v σ₁ => (T.hd = false ∨ ∃ n, v = .rng n) ∧ CompOk T d sc ρ X scope x ifs elt Q v σ₁) σ) :
    EvOk T d sc ρ X (.ListComp elt [⟨.Name x px, iter, ifs, 0⟩] scope pos) Q σ := by
  intro env A fs F ι s hsc I
  subst hsc
  rw [eval_ListComp]
  refine comp_core I hok hx hs he (fun v σ₂ ι₂ s₂ D L q I₂ rv e₂ lg => ?_) fun _ _ p => p
  obtain ⟨no, nF, hb, lo, m, hN⟩ := lg
  refine ⟨m, hN.ns, fun h' hs' => ?_⟩
  obtain ⟨o, es, ep, g1, g2, _⟩ := hN
  have I₃ : Inv T A fs d env F ρ ι₂ σ₂ { s₂ with heap := h' } := I₂.side (t := s₂.toks) hs' g1 (by simp [loose, g2]) (by simp [frozen, g2]) (by rw [g2]; simp) no nF hb
  have k : ∀ b o, b ≠ L → s₂.heap.get? b = some o → h'.get? b = some o := fun b o q e => (hs'.2 b q).trans e
  exact ⟨v, σ₂, ι₂, q, rv.mono (.but k ⟨o, g1, by simp [loose, g2], by simp [frozen, g2]⟩ ι₂), I₃.rep, e₂.free k (Nat.le_of_eq hs'.1.symm) lo, I₃.gens, I₃.os⟩

theorem EvOk.comp {elt iter : Expr} {x : Str} {px pos : Pos} {ifs : List Expr} {scope : Scope} (hok : compOk scope sc = true) (hx : isStore scope x = true) (hs : noSet iter = true)
    (he : EvOk T d sc ρ X iter (fun v σ₁ => CompOk T d sc ρ X scope x ifs elt Q v σ₁) σ) (hT : T.hd = false := by rfl) :
    EvOk T d sc ρ X (.ListComp elt [⟨.Name x px, iter, ifs, 0⟩] scope pos) Q σ := .compR hok hx hs (he.mono (fun _ _ p => ⟨.inl hT, p⟩) fun _ _ p => p)
end
end Mine

namespace Mine
open PySem PySem.Calls PyProof.Rows PySem.SeqAt

section
variable {T : Tp} {A : Around} {fs : List Env} {d : Nat} {env : Env} {F : List Addr} {ι ι' : Inj} {h h' : Heap} {s : Shared} {ρ : Loc} {σ : Hp} {sc : Scope} {X : XS} {Q : QS}

theorem swaps_yes {elt : Expr} {gens : List Comprehension} {y : Str} {py pos : Pos} {scope : Scope} {l : Nat} (hkind : env.scope.kind = .function) (hy : env.kindOf y = some .local) (hsw : (py.line == pos.line && !(scope.names.any fun (n, k) => n == y && (k == .local || k == .cell))) = true) :
    swapsWith (.ListComp elt gens scope pos) (some (.Name y py)) l env = pure true := by
  have : swapsWith (.ListComp elt gens scope pos) (some (.Name y py)) l env = (pure (env.blockKind == .function && env.kindOf y == some .local && py.line == pos.line && !(scope.names.any fun (n, k) => n == y && (k == .local || k == .cell))) : Sem Bool) := rfl
  rw [this]
  simp only [Bool.and_eq_true] at hsw
  rw [hsw.1, hsw.2, hy, show env.blockKind = .function by unfold Env.blockKind; rw [hkind]; rfl]; rfl

theorem usedComp_ok {RR : Value → Shared → Prop} {EE : Value → Shared → Prop} {y : Str} {py : Pos} {v : V} {σ₂ : Hp} {ι₂ : Inj} {s₂ : Shared} {D L : Addr} (hy : isStore env.scope y = true) (I₂ : Inv T A fs d env F ρ ι₂ σ₂ s₂) (rv : VRel T ι₂ s₂.heap v (.ref D)) (e₂ : Ext T [] ι s.heap ι₂ s₂.heap) (lg : LetGo T F ι₂ s.heap s₂.heap L)
    (k : ∀ s', Inv T A fs d env F (upd ρ y (some v)) ι₂ σ₂ s' → Ext T F ι s.heap ι₂ s'.heap → RR .none s') :
    compPost (model T.prog T.w) A EE (some (assign (.Name y py) env)) RR (.ref D) L (.ok .next) s₂ := by
  obtain ⟨no, nF, hb, lo, m, hN⟩ := lg
  show wpAny _ A (assign (.Name y py) env (.ref D)) _ _ s₂
  refine wpAny_assign_Name (store_at I₂.rep I₂.frm hy rv fun h₃ t₃ R₃ H₃ e₃ ds₃ a₃ => ?_)
  have I₃ := I₂.stored (t := t₃) R₃ H₃ e₃ ds₃
  obtain ⟨a, hs₃, ha⟩ := a₃
  have aF : a ∈ F := by
    rcases ha with rfl | ⟨ka, ca⟩
    · exact I₂.frm.loc
    · exact I₂.frm.cin y a ka ca
  have hLa : L ≠ a := fun q => nF (q ▸ aF)
  have hN₃ := hN.sameBut hs₃ hLa
  refine ⟨m, hN₃.ns, fun h₄ hs₄ => ?_⟩
  obtain ⟨o, es, ep, g1, g2, _⟩ := hN₃
  have I₄ : Inv T A fs d env F _ ι₂ σ₂ { s₂ with heap := h₄, toks := t₃ } := I₃.side (t := t₃) hs₄ g1 (by simp [loose, g2]) (by simp [frozen, g2]) (by rw [g2]; simp) no nF hb
  have kk : ∀ b o, b ≠ L → h₃.get? b = some o → h₄.get? b = some o := fun b o q e => (hs₄.2 b q).trans e
  exact k _ I₄ ((e₂.up.trans e₃).free kk (Nat.le_of_eq hs₄.1.symm) lo)

/-- x = [..], on one line, x a plain local: the model stores ahead of letting the comprehension's names go -/
theorem StOk.assignComp {elt iter : Expr} {y x : Str} {py px pos pos' : Pos} {ifs : List Expr} {scope : Scope} (hok : compOk scope sc = true) (hx : isStore scope x = true) (hs : noSet iter = true) (hy : sc.names.lookup y = some .local)
    (hsw : (py.line == pos.line && !(scope.names.any fun (n, k) => n == y && (k == .local || k == .cell))) = true)
    (he : EvOk T d sc ρ X iter (fun v σ₁ => CompOk T d sc ρ X scope x ifs elt (fun w σ => Q .next (upd ρ y (some w)) σ) v σ₁) σ) (hT : T.hd = false := by rfl) :
    StOk T d sc ρ X (.Assign [.Name y py] (.ListComp elt [⟨.Name x px, iter, ifs, 0⟩] scope pos) pos') Q σ := by
  intro env A fs F ι s hsc I
  subst hsc
  rw [exec_Assign_Name_used _ _ _ _ (swaps_yes I.frm.kind hy hsw)]
  refine wpAny_bind (wpAny_standAt (wpAny_bind ?_))
  show wpAny _ A (do let _ ← comprehension (.ListComp elt [⟨.Name x px, iter, ifs, 0⟩] scope pos) scope env _ (newList []) false (eval iter env) (some (PySem.assign (.Name y py) env))) _ _ s
  have core := comp_core (use := some (PySem.assign (.Name y py) env)) (RR := fun _ s' => PostS T A fs d env F Q ι s.heap .next s') (EE := PostSX T A fs d env F X ι s.heap) (Q := fun v σ₁ => Q .next (upd ρ y (some v)) σ₁) (pos := pos) (px := px) I hok hx hs (he.mono (fun _ _ p => ⟨.inl hT, p⟩) fun _ _ p => p)
    (fun v σ₂ ι₂ s₂ D L q I₂ rv e₂ lg => usedComp_ok (py := py) (by unfold isStore; rw [hy]) I₂ rv e₂ lg fun s' I' e' => ⟨.next, _, σ₂, ι₂, q, trivial, I', e'⟩) fun _ _ p => p.sx I fun _ _ k => k
  exact wpAny_bind (wpAny_mono core (fun _ s' hq => wpAny_pure (wpAny_pure hq)) fun _ _ e => e)

/-- x = [..], x a cell: plain -/
theorem StOk.assignCell {x : Str} {pos' pos : Pos} {e : Expr} (q : EvOk T d sc ρ X e (fun v σ' => Q .next (upd ρ x (some v)) σ') σ) (hk : sc.names.lookup x = some .cell) :
    StOk T d sc ρ X (.Assign [.Name x pos'] e pos) Q σ := by
  intro env A fs F ι s hsc I
  subst hsc
  have hsw : swapsWith e (some (.Name x pos')) pos.line env = pure false := by
    have kx : env.kindOf x = some .cell := hk
    cases e <;> first | rfl | skip
    all_goals
      show (pure (env.blockKind == .function && env.kindOf x == some .local && _ && _) : Sem Bool) = pure false
      rw [kx, show (some NameKind.cell == some NameKind.local) = false from rfl, Bool.and_false, Bool.false_and, Bool.false_and]
  refine wpAny_Assign_Name (wpAny_mono (q env A fs F ι s rfl I) (fun y s₁ p => ?_) fun _ _ p => p.sx I fun _ _ k => k) hsw
  obtain ⟨v, σ₁, ι₁, q, rv, rp, ex, g, o⟩ := p
  have I₁ := I.ext ex rp g o
  refine store_ok I₁.rep I₁.frm (by unfold isStore; rw [hk]) rv fun h' t R' H' e' ds => ?_
  exact ⟨.next, _, σ₁, ι₁, q, trivial, I₁.stored R' H' e' ds, ex.up.trans e'⟩
end
end Mine

namespace Mine
open PySem PySem.Calls PyProof.Rows PySem.SeqAt

section
variable {T : Tp} {d : Nat} {X : QX} {Q : QE} {σ : Hp} {A : Around} {fs : List Env} {ι : Inj} {s : Shared} {h' : Heap}

theorem VRels.one {v : V} {xs : List Value} {h : Heap} (r : VRels T ι h [v] xs) : ∃ x, xs = [x] ∧ VRel T ι h v x := by
  obtain ⟨x, r', rfl, a, b⟩ := VRels.cons_iff.mp r; cases VRels.nil_iff.mp b; exact ⟨x, rfl, a⟩
theorem VRels.two {v w : V} {xs : List Value} {h : Heap} (r : VRels T ι h [v, w] xs) : ∃ x y, xs = [x, y] ∧ VRel T ι h v x ∧ VRel T ι h w y := by
  obtain ⟨x, r', rfl, a, b⟩ := VRels.cons_iff.mp r; obtain ⟨y, rfl, c⟩ := b.one; exact ⟨x, y, rfl, a, c⟩
theorem VRel.bi_inv {id : String} {x : Value} {h : Heap} (r : VRel T ι h (.bi id) x) : x = .builtin id := by unfold VRel at r; exact r
theorem VRel.type_inv {id : String} {x : Value} {h : Heap} (r : VRel T ι h (.type id) x) : x = .type id := by unfold VRel at r; exact r

/-- len -/
noncomputable def lenV (σ : Hp) : V → Option Nat
  | .tup vs => some vs.length
  | .str x => some x.length
  | .ref l => (match σ[l]? with | some (.list vs) => some vs.length | some (.sdict kvs) => some kvs.length | _ => none)
  | .scr xs => some xs.length
  | _ => none
theorem CallOk.len {v : V} {n : Nat} (e : lenV σ v = some n) (hn : n < 2 ^ 62) (q : Q (.int n) σ) : CallOk T d X (.bi "len") [v] Q σ := by
  intro A fs ι s fv xs S rf rxs
  cases rf.bi_inv
  obtain ⟨x, rfl, r⟩ := rxs.one
  cases v <;> simp only [lenV, reduceCtorEq] at e
  · cases e
    obtain ⟨t, rfl⟩ := r.str_inv
    exact len_str (by (clear q; omega)) (S.post q .int_mk _)
  · cases e
    obtain ⟨a, items, m, rfl, ht, hv⟩ := r.tup_inv
    have hl := hv.length
    simp only [Array.length_toList] at hl
    exact P.len_tuple ht (by (clear q; omega)) (by rw [hl]; exact S.post q .int_mk _)
  · obtain ⟨a, dx, rfl, hι⟩ := r.ref_inv
    split at e
    · rename_i vs hvs
      cases e
      obtain ⟨items, m, hL, hv⟩ := S.rep.list_at hvs hι
      have hl := hv.length
      simp only [Array.length_toList] at hl
      exact Calls.call_len_list hL.isList (by (clear q hι hvs; omega)) (by rw [hl]; exact S.post q .int_mk _)
    · rename_i kvs hvs
      cases e
      obtain ⟨rvs, hd, hv, hs⟩ := S.rep.sdict_at hvs hι
      exact call_len_dict hs hd (by rw [hv.length]; (clear q hι hvs; omega)) (by rw [hv.length]; exact S.post q .int_mk _)
    · cases e
  · cases e
    unfold VRel at r
    obtain ⟨a, ob, items, n, rfl, ho, hc, hd, l, hl, rfl⟩ := r
    have hsz : items.size = (l.map (·.1)).length := by rw [← Array.length_toList, hl]; simp
    exact Calls.call_len_list ⟨_, S.rep.base _ _ ho, hc, n, hd⟩ (by rw [hsz]; (clear q rxs hsz hl; omega)) (by rw [hsz]; exact S.post q .int_mk _)

/-- isinstance with a plain built-in type -/
noncomputable def kindName (σ : Hp) : V → Option String
  | .none => some "NoneType"
  | .bool _ => some "bool"
  | .int _ => some "int"
  | .str _ => some "str"
  | .tup _ => some "tuple"
  | .ref l => (match σ[l]? with | some (.list _) => some "list" | _ => none)
  | _ => none
noncomputable def isiV (σ : Hp) (v : V) (ty : String) : Option Bool := (kindName σ v).bind fun k => if ["list", "str", "tuple"].contains ty then some (k == ty) else none
theorem CallOk.isi {v : V} {ty : String} {b : Bool} (e : isiV σ v ty = some b) (q : Q (.bool b) σ) : CallOk T d X (.bi "isinstance") [v, .type ty] Q σ := by
  intro A fs ι s fv xs S rf rxs
  cases rf.bi_inv
  obtain ⟨x, y, rfl, r, r2⟩ := rxs.two
  cases r2.type_inv
  unfold isiV at e
  obtain ⟨k, hk, e⟩ := Option.bind_eq_some_iff.mp e
  split at e
  · rename_i hty
    simp only [List.contains_iff_mem, List.mem_cons, List.not_mem_nil, or_false] at hty
    cases v <;> simp only [kindName, reduceCtorEq, Option.some.injEq] at hk
    · cases r.none_inv; subst hk
      rcases hty with rfl | rfl | rfl <;> cases e <;> first | exact IsiPair.NoneType_list (S.post q .bool_mk _) | exact IsiPair.NoneType_str (S.post q .bool_mk _) | exact IsiPair.NoneType_tuple (S.post q .bool_mk _)
    · cases r.bool_inv; subst hk
      rcases hty with rfl | rfl | rfl <;> cases e <;> first | exact IsiPair.bool_list (S.post q .bool_mk _) | exact IsiPair.bool_str (S.post q .bool_mk _) | exact IsiPair.bool_tuple (S.post q .bool_mk _)
    · obtain ⟨t, rfl⟩ := r.int_inv; subst hk
      rcases hty with rfl | rfl | rfl <;> cases e <;> first | exact IsiPair.int_list (S.post q .bool_mk _) | exact IsiPair.int_str (S.post q .bool_mk _) | exact IsiPair.int_tuple (S.post q .bool_mk _)
    · obtain ⟨t, rfl⟩ := r.str_inv; subst hk
      rcases hty with rfl | rfl | rfl <;> cases e <;> first | exact IsiPair.str_list (S.post q .bool_mk _) | exact IsiPair.str_str (S.post0 q .bool_mk) | exact IsiPair.str_tuple (S.post q .bool_mk _)
    · obtain ⟨a, items, m, rfl, ht, hv⟩ := r.tup_inv; subst hk
      rcases hty with rfl | rfl | rfl <;> cases e <;> first | exact IsiPair.tuple_list ht rfl (S.post q .bool_mk _) | exact IsiPair.tuple_str ht rfl (S.post q .bool_mk _) | exact IsiPair.tuple_tuple ht rfl (S.post0 q .bool_mk)
    · obtain ⟨a, dx, rfl, hι⟩ := r.ref_inv
      split at hk
      · rename_i vs hvs
        cases hk
        obtain ⟨items, m, hL, hv⟩ := S.rep.list_at hvs hι
        rcases hty with rfl | rfl | rfl <;> cases e <;> first | exact IsiPair.list_list hL rfl (S.post0 q .bool_mk) | exact IsiPair.list_str hL rfl (S.post q .bool_mk _) | exact IsiPair.list_tuple hL rfl (S.post q .bool_mk _)
      · cases hk
  · cases e

theorem CallOk.ord {c : Nat} (q : Q (.int c) σ) : CallOk T d X (.bi "ord") [.str ⟨#[c]⟩] Q σ := by
  intro A fs ι s fv xs S rf rxs
  cases rf.bi_inv
  obtain ⟨x, rfl, r⟩ := rxs.one
  obtain ⟨t, rfl⟩ := r.str_inv
  exact P.ord_of_char (S.post q .int_mk _)

theorem CallOk.range {n : Int} (q : Q (.rng n) σ) : CallOk T d X (.type "range") [.int n] Q σ := by
  intro A fs ι s fv xs S rf rxs
  cases rf.type_inv
  obtain ⟨x, rfl, r⟩ := rxs.one
  obtain ⟨t, rfl⟩ := r.int_inv
  refine call_range_1 ?_
  refine ⟨.rng n, σ, ι, q, ?_, S.rep.push _, .push .., S.gens, S.os⟩
  unfold VRel
  exact ⟨_, _, _, _, rfl, Heap.get?_push_size _ rfl⟩

/-- list(x) of a tuple or a list -/
noncomputable def seqV (σ : Hp) : V → Option (List V)
  | .tup vs => some vs
  | .ref l => (match σ[l]? with | some (.list vs) => some vs | _ => none)
  | _ => none
theorem CallOk.list {v : V} {vs : List V} (e : seqV σ v = some vs) (hn : vs.length ≤ sizeLine) (q : Q (.ref σ.length) (σ ++ [.list vs])) : CallOk T d X (.type "list") [v] Q σ := by
  intro A fs ι s fv xs S rf rxs
  cases rf.type_inv
  obtain ⟨x, rfl, r⟩ := rxs.one
  have main : ∀ a ty items m, (ty = "list" ∨ ty = "tuple") → s.heap.get? a = some ⟨.type ty, Option.none, .seq items m, #[]⟩ → VRels T ι s.heap vs items.toList → x = .ref a → wpAny (model T.prog T.w) A (call (.type "list") [x]) (PostE T [] Q ι s.heap) (PostX T [] X ι s.heap) s := fun a ty items m hty ho hv hx => by
    subst hx
    have hl := hv.length
    simp only [Array.length_toList] at hl
    have fin : wpAny (model T.prog T.w) A (call (.type "list") [.ref a]) (fun y s' => y = .ref s.heap.objs.size ∧ ∃ h' c', s' = { s with heap := h' } ∧ (∀ b o', s.heap.get? b = some o' → h'.get? b = some o') ∧ h'.get? s.heap.objs.size = some { cls := .type "list", dict := Option.none, data := .seq items c', slots := #[] }) (PostX T [] X ι s.heap) s :=
      call_list_seq a hty ho rfl rfl (fun h' c' k g => ⟨rfl, h', c', rfl, k, g⟩) (by omega)
    refine wpAny_mono (wpAny_size fin) (fun y s' p => ?_) fun _ _ p => p.1
    obtain ⟨⟨rfl, h', c', rfl, k, g⟩, hz⟩ := p
    have no : s.heap.objs.size ∉ own ι := fun z => absurd (S.rep.own_lt z) (Nat.lt_irrefl _)
    have e0 : Ext T [] ι s.heap ι h' := .of_keeps hz k
    have mz : Mono ι s.heap (ι ++ [(s.heap.objs.size, s.heap.objs.size)]) h' := ⟨⟨_, rfl⟩, e0.cls, e0.frz⟩
    refine ⟨.ref σ.length, _, ι ++ [(s.heap.objs.size, s.heap.objs.size)], q, ?_, (S.rep.grow hz k).more (o := .list vs) (p := (s.heap.objs.size, s.heap.objs.size)) ⟨rfl, items.toList, ⟨c', by simpa using g⟩, hv.mono mz⟩ S.rep.size S.rep.size no no, ⟨⟨_, rfl, by simp⟩, e0.size, e0.cls, e0.frz, e0.keep, e0.frm⟩, S.gens, S.os⟩
    unfold VRel; exact ⟨s.heap.objs.size, s.heap.objs.size, rfl, by rw [← S.rep.len]; simp⟩
  cases v <;> simp only [seqV, reduceCtorEq] at e
  · cases e
    obtain ⟨a, items, m, rfl, ht, hv⟩ := r.tup_inv
    exact main a "tuple" items m (.inr rfl) ht hv rfl
  · obtain ⟨a, dx, rfl, hι⟩ := r.ref_inv
    split at e
    · rename_i vs' hvs
      cases e
      obtain ⟨items, m, hL, hv⟩ := S.rep.list_at hvs hι
      exact main a "list" items m (.inl rfl) hL hv rfl
    · cases e


end
end Mine

namespace Mine
open PySem PySem.Calls PyProof.Rows PySem.SeqAt

section
variable {T : Tp} {d : Nat} {X : QX} {Q : QE} {σ : Hp} {A : Around} {fs : List Env} {ι : Inj} {s : Shared} {h' : Heap}

/-- a list of the mini heap has been set anew in place -/
theorem St.setList {l : Nat} {vs vs' : List V} {a dx : Addr} {items : Array Value} {n t : Nat} {g : Array Value → Array Value} {v : V} {x : Value} (S : St T A fs d ι σ s) (hl : σ[l]? = some (.list vs)) (hι : ι[l]? = some (a, dx)) (hL : IsL s.heap a items n) (hv : VRels T ι s.heap vs' (g items).toList)
    (q : Q v (σ.set l (.list vs'))) (r : VRel T ι s.heap v x) : PostE T [] Q ι s.heap x { s with heap := s.heap.update a (Obj.mapSeq g), toks := t } := by
  have h2 : (s.heap.update a (Obj.mapSeq g)).get? a = some ⟨.type "list", Option.none, .seq (g items) (if (g items).size == items.size then n else n + 1), #[]⟩ := Heap.get?_update_self _ hL rfl
  obtain ⟨e1, _⟩ := S.rep.objs l _ _ hl hι
  cases e1
  obtain ⟨S', e⟩ := St.turned (t := t) (o := .list vs') S hι (Heap.SameBut.update ..) (.inl rfl) hL h2 rfl rfl fun m => ⟨rfl, (g items).toList, ⟨_, by simpa using h2⟩, hv.mono m⟩
  exact ⟨v, _, ι, q, r.mono e.mono, S'.rep, e, S.gens, S.os⟩

theorem CallOk.append {l : Nat} {v : V} {vs : List V} (hl : σ[l]? = some (.list vs)) (hn : vs.length ≤ sizeLine) (q : Q .none (σ.set l (.list (vs ++ [v])))) : CallOk T d X (.bi "list.append") [.ref l, v] Q σ := by
  intro A fs ι s fv xs S rf rxs
  cases rf.bi_inv
  obtain ⟨x, y, rfl, r, ry⟩ := rxs.two
  obtain ⟨a, dx, rfl, hι⟩ := r.ref_inv
  obtain ⟨items, m, hL, hv⟩ := S.rep.list_at hl hι
  have hlen := hv.length
  simp only [Array.length_toList] at hlen
  refine call_meets F.slot_list_append ⟨_, hL, rfl⟩ F.entry_list_append (F.args_list_append_2 _ _) (list_append a items m y (by (clear hι hl; omega))) ⟨hL, ?_⟩
  refine S.setList (g := fun z => z.push y) hl hι hL ?_ q .none_mk
  rw [Array.toList_push]
  exact hv.append (by unfold VRels; exact ⟨ry, by unfold VRels; trivial⟩)

theorem VRels.snoc {h : Heap} : ∀ {vs : List V} {v : V} {xs : List Value}, VRels T ι h (vs ++ [v]) xs → ∃ ys y, xs = ys ++ [y] ∧ VRels T ι h vs ys ∧ VRel T ι h v y
  | [], v, xs, r => by obtain ⟨x, rfl, a⟩ := VRels.one r; exact ⟨[], x, rfl, by unfold VRels; trivial, a⟩
  | w :: vs, v, xs, r => by
    obtain ⟨x, r', rfl, a, b⟩ := VRels.cons_iff.mp r
    obtain ⟨ys, y, rfl, c, e⟩ := VRels.snoc b
    exact ⟨x :: ys, y, rfl, by unfold VRels; exact ⟨a, c⟩, e⟩

theorem CallOk.pop {l : Nat} {v : V} {vs : List V} (hl : σ[l]? = some (.list (vs ++ [v]))) (hn : vs.length < sizeLine) (q : Q v (σ.set l (.list vs))) : CallOk T d X (.bi "list.pop") [.ref l] Q σ := by
  intro A fs ι s fv xs S rf rxs
  cases rf.bi_inv
  obtain ⟨x, rfl, r⟩ := rxs.one
  obtain ⟨a, dx, rfl, hι⟩ := r.ref_inv
  obtain ⟨items, m, hL, hv⟩ := S.rep.list_at hl hι
  obtain ⟨ys, y, hi, hy, ry⟩ := hv.snoc
  have hlen := hv.length
  simp only [Array.length_toList, List.length_append, List.length_cons, List.length_nil] at hlen
  have hsz : items.size - 1 = ys.length := by
    have : items.size = ys.length + 1 := by rw [← Array.length_toList, hi]; simp
    (clear hlen hι hl hn; omega)
  have hlast : items[items.size - 1]? = some y := by
    rw [← Array.getElem?_toList, hi, hsz]; simp
  refine call_meets F.slot_list_pop ⟨_, hL, rfl⟩ F.entry_list_pop (F.args_list_pop_1 _) (MeetsSeq.list_pop_last a items m y hlast (by (clear hsz hlast hι hl; omega))) ⟨hL, ?_⟩
  refine S.setList (t := s.toks) (g := fun z => z.eraseIdxIfInBounds (items.size - 1)) hl hι hL ?_ q ry
  have e2 : (items.eraseIdxIfInBounds (items.size - 1)).toList = ys := by
    rw [Array.toList_eraseIdxIfInBounds, hi, hsz]
    simp [List.eraseIdx_append_of_length_le]
  rw [e2]; exact hy


theorem CallOk.extend {l k : Nat} {vs us : List V} (hl : σ[l]? = some (.list vs)) (hk : σ[k]? = some (.list us)) (hn : vs.length + us.length ≤ sizeLine) (q : Q .none (σ.set l (.list (vs ++ us)))) : CallOk T d X (.bi "list.extend") [.ref l, .ref k] Q σ := by
  intro A fs ι s fv xs S rf rxs
  cases rf.bi_inv
  obtain ⟨x, y, rfl, r, ry⟩ := rxs.two
  obtain ⟨a, dx, rfl, hι⟩ := r.ref_inv
  obtain ⟨b, dy, rfl, hιb⟩ := ry.ref_inv
  obtain ⟨items, m, hL, hv⟩ := S.rep.list_at hl hι
  obtain ⟨items2, m2, hL2, hv2⟩ := S.rep.list_at hk hιb
  have hlen := hv.length; have hlen2 := hv2.length
  simp only [Array.length_toList] at hlen hlen2
  refine call_meets F.slot_list_extend ⟨_, hL, rfl⟩ F.entry_list_extend (F.args_list_extend_2 _ _) (AutoSeq1.list_extend_list_list_0 a items m b items2 m2 (fun z => by
    rw [Bool.and_eq_true] at z
    have z2 := z.2
    unfold Builtin.List.listTooLong at z2
    rw [decide_eq_true_eq] at z2; (clear z hιb hι hl hk; omega)) (by (clear hlen2 hι hιb hk hl; omega)) (by (clear hι hιb hk hl; omega))) ⟨hL, hL2, ?_⟩
  refine S.setList (g := fun z => z ++ items2) hl hι hL ?_ q .none_mk
  rw [Array.toList_append]; exact hv.append hv2

/-- the truths of a list -/
noncomputable def allB : List V → Option (List Bool)
  | [] => some []
  | .bool b :: r => (allB r).map (b :: ·)
  | _ => Option.none
theorem allB_at {h : Heap} : ∀ {vs : List V} {bs : List Bool} {xs : List Value}, allB vs = some bs → VRels T ι h vs xs → xs = bs.map Value.bool
  | [], _, xs, e, r => by cases e; exact VRels.nil_iff.mp r
  | v :: vs, bs, xs, e, r => by
    obtain ⟨x, r', rfl, a, b⟩ := VRels.cons_iff.mp r
    cases v <;> first | (cases e; done) | skip
    simp only [allB, Option.map_eq_some_iff] at e
    obtain ⟨bs', e, rfl⟩ := e
    cases a.bool_inv
    rw [allB_at e b]; rfl

theorem truthsOk {prog : Program} {w : World} {A : Around} (bs : List Bool) : TruthOf prog w A (fun i v => ((bs.map Value.bool).toArray)[i]? = some v) (fun i => bs.getD i false) := fun i v s Q E hP hQ => by
  simp only [List.getElem?_toArray, List.getElem?_map, Option.map_eq_some_iff] at hP
  obtain ⟨b, hb, rfl⟩ := hP
  refine wpAny_truthy_bool ?_
  have hQ' : Q (bs.getD i false) s := hQ
  rw [List.getD_eq_getElem?_getD, hb] at hQ'
  exact hQ'
theorem range_all (bs : List Bool) : ((List.range bs.length).all fun i => bs.getD i false) = bs.all id := by
  rw [Bool.eq_iff_iff, List.all_eq_true, List.all_eq_true]
  constructor
  · intro h x hx
    obtain ⟨i, hi, rfl⟩ := List.getElem_of_mem hx
    have := h i (by simpa using hi)
    simpa [List.getD_eq_getElem?_getD, hi] using this
  · intro h i hi
    have hi' : i < bs.length := by simpa using hi
    simpa [List.getD_eq_getElem?_getD, hi'] using h bs[i] (List.getElem_mem hi')
theorem range_any (bs : List Bool) : ((List.range bs.length).any fun i => bs.getD i false) = bs.any id := by
  rw [Bool.eq_iff_iff, List.any_eq_true, List.any_eq_true]
  constructor
  · rintro ⟨i, hi, h⟩
    have hi' : i < bs.length := by simpa using hi
    exact ⟨bs[i], List.getElem_mem hi', by simpa [List.getD_eq_getElem?_getD, hi'] using h⟩
  · rintro ⟨x, hx, h⟩
    obtain ⟨i, hi, rfl⟩ := List.getElem_of_mem hx
    exact ⟨i, by simpa using hi, by simpa [List.getD_eq_getElem?_getD, hi] using h⟩

theorem CallOk.all {l : Nat} {vs : List V} {bs : List Bool} (hl : σ[l]? = some (.list vs)) (hb : allB vs = some bs) (q : Q (.bool (bs.all id)) σ) (hT : T.hd = false := by rfl) : CallOk T d X (.bi "all") [.ref l] Q σ := by
  intro A fs ι s fv xs S rf rxs
  cases rf.bi_inv
  obtain ⟨x, rfl, r⟩ := rxs.one
  obtain ⟨a, dx, rfl, hι⟩ := r.ref_inv
  obtain ⟨items, m, hL, hv⟩ := S.rep.list_at hl hι
  have hitems : items = (bs.map Value.bool).toArray := by rw [← allB_at hb hv]
  subst hitems
  have hne : a ≠ s.heap.objs.size := Nat.ne_of_lt (Heap.lt_size hL)
  have fin : wpAny (model T.prog T.w) A (call (.builtin "all") [.ref a]) (fun y s' => y = .bool (bs.all id) ∧ ∃ h' c', s' = { s with heap := h', toks := c' } ∧ (∀ b o', s.heap.get? b = some o' → h'.get? b = some o')) (PostX T [] X ι s.heap) s := by
    refine call_all_walk (wpAny_pyIter_list hL.isList ?_)
    refine ⟨s.heap.objs.size, _, _, _, _, _, _, rfl, Walks.list (A := A.in1) (S.aok.hd hT) s.heap.objs.size a hne _, ⟨⟨_, Heap.get?_push_size _ rfl, rfl, rfl⟩, hL.isList.push _⟩, truthsOk bs, fun h' tk k => ⟨?_, h', tk, rfl, fun b o hb => k b o (by simpa using Nat.ne_of_lt (Heap.lt_size hb)) (Heap.get?_push_of_some _ hb)⟩⟩
    rw [List.size_toArray, List.length_map, range_all]
  refine wpAny_mono (wpAny_size fin) (fun y s' p => ?_) fun _ _ p => p.1
  obtain ⟨⟨rfl, h', c', rfl, k⟩, hz⟩ := p
  exact S.grown hz k q .bool_mk

theorem CallOk.any {l : Nat} {vs : List V} {bs : List Bool} (hl : σ[l]? = some (.list vs)) (hb : allB vs = some bs) (q : Q (.bool (bs.any id)) σ) (hT : T.hd = false := by rfl) : CallOk T d X (.bi "any") [.ref l] Q σ := by
  intro A fs ι s fv xs S rf rxs
  cases rf.bi_inv
  obtain ⟨x, rfl, r⟩ := rxs.one
  obtain ⟨a, dx, rfl, hι⟩ := r.ref_inv
  obtain ⟨items, m, hL, hv⟩ := S.rep.list_at hl hι
  have hitems : items = (bs.map Value.bool).toArray := by rw [← allB_at hb hv]
  subst hitems
  have hne : a ≠ s.heap.objs.size := Nat.ne_of_lt (Heap.lt_size hL)
  have fin : wpAny (model T.prog T.w) A (call (.builtin "any") [.ref a]) (fun y s' => y = .bool (bs.any id) ∧ ∃ h' c', s' = { s with heap := h', toks := c' } ∧ (∀ b o', s.heap.get? b = some o' → h'.get? b = some o')) (PostX T [] X ι s.heap) s := by
    refine call_any_walk (wpAny_pyIter_list hL.isList ?_)
    refine ⟨s.heap.objs.size, _, _, _, _, _, _, rfl, Walks.list (A := A.in1) (S.aok.hd hT) s.heap.objs.size a hne _, ⟨⟨_, Heap.get?_push_size _ rfl, rfl, rfl⟩, hL.isList.push _⟩, truthsOk bs, fun h' tk k => ⟨?_, h', tk, rfl, fun b o hb => k b o (by simpa using Nat.ne_of_lt (Heap.lt_size hb)) (Heap.get?_push_of_some _ hb)⟩⟩
    rw [List.size_toArray, List.length_map, range_any]
  refine wpAny_mono (wpAny_size fin) (fun y s' p => ?_) fun _ _ p => p.1
  obtain ⟨⟨rfl, h', c', rfl, k⟩, hz⟩ := p
  exact S.grown hz k q .bool_mk



end
end Mine

namespace Mine
open PySem PySem.Calls PyProof.Rows PySem.SeqAt


section
variable {T : Tp} {A : Around} {fs : List Env} {d : Nat} {env : Env} {F : List Addr} {ι : Inj} {s : Shared} {ρ : Loc} {σ : Hp} {sc : Scope} {X : QX} {Q : QE}


end
end Mine

namespace Mine
open PySem PySem.Calls PyProof.Rows PySem.SeqAt

noncomputable def biTab : List (Str × V) := [("len", .bi "len"), ("isinstance", .bi "isinstance"), ("ord", .bi "ord"), ("all", .bi "all"), ("any", .bi "any"), ("min", .bi "min"), ("sorted", .bi "sorted"), ("reversed", .type "reversed"),
  ("list", .type "list"), ("tuple", .type "tuple"), ("str", .type "str"), ("int", .type "int"), ("range", .type "range"), ("bool", .type "bool"), ("ValueError", .type "ValueError")]
noncomputable def gvOf (K : PySem.W.Frag) (x : Str) : Option V := match PySem.W.nsIn K mainGlobals x with
  | some (some (.int i _)) => some (.int i)
  | some (some (.str s _)) => some (.str s)
  | some (some (.ref _)) => some (.glob x)
  | some none => biTab.lookup x
  | _ => none

theorem biTab_boot : (biTab.all fun p => match p.2 with
    | .bi id => bootBuiltins p.1 == some (.builtin id)
    | .type n => bootBuiltins p.1 == some (.type n)
    | _ => false) = true := by decide +kernel
theorem biTab_name : (biTab.all fun p => !(p.1 == ("__name__" : Str))) = true := by decide +kernel

noncomputable def tpOf (prog : Program) (w : World) (s : Shared) (K : PySem.W.Frag) : Tp := ⟨prog, w, s.heap, s.os, K, gvOf K, false⟩

theorem topOk_of {prog p : Program} {w : World} {s : Shared} {K : PySem.W.Frag} {loose : List Str} {mg mb : Str → Option Value} (TR : PySem.W.TopRead p loose mg mb s.heap) (X : K.In s.heap) : TopOk (tpOf prog w s K) where
  X0 := X
  lim := TR.nolimit
  own := fun x C bmB newId e q => ⟨mg, PySem.W.own_of_in X TR e q⟩
  gl := fun x v e => by
    have e' : gvOf K x = some v := e
    unfold gvOf at e'
    split at e'
    · rename_i i t hn; cases e'
      exact ⟨_, mg, mb, TR.g, TR.b, .inl (PySem.W.mg_of X TR.g hn), .int_mk⟩
    · rename_i i t hn; cases e'
      exact ⟨_, mg, mb, TR.g, TR.b, .inl (PySem.W.mg_of X TR.g hn), .str_mk⟩
    · rename_i a hn; cases e'
      refine ⟨_, mg, mb, TR.g, TR.b, .inl (PySem.W.mg_of X TR.g hn), ?_⟩
      unfold VRel Tp.g
      show (PySem.W.nsIn K mainGlobals x).join = _
      rw [hn]; rfl
    · rename_i hn
      have hm := mem_of_lookup e'
      have h1 := List.all_eq_true.mp biTab_boot _ hm
      have h2 := List.all_eq_true.mp biTab_name _ hm
      have hx : x ≠ "__name__" := by simpa using h2
      cases v <;> first | (cases h1; done) | skip
      · refine ⟨_, mg, mb, TR.g, TR.b, .inr ⟨PySem.W.mg_none_of X TR.g hn, (TR.builtins x hx).trans (beq_iff_eq.mp h1)⟩, ?_⟩
        unfold VRel; rfl
      · refine ⟨_, mg, mb, TR.g, TR.b, .inr ⟨PySem.W.mg_none_of X TR.g hn, (TR.builtins x hx).trans (beq_iff_eq.mp h1)⟩, ?_⟩
        unfold VRel; rfl
    · cases e'

theorem start {prog p : Program} {w : World} {s : Shared} {K : PySem.W.Frag} {loose : List Str} {mg mb : Str → Option Value} {fa a la : Addr} {xs : List Int} {l : List (Int × Tok)} {o : Obj} {items : Array Value} {n : Nat} {name : Str}
    (TR : PySem.W.TopRead p loose mg mb s.heap) (X : K.In s.heap) (hg : s.gens = #[]) (hb : ∃ b o, K.lookup b = some o ∧ 10 ≤ b) (hmg : mg name = some (.ref fa)) (hK : PySem.W.nsIn K mainGlobals name = some (some (.ref a)))
    (ho : s.heap.get? la = some o) (hc : o.cls = .type "list") (hd : o.data = .seq items n) (hl : items.toList = l.map (fun p => Value.int p.1 p.2)) (hx : l.map (·.1) = xs)
    (h : CallOk (tpOf prog w s K) 690 (fun _ _ => False) (.glob name) [.scr xs] (fun v _ => v = .bool true) []) :
    wpAny (model prog w) callerA (call (.ref fa) [.ref la]) (fun v s' => v = .bool true ∧ (∀ b o, s.heap.get? b = some o → s'.heap.get? b = some o) ∧ s'.os = s.os ∧ s'.gens = #[]) (fun _ _ => False) s := by
  have hfa := PySem.W.mg_of X TR.g hK
  rw [hmg] at hfa; cases hfa
  have hbig : 10 ≤ s.heap.objs.size := by
    obtain ⟨b, o, e, h10⟩ := hb
    exact Nat.le_of_lt (Nat.lt_of_le_of_lt h10 (Heap.lt_size (X _ _ e)))
  have S : St (tpOf prog w s K) callerA [] 690 [] [] s := by
    have R : Rep (tpOf prog w s K) [] [] s.heap := { len := rfl, big := hbig, size := Nat.le_refl _, base := fun _ _ e => e, objs := fun l o p e => by simp at e, fresh := fun p hp => (by cases hp), apart := fun i j p q e => by simp at e }
    exact ⟨R, ⟨rfl, fun e he => (by cases he), by decide, by decide, fun _ => rfl, .none rfl⟩, hg, rfl⟩
  have rf : VRel (tpOf prog w s K) [] s.heap (.glob name) (.ref fa) := by
    unfold VRel Tp.g
    show (PySem.W.nsIn K mainGlobals name).join = _
    rw [hK]; rfl
  have rx : VRels (tpOf prog w s K) [] s.heap [.scr xs] [.ref la] := by
    unfold VRels
    refine ⟨?_, by unfold VRels; trivial⟩
    unfold VRel
    exact ⟨la, o, items, n, rfl, ho, hc, hd, l, hl, hx⟩
  refine wpAny_mono (h callerA [] [] s (.ref fa) [.ref la] S rf rx) (fun v s' p => ?_) fun e s' p => ?_
  · obtain ⟨v', σ', ι', rfl, rv, rp, ex, g, oo⟩ := p
    cases rv.bool_inv
    exact ⟨rfl, rp.base, oo, g⟩
  · obtain ⟨_, _, _, _, _, f, _⟩ := p
    exact f.elim

theorem finish {M : Model} {A : Around} {t : Sem Value} {c : PySem.W.ClaimW} {cl : Str → Option Addr} {mean : ExcName → Option Value} {args : List PySem.W.WData} {s : Shared} (hn : ∀ cls, c.raises args cls = false) (hp : c.post args (.bool true) args = true)
    (h : wpAny M A t (fun v s' => v = .bool true ∧ (∀ b o, s.heap.get? b = some o → s'.heap.get? b = some o) ∧ s'.os = s.os ∧ s'.gens = #[]) (fun _ _ => False) s) :
    wpAny M A t (fun v s' => PySem.W.GoodWG c cl mean args s (.ok (.ret v)) s') (fun e s' => PySem.W.GoodWG c cl mean args s (.error e) s') s := by
  refine wpAny_mono h (fun v s' p => ?_) fun e s' p => p.elim
  obtain ⟨rfl, k, o, g⟩ := p
  exact PySem.W.GoodW.toG ⟨.inl ⟨_, .bool true, [], rfl, hn, .bool true, hp, fun _ => ⟨List.nodup_nil, fun a ha => by cases ha⟩⟩, k, o, g⟩

theorem ints_pairs {vs : List Value} {xs : List Int} (h : IntsAre vs xs) : ∃ l : List (Int × Tok), vs = l.map (fun p => Value.int p.1 p.2) ∧ l.map (·.1) = xs := by
  induction h with
  | nil => exact ⟨[], rfl, rfl⟩
  | cons n t _ ih => obtain ⟨l, rfl, rfl⟩ := ih; exact ⟨(n, t) :: l, rfl, rfl⟩
end Mine

namespace Mine
open PySem PySem.Calls PyProof.Rows PySem.SeqAt

section
variable {T : Tp} {d : Nat} {sc : Scope} {ρ : Loc} {X : QX} {Q : QE} {σ : Hp} {x y : Int} {a b : V} {s t : Str}
end

end Mine

namespace Mine
open PySem PySem.Calls PyProof.Rows PySem.SeqAt

section
variable {T : Tp} {d : Nat} {X : QX} {Q : QE} {σ : Hp}
theorem m_append : MethFacts "list" "append" "list.append" := ⟨F.plainAttrs_list, F.slot_list_append, F.type_list_append⟩
theorem m_pop : MethFacts "list" "pop" "list.pop" := ⟨F.plainAttrs_list, F.slot_list_pop, F.type_list_pop⟩
theorem m_extend : MethFacts "list" "extend" "list.extend" := ⟨F.plainAttrs_list, F.slot_list_extend, F.type_list_extend⟩

theorem Resolves.bi {ov : V} {name : Str} {id ty : String} (h1 : kindV σ ov = some ty) (h2 : MethFacts ty name id) : Resolves T σ ov name (.bi id) := .inr ⟨id, ty, rfl, h1, h2⟩
end

section
variable {T : Tp} {d : Nat} {sc : Scope} {ρ : Loc} {X : XS} {Q : QS} {σ : Hp}
end
end Mine

namespace Mine
open PySem PySem.Calls PyProof.Rows PySem.SeqAt

section
variable {T : Tp} {d : Nat} {sc : Scope} {ρ : Loc} {X : QX} {Q : QE} {σ : Hp}
theorem EvOk.nm {x : Str} {pos : Pos} {v : V} (hv : ρ x = some v) (hk : isVar sc x = true) (ho : scOk sc = true) (h : Q v σ) : EvOk T d sc ρ X (.Name x pos) Q σ := EvOk.var h hv hk ho
theorem EvOk.ix {value slice : Expr} {pos : Pos} (ns : notSlice slice = true) (h : EvOk T d sc ρ X value (fun o σ₁ => EvOk T d sc ρ X slice (fun i σ₂ => itemVC o i Q σ₂) σ₁) σ) : EvOk T d sc ρ X (.Subscript value slice pos) Q σ := EvOk.item h ns
theorem i_tup {vs : List V} {k : Int} {j : Nat} {v : V} (e1 : seqIndex? k vs.length = some j) (e2 : vs[j]? = some v) (e3 : decide (-(2 ^ 63) ≤ k ∧ k < 2 ^ 63) = true) (q : Q v σ) : itemVC (.tup vs) (.int k) Q σ := ⟨j, v, e1, e2, (of_decide_eq_true e3 : -(2 ^ 63) ≤ k ∧ k < 2 ^ 63), q⟩
theorem i_list {l : Nat} {vs : List V} {k : Int} {j : Nat} {v : V} (e0 : σ[l]? = some (.list vs)) (e1 : seqIndex? k vs.length = some j) (e2 : vs[j]? = some v) (e3 : sm63 k) (q : Q v σ) : itemVC (.ref l) (.int k) Q σ := ⟨vs, j, v, e0, e1, e2, e3, q⟩
end
section
variable {T : Tp} {d : Nat} {sc : Scope} {ρ : Loc} {X : XS} {Q : QS} {σ : Hp}
end
end Mine

namespace Mine
open PySem PySem.Calls PyProof.Rows PySem.SeqAt

/-- the address b lies within the heap and holds nothing -/
noncomputable def Dead (b : Addr) (h : Heap) : Prop := b < h.objs.size ∧ h.get? b = none
theorem Dead.update {b a : Addr} {h : Heap} {f : Obj → Obj} (x : Dead b h) (e : (h.get? a).isSome = true) : Dead b (h.update a f) := by
  refine ⟨by rw [Heap.size_after_update]; exact x.1, ?_⟩
  have : a ≠ b := fun q => by rw [q, x.2] at e; cases e
  rw [Heap.get?_update_other _ _ this]; exact x.2
theorem Dead.push {b : Addr} {h : Heap} {o : Obj} (x : Dead b h) : Dead b (h.push o) := by
  refine ⟨by rw [Heap.size_push]; exact Nat.lt_succ_of_lt x.1, ?_⟩
  rw [Heap.get?_push_ne _ _ _ (Nat.ne_of_lt x.1)]; exact x.2
theorem wpAny_dead {α : Type} {M : Model} {A : Around} {m : Sem α} {Q : α → Shared → Prop} {E : Value → Shared → Prop} {s : Shared} (h : wpAny M A m Q E s) :
    wpAny M A m (fun a s' => Q a s' ∧ ∀ b, Dead b s.heap → Dead b s'.heap) (fun a s' => E a s' ∧ ∀ b, Dead b s.heap → Dead b s'.heap) s :=
  wpAny_keep (P := fun h => ∀ b, Dead b s.heap → Dead b h) ⟨fun _ _ _ e x b hb => (x b hb).update e, fun _ _ x b hb => (x b hb).push⟩ (fun _ hb => hb) h
end Mine

namespace Mine
open PySem PySem.Calls PyProof.Rows PySem.SeqAt

section
variable {T : Tp} {d : Nat} {sc : Scope} {ρ : Loc} {X : XS} {Q : QS} {σ : Hp}
/-- raise X(arg), X an own class over ValueError -/
theorem StOk.raise {x txt : Str} {np cpos pos apos : Pos} {kk : Nat} {C : Addr} (TO : TopOk T) (hg : T.gv x = some (.glob x)) (hk : sc.names.lookup x = some .globalImplicit) (ho : scOk sc = true)
    (hn : PySem.W.nsIn T.K mainGlobals x = some (some (.ref C))) (hc : T.c x = some C) (hx : PySem.W.excIn T.K C [.type "ValueError", .type "Exception", .type "BaseException", .type "object"] "ValueError.__new__" = true)
    (hX : X x σ) (hT : T.hd = false := by rfl) : StOk T d sc ρ X (.Raise (some (.Call (.Name x np) [.Constant (.str txt) kk apos] [] cpos)) Option.none pos) Q σ := by
  intro env A fs F ι s hsc I
  obtain ⟨mg, O⟩ := TO.own x C _ _ hn hx
  obtain ⟨bm, N, nm, q, bs, hdct, sn, sub, ab, col, dd, k0, k1, k2, k3, k5, mN, hC, hN, hni, tl⟩ := O.obj
  have core : wpAny (model T.prog T.w) A (exec (.Raise (some (.Call (.Name x np) [.Constant (.str txt) kk apos] [] cpos)) Option.none pos) env) (PostS T A fs d env F Q ι s.heap)
      (fun v s' => ∃ e, v = .ref e ∧ (∃ vs, Heap.MadeExcOf s.heap s'.heap e (.ref C) vs) ∧ s'.gens = #[] ∧ s'.os = T.os) s := by
    have ns : noStar [Expr.Constant (.str txt) kk apos] = true := rfl
    refine wpAny_Raise_call_subT (C := C) (N := N) (nm := nm) (q := q) (bs := bs) (hdct := hdct) (sn := sn) (sub := sub) (ab := ab) (col := col) (dd := dd) (k0 := k0) (k1 := k1) (k2 := k2) (k3 := k3) (k5 := k5) PySem.F.excBase_ValueError (mN := mN) (tl.hasType (by decide +kernel)) (I.aok.hd hT) (by rw [starEach_eq ns]; rfl) hni ?_
    subst hsc
    obtain ⟨V, mg, mb, n1, n2, hm, r⟩ := TO.gl x _ hg
    have N1 := n1.keeps I.rep.base
    have N2 := n2.keeps I.rep.base
    have hV : V = .ref C := by
      unfold VRel at r
      unfold Tp.c at hc
      rw [r] at hc
      split at hc <;> simp_all
    have kb := I.rep.base
    have rest : wpAny (model T.prog T.w) A (evalArgs (.ref C) true (backTo cpos (starEach [Expr.Constant (.str txt) kk apos] env)) []) (fun a s₂ => a.kw = [] ∧ a.pos.length ≤ sizeLine ∧ s₂.heap.get? C = some (excClassObj nm q C N bs bm hdct sn sub ab col dd k0 k1 k2 k3 k5 "ValueError.__new__") ∧ s₂.heap.Ns N mN ∧ OwnTail s₂.heap [.type "ValueError", .type "Exception", .type "BaseException", .type "object"] bm ∧
        ∀ h' e, Heap.MadeExcOf s₂.heap h' e (.ref C) a.pos → (∃ e₁, Value.ref e = .ref e₁ ∧ (∃ vs, Heap.MadeExcOf s.heap h' e₁ (.ref C) vs) ∧ s₂.gens = #[] ∧ s₂.os = T.os))
        (fun v s' => ∃ e, v = .ref e ∧ (∃ vs, Heap.MadeExcOf s.heap s'.heap e (.ref C) vs) ∧ s'.gens = #[] ∧ s'.os = T.os) s := by
      rw [starEach_eq ns]
      refine evalArgs_list (spliced_cons (wpAny_Constant_str ?_))
      exact spliced_nil ⟨rfl, by simp [sizeLine_eq], kb _ _ hC, hN.keeps kb, tl.keeps kb, fun h' e m => ⟨e, rfl, ⟨_, m⟩, I.gens, I.os⟩⟩
    refine Name_function_global I.frm.kind hk ?_ (not_debug ho hk).1
    rw [← I.frm.glb] at N1
    rw [← I.frm.blt] at N2
    rcases hm with hm | ⟨hm, hb⟩
    · exact loadGlobal_global N1 hm ⟨hV, rest⟩
    · exact loadGlobal_builtin N1 hm N2 hb ⟨hV, rest⟩
  refine wpAny_mono (wpAny_dead core) (fun _ _ p => p.1) fun v s' p => ?_
  obtain ⟨⟨e, rfl, ⟨vs, m⟩, g, o⟩, dead⟩ := p
  obtain ⟨tt, he, htn, ht⟩ := m.there
  have hge : s.heap.objs.size ≤ e := Nat.not_lt.mp fun hlt => by
    have := (dead e ⟨hlt, m.new⟩).2
    rw [he] at this; cases this
  have hz : s.heap.objs.size ≤ s'.heap.objs.size := Nat.le_trans hge (Nat.le_of_lt (Heap.lt_size he))
  have e0 : Ext T F ι s.heap ι s'.heap := .of_keeps hz m.keeps
  have I₃ := I.grown hz m.keeps
  have hno : e ∉ own ι := fun q => absurd (I.rep.own_lt q) (Nat.not_lt.mpr hge)
  exact ⟨e, x, ρ, σ, ι, rfl, hX, ⟨C, _, _, _, ⟨hT, hc⟩, hge, he, rfl, rfl, by simp, rfl, rfl, .inl rfl⟩, hno, ⟨I₃.rep, I₃.aok, I₃.frm, I₃.top, g, o⟩, e0⟩
end
end Mine

set_option maxRecDepth 100000
namespace Mine
open PySem PySem.Calls PyProof.Rows PySem.SeqAt PySem.W PySem.Spec Builtin Builtin.ObjectAttr Builtin.Getset_descriptor

/-- what the fragment says of an own exception class -/
noncomputable def excK (K : Frag) (C : Addr) : Bool := (clsIn K C).isSome && findIn K (.ref C) "__getattribute__" == some (some (.builtin "BaseException.__getattribute__")) && findIn K (.ref C) "__getattr__" == some none &&
  findIn K (.ref C) "__class__" == some (some (.builtin "object.__class__")) && mroIn K C (.type "BaseException") == some true && mroIn K C (.type "object") == some true

section
variable {prog : Program} {w : World} {A : Around} {E : Value → Shared → Prop} {h : Heap} {g : Array GenState} {d : Drawn} {t : Nat} {os : OsState} {K : Frag} {a C : Addr} {o : Obj}
theorem excK.of (e : excK K C = true) : (clsIn K C).isSome = true ∧ findIn K (.ref C) "__getattribute__" = some (some (.builtin "BaseException.__getattribute__")) ∧ findIn K (.ref C) "__getattr__" = some none ∧
    findIn K (.ref C) "__class__" = some (some (.builtin "object.__class__")) ∧ mroIn K C (.type "BaseException") = some true ∧ mroIn K C (.type "object") = some true := by
  simp only [excK, Bool.and_eq_true, beq_iff_eq] at e
  obtain ⟨⟨⟨⟨⟨a, b⟩, c⟩, d⟩, e⟩, f⟩ := e
  exact ⟨a, b, c, d, e, f⟩
theorem looks_ty {M : Model} (hx : h.get? a = some o) (hc : o.cls = .ref C) : Looks M h (typeOf (.ref a)) (.ref C) := by
  intro A Q E s k q
  unfold typeOf
  refine wpAny_bind (wpAny_loadPart (k _ _ hx) (wpAny_pure ?_))
  rw [hc]; exact q
theorem exc_get {R : Result → Shared → Prop} {tp : Value} (X : K.In h) (hx : h.get? a = some o) (hc : o.cls = .ref C) (hm : mroIn K C (.type "object") = some true) (hq : R (.ok (.ret (.ref C))) ⟨h, g, d, t, os⟩) :
    codeAny (model prog w) A (.call (.builtin "getset_descriptor.__get__") ⟨[.builtin "object.__class__", .ref a, tp], []⟩) R ⟨h, g, d, t, os⟩ := by
  have L0 := looks_ty (M := model prog w) hx hc
  have L1 := looks_mroIn (M := model prog w) X hm
  refine codeAny_call_builtin KF.slot_gs.plain KF.entry_gs (KF.slot_gs.check _ _ _ _ _ _ _ _ KF.type_class (KF.args_gs _ _ _) ?_)
  unfold Builtin.«getset_descriptor.__get__» descrGet
  rw [dga_obj]
  refine wpAny_bind (wpAny_pure ?_)
  unfold descrGetter descrCheckInstance descrNameAndClass isInstance
  simp only [KF.owner_class]
  repeat lk
  refine ⟨Code.quiet_builtin _ (by decide +kernel), codeAny_builtin KF.entry_class ?_⟩
  unfold Builtin.«object.__class__» shownTypeOf
  repeat lk
  exact hq
theorem exc_check {M : Model} {nameV : Value} {Q : Unit → Shared → Prop} (X : K.In h) (e : excK K C = true) (hx : h.get? a = some o) (hc : o.cls = .ref C) (hq : Q () ⟨h, g, d, t, os⟩) :
    wpAny M A (checkBuiltinCall "BaseException.__getattribute__" ⟨[.ref a, nameV], []⟩) Q E ⟨h, g, d, t, os⟩ := by
  have hk : builtinKind "BaseException.__getattribute__" = some .slot := by decide +kernel
  have hsplit : splitId "BaseException.__getattribute__" = some ("BaseException", "__getattribute__") := by decide +kernel
  have L0 := looks_ty (M := M) hx hc
  have L1 := looks_mroIn (M := M) X (excK.of e).2.2.2.2.1
  have ha := F.args_bexc_ga (.ref a) nameV
  simp only [checkBuiltinCall, hk, hsplit]
  refine wpAny_bind ?_
  unfold isInstance
  refine wpAny_bind (L0.at (L1.at ?_))
  repeat (first | assumption | wp_step)
theorem exc_entry {tk : Tok} {Q : Fin → Shared → Prop} (X : K.In h) (e : excK K C = true) (hx : h.get? a = some o) (hc : o.cls = .ref C) (hq : Q (.done (.ret (.ref C))) ⟨h, g, d, t, os⟩) :
    wpAny (model prog w) A (Builtin.«object.__getattribute__» ⟨[.ref a, .str "__class__" tk], []⟩) Q E ⟨h, g, d, t, os⟩ := by
  have hT5 : (⟨h, g, d, t, os⟩ : Shared).TypeIs (.builtin "object.__class__") "getset_descriptor" := F.typeOf_object_class
  have f5 := F.typeOf_object_class
  have f6 := F.slot_gs_get.lookup
  have f7 := F.slot_gs_set.lookup
  have L2 := looks_findIn (M := model prog w) X (excK.of e).2.2.2.1
  repeat (any_goals (first | assumption | (with_reducible refine wpAny_loadPart_at hx ?_; rw [hc]) | with_reducible refine L2.at ?_ | wp_step))
  refine exc_get X hx hc (excK.of e).2.2.2.2.2 ?_
  repeat (any_goals (first | assumption | wp_step))
theorem exc_call {tk : Tok} {R : Result → Shared → Prop} (X : K.In h) (e : excK K C = true) (hx : h.get? a = some o) (hc : o.cls = .ref C) (hq : R (.ok (.ret (.ref C))) ⟨h, g, d, t, os⟩) :
    codeAny (model prog w) A (.call (.builtin "BaseException.__getattribute__") ⟨[.ref a, .str "__class__" tk], []⟩) R ⟨h, g, d, t, os⟩ :=
  codeAny_call_builtin F.attrBase_ValueError.ga.plain F.entry_bexc_ga (exc_check X e hx hc (exc_entry X e hx hc hq))
theorem exc_by {tk : Tok} {Q : Value → Shared → Prop} (X : K.In h) (e : excK K C = true) (hx : h.get? a = some o) (hc : o.cls = .ref C) (hq : Q (.ref C) ⟨h, g, d, t, os⟩) :
    wpAny (model prog w) A (getAttrBy (.ref a) (.str "__class__" tk) false) Q E ⟨h, g, d, t, os⟩ := by
  have f3 := F.attrBase_ValueError.ga.bind (.ref a)
  have hx2 : (Value.builtin "BaseException.__getattribute__" == Value.builtin "object.__getattribute__") = false := by decide +kernel
  have hx1 : (onTheHeap (Value.ref C) && Value.builtin "BaseException.__getattribute__" == Value.builtin "object.__getattribute__") = false := by rw [hx2]; rfl
  have L1 := looks_findIn (M := model prog w) X (excK.of e).2.1
  have L2 := looks_findIn (M := model prog w) X (excK.of e).2.2.1
  repeat (any_goals (first | assumption | (with_reducible refine wpAny_loadPart_at hx ?_; rw [hc]) | with_reducible refine L1.at ?_ | with_reducible refine L2.at ?_ | wp_step))
  refine exc_call X e hx hc ?_
  repeat (any_goals (first | assumption | wp_step))
theorem exc_attr {Q : Option Value → Shared → Prop} (X : K.In h) (e : excK K C = true) (hx : h.get? a = some o) (hc : o.cls = .ref C) (hq : Q (some (.ref C)) ⟨h, g, d, t + 1, os⟩) :
    wpAny (model prog w) A (getAttr? (.ref a) "__class__") Q E ⟨h, g, d, t, os⟩ := by
  unfold getAttr? getAttrBy?
  repeat (any_goals (first | assumption | with_reducible apply exc_by X e hx hc | wp_step))
theorem exc_kit (e : excK K C = true) : KitX K (.ref a) (.ref C) (fun h => ∃ o, h.get? a = some o ∧ o.cls = .ref C) where
  ty := fun _ _ _ p => let ⟨_, hx, hc⟩ := p; looks_ty hx hc
  it := fun _ _ X _ => by
    have hcD := (excK.of e).1
    unfold clsIn at hcD
    split at hcD
    · rename_i c' d' cd' sl' ho
      intro A' Q' E' s' k q
      unfold isType loadHead
      exact wpAny_bind (wpAny_loadPart (k _ _ (X _ _ ho)) (wpAny_pure q))
    · cases hcD
  ne := fun h tp dd its n sl X htp => by
    have hcD := (excK.of e).1
    refine Bool.eq_false_iff.mpr fun q => ?_
    have e : C = tp := Value.ref.inj (beq_iff_eq.mp q)
    subst e
    unfold clsIn at hcD
    split at hcD
    · rename_i c' d' cd' sl' ho
      have z := (X _ _ ho).symm.trans htp
      cases z
    · cases hcD
  ca := fun {_ _ _ _ _ s} X p k => by
    obtain ⟨h, g, d, t, os⟩ := s
    obtain ⟨o, hx, hc⟩ := p
    exact exc_attr X e hx hc k
end

section
variable {T : Tp} {d : Nat} {X : QX} {Q : QE} {σ : Hp}
/-- isinstance of an own exception with an own class -/
theorem CallOk.isiX {c x : Str} {C D : Addr} {b : Bool} (TO : TopOk T) (hc : T.c c = some C) (hx : T.g x = some (.ref D)) (ek : excK T.K C = true) (e : kitOne T.K (.ref C) (.ref D) = some b) (q : Q (.bool b) σ) :
    CallOk T d X (.bi "isinstance") [.exc c, .glob x] Q σ := by
  intro A fs ι s fv xs S rf rxs
  cases rf.bi_inv
  obtain ⟨y, z, rfl, r, r2⟩ := rxs.two
  unfold VRel at r r2
  obtain ⟨a, o, C', rfl, ho, hc', ho'⟩ := r
  rw [hc] at hc'; cases hc'
  rw [hx] at r2; cases r2
  exact kia_one (exc_kit ek) (TO.X0.keeps S.rep.base) ⟨o, ho, ho'⟩ e (by intro q; cases q) fun tk => S.post q .bool_mk tk
/-- and with a built-in one -/
theorem CallOk.isiXT {c : Str} {C : Addr} {ty : String} {b : Bool} (TO : TopOk T) (hc : T.c c = some C) (ek : excK T.K C = true) (e : kitOne T.K (.ref C) (.type ty) = some b) (q : Q (.bool b) σ) :
    CallOk T d X (.bi "isinstance") [.exc c, .type ty] Q σ := by
  intro A fs ι s fv xs S rf rxs
  cases rf.bi_inv
  obtain ⟨y, z, rfl, r, r2⟩ := rxs.two
  cases r2.type_inv
  unfold VRel at r
  obtain ⟨a, o, C', rfl, ho, hc', ho'⟩ := r
  rw [hc] at hc'; cases hc'
  exact kia_one (exc_kit ek) (TO.X0.keeps S.rep.base) ⟨o, ho, ho'⟩ e (by intro q; cases q) fun tk => S.post q .bool_mk tk
end
end Mine

set_option maxRecDepth 100000
namespace Mine
open PySem PySem.Calls PyProof.Rows PySem.SeqAt PySem.W

/-- the same top, in a handler or not -/
noncomputable def Tp.at (T : Tp) (b : Bool) : Tp := { T with hd := b }

section
variable {T : Tp} {b : Bool} {ι ι' : Inj} {h h' : Heap}
theorem VRel.at_eq : VRel (T.at b) = VRel T := by kernel_rfl
theorem ORel.at_eq : ORel (T.at b) = ORel T := by kernel_rfl
theorem ORelV.at_eq : ORelV (T.at b) = ORelV T := by kernel_rfl
theorem VRel.at {v : V} {x : Value} (e : VRel T ι h v x) : VRel (T.at b) ι h v x := by rw [VRel.at_eq]; exact e
theorem ORelV.at {v : Option V} {x : Option Value} (e : ORelV T ι h v x) : ORelV (T.at b) ι h v x := by rw [ORelV.at_eq]; exact e
theorem ORel.at {o : MObj} {p : Addr × Addr} (e : ORel T ι h o p) : ORel (T.at b) ι h o p := by rw [ORel.at_eq]; exact e
theorem Rep.at {σ : Hp} (r : Rep T ι σ h) : Rep (T.at b) ι σ h := ⟨r.len, r.big, r.size, r.base, fun l o p e q => (r.objs l o p e q).at, r.fresh, r.apart⟩
theorem Ext.at {F : List Addr} (x : Ext T F ι h ι' h') : Ext (T.at b) F ι h ι' h' := ⟨x.pre, x.size, x.cls, x.frz, x.keep, x.frm⟩
theorem Frm.at {env : Env} {F : List Addr} {ρ : Loc} (x : Frm T env F ρ ι h) : Frm (T.at b) env F ρ ι h :=
  ⟨x.kind, x.glb, x.blt, (by obtain ⟨c, m, a, b, r⟩ := x.ns; exact ⟨c, m, a, b, fun z hz => (r z hz).at⟩), fun z hz => (by obtain ⟨c, o, v, a1, a2, a3, a4, a5, a6⟩ := x.cells z hz; exact ⟨c, o, v, a1, a2, a3, a4, a5.at, a6⟩), x.inj, x.loc, x.cin, x.apart, x.there⟩
theorem FlRel.at_eq : FlRel (T.at b) = FlRel T := by kernel_rfl
theorem FlRel.at {fl : Fl} {f : Flow} (e : FlRel T ι h fl f) : FlRel (T.at b) ι h fl f := by rw [FlRel.at_eq]; exact e
theorem TopOk.at (TO : TopOk T) : TopOk (T.at b) := ⟨TO.X0, TO.lim, TO.own, fun x v e => by obtain ⟨V, mg, mb, a1, a2, a3, a4⟩ := TO.gl x v e; exact ⟨V, mg, mb, a1, a2, a3, a4.at⟩⟩
end

/-- a name goes -/
theorem nsDelC {M : Model} {A : Around} {E : Value → Shared → Prop} {s : Shared} {a : Addr} {c : String} {m} {name : Str} {Q : Bool → Shared → Prop} (hn : NsC s.heap a c m) (hs : (m name).isSome = true)
    (hQ : ∀ h', NsC h' a c (fun x => if x = name then none else m x) → Heap.SameBut a s.heap h' → Q true { s with heap := h' }) : wpAny M A (nsDel a name) Q E s := by
  obtain ⟨o, es, ep, ho, hc, hdi, hd, hk, hu, hm⟩ := hn
  have hany : es.any (·.refKey) = false := by
    rw [Array.any_eq_false']; intro e he; obtain ⟨n, t, h⟩ := hk e he; simp [DictEntry.refKey, h]
  have hsome : (m name).isSome = es.any (·.key.isStr name) := by
    rw [← hm name]; simp only [nsFind, findBy, Option.isSome_map]
    rw [Bool.eq_iff_iff]; simp only [Array.find?_isSome, Array.any_eq_true]
    constructor
    · rintro ⟨x, hx, hp⟩; obtain ⟨i, hi, rfl⟩ := Array.mem_iff_getElem.mp hx; exact ⟨i, hi, hp⟩
    · rintro ⟨i, hi, hp⟩; exact ⟨_, Array.getElem_mem hi, hp⟩
  have hhas : nsHas name o = pure true := by
    rw [nsHas_eq]; unfold nsHasByArray; rw [hd]
    show (if (es.any fun x => x.key.isStr name) = true then _ else _) = _
    rw [← hsome, hs]; rfl
  unfold nsDel
  refine wpAny_bind (wpAny_loadPart ho ?_)
  rw [hhas]
  refine wpAny_bind (wpAny_pure (wpAny_bind (wpAny_updatePart ho (wpAny_pure (hQ _ ?_ (Heap.SameBut.update ..))))))
  obtain ⟨cl, d, dt, sl⟩ := o
  subst hd
  cases hi : es.findIdx? (·.key.isStr name) with
  | some i =>
    refine ⟨_, _, ep + 1, Heap.get?_update_self _ ho (by simp only [Obj.dropName_eq, Obj.dropNameByArray, hi] <;> rfl), (by simp only [Obj.dropName_eq, Obj.dropNameByArray, hi]; exact hc), (by simp only [Obj.dropName_eq, Obj.dropNameByArray, hi]; exact hdi), (by simp only [Obj.dropName_eq, Obj.dropNameByArray, hi] <;> rfl), hk.erase i, hu.erase i, fun x => ?_⟩
    rw [nsFind_erase hu hi, hm]
  | none =>
    exfalso
    rw [hs] at hsome
    rw [Array.findIdx?_eq_none_iff] at hi
    obtain ⟨i, hl, hp⟩ := Array.any_eq_true.mp hsome.symm
    rw [hi _ (Array.getElem_mem hl)] at hp; cases hp

section
variable {T : Tp} {A : Around} {fs : List Env} {d : Nat} {env : Env} {F : List Addr} {ι : Inj} {s : Shared} {ρ : Loc} {σ : Hp}
theorem del_at {M : Model} {A' : Around} {E : Value → Shared → Prop} {x : Str} {v : V} {Q : Bool → Shared → Prop} (I : Inv T A fs d env F ρ ι σ s) (hl : env.kindOf x = some .local) (hv : ρ x = some v)
    (k : ∀ h', Inv T A fs d env F (upd ρ x none) ι σ { s with heap := h' } → Ext T F ι s.heap ι h' → Q true { s with heap := h' }) : wpAny M A' (nsDel env.locals x) Q E s := by
  have H := I.frm
  obtain ⟨c, m, hc, hn, hr⟩ := H.ns
  have hms : (m x).isSome = true := by
    have := hr x hl
    rw [hv] at this
    cases hm : m x with
    | none => rw [hm] at this; exact this.elim
    | some _ => rfl
  refine nsDelC hn hms fun h' hn' hs => ?_
  have hn0 := hn
  obtain ⟨o, es, ep, ho, ocl, _, od, _⟩ := hn0
  have hn1 := hn'
  obtain ⟨o', es', ep', ho', ocl', _, od', _⟩ := hn1
  obtain ⟨o₁, g1, g2, g3⟩ := H.there _ H.loc
  rw [ho] at g1; cases g1
  have e : Ext T F ι s.heap ι h' := .of_sameBut hs ho ho' (ocl'.trans ocl.symm) g2 (.inr H.loc)
  have ap := H.apart _ H.loc
  have R' : Rep T ι σ h' := I.rep.keeps e.mono e.size (fun b z hz => (hs.2 b fun q => absurd (Heap.lt_size hz) (Nat.not_lt.mpr (q ▸ ap.2))).trans (I.rep.base b z hz)) fun b hb z hz => (hs.2 b fun q => ap.1 (q ▸ hb)).trans hz
  have ds : DStay s.heap h' := fun b z es ep hz hzd => by
    by_cases q : b = env.locals
    · subst q; exact ⟨o', es', ep', ho', od'⟩
    · exact ⟨z, es, ep, (hs.2 b q).trans hz, hzd⟩
  have F' : Frm T env F (upd ρ x none) ι h' := by
    refine ⟨H.kind, H.glb, H.blt, ⟨c, _, hc, hn', fun z hz => ?_⟩, fun z hz => ?_, H.inj, H.loc, H.cin, H.apart, fun a ha => ?_⟩
    · unfold upd
      by_cases q : z = x
      · simp only [if_pos q]; trivial
      · simp only [if_neg q]; exact (hr z hz).mono e.mono
    · obtain ⟨cc, oc, vc, e1, e2, e3, e4, e5, e6⟩ := H.cells z hz
      have ne : cc ≠ env.locals := fun q => by
        rw [q, ho] at e2; cases e2; rw [ocl] at e3
        rcases hc.1 with rfl | rfl <;> simp at e3
      have : z ≠ x := fun q => by subst q; rw [hl] at hz; rcases hz with hz | hz <;> cases hz
      refine ⟨cc, oc, vc, e1, (hs.2 cc ne).trans e2, e3, e4, ?_, e6⟩
      unfold upd; simp only [if_neg this]; exact e5.mono e.mono
    · obtain ⟨oa, g1, g2, g3⟩ := H.there a ha
      by_cases q : a = env.locals
      · subst q
        rw [ho] at g1; cases g1
        exact ⟨_, ho', by simpa [frozen, (ocl'.trans ocl.symm)] using g2, (itr_eq (ocl'.trans ocl.symm)).trans g3⟩
      · exact ⟨oa, (hs.2 a q).trans g1, g2, g3⟩
  exact k h' (I.stored (t := s.toks) R' F' e ds) e
theorem goes_ok {M : Model} {A' : Around} {E : Value → Shared → Prop} {n : Str} {pos : Pos} {Q : Unit → Shared → Prop} (I : Inv T A fs d env F ρ ι σ s) (hl : env.kindOf n = some .local)
    (k : ∀ h' t ρ', Inv T A fs d env F ρ' ι σ { s with heap := h', toks := t } → Ext T F ι s.heap ι h' → Q () { s with heap := h', toks := t }) :
    wpAny M A' (do bindName env n .none; unbindBehindTheSuite env n pos) Q E s := by
  refine wpAny_bind (wpAny_bindName (storeI (v := .none) I (by unfold isStore; rw [show env.scope.names.lookup n = _ from hl]) .none_mk fun h₁ t₁ I₁ e₁ => ?_))
  unfold unbindBehindTheSuite
  refine wpAny_onRaise ?_
  unfold unbindName
  refine wpAny_bind (wpAny_point (wpAny_bind ?_))
  unfold deleteName
  simp only [hl]
  rw [if_neg (by rw [I.frm.kind]; simp)]
  refine wpAny_bind (del_at (v := .none) I₁ hl (by simp [upd]) fun h₂ I₂ e₂ => ?_)
  simp only [Bool.not_true, Bool.false_eq_true, if_false]
  exact wpAny_pure (wpAny_point (k h₂ t₁ _ I₂ (e₁.trans e₂)))
end
end Mine

set_option maxRecDepth 100000
namespace Mine
open PySem PySem.Calls PyProof.Rows PySem.SeqAt PySem.W

/-- what the fragment says of a class D behind except, met by an exception of the class C -/
noncomputable def matchK (K : Frag) (C D : Addr) (b : Bool) : Bool := (clsIn K D).isSome && typeIn K (.ref D) == some (.type "type") && mroIn K D (.type "BaseException") == some true && mroIn K C (.ref D) == some b
theorem exc_matches {M : Model} {A : Around} {E : Value → Shared → Prop} {h : Heap} {g : Array GenState} {dr : Drawn} {t : Nat} {os : OsState} {K : Frag} {e C D : Addr} {o : Obj} {b : Bool} {Q : Bool → Shared → Prop} (X : K.In h) (k : matchK K C D b = true) (he : h.get? e = some o) (hc : o.cls = .ref C)
    (hq : Q b ⟨h, g, dr, t, os⟩) : wpAny M A (excMatches (.ref e) (.ref D)) Q E ⟨h, g, dr, t, os⟩ := by
  simp only [matchK, Bool.and_eq_true, beq_iff_eq] at k
  obtain ⟨⟨⟨k1, k2⟩, k3⟩, k4⟩ := k
  have L0 := looks_ty (M := M) he hc
  have L1 := looks_typeIn (M := M) X k2
  have L2 := looks_mroIn (M := M) X k3
  have L3 := looks_mroIn (M := M) X k4
  have L4 : Looks M h (isType (.ref D)) true := by
    unfold clsIn at k1
    split at k1
    · rename_i c' d' cd' sl' ho
      intro A' Q' E' s' k q
      unfold isType loadHead
      exact wpAny_bind (wpAny_loadPart (k _ _ (X _ _ ho)) (wpAny_pure q))
    · cases k1
  unfold excMatches
  refine wpAny_bind ?_
  unfold isInstance
  refine wpAny_bind (L1.at ?_)
  rw [tc_notTuple]
  refine wpAny_pure ?_
  rw [if_neg (by decide)]
  dsimp only
  refine wpAny_bind (wpAny_pure ?_)
  simp only [List.forIn_cons, List.forIn_nil]
  refine wpAny_bind (wpAny_bind (wpAny_bind ?_))
  unfold isExcClass
  refine wpAny_bind (L4.at ?_)
  rw [if_pos rfl]
  refine L2.at ?_
  simp only [Bool.not_true, Bool.false_eq_true, if_false]
  refine wpAny_pure (wpAny_pure (wpAny_bind (L0.at ?_)))
  refine wpAny_bind (wpAny_bind (wpAny_bind (L3.at ?_)))
  cases b
  · exact wpAny_pure (wpAny_pure (wpAny_pure hq))
  · exact wpAny_pure (wpAny_pure (wpAny_pure hq))

/-- an exception of the class c, noted, comes to these clauses -/
noncomputable def HandOk (T : Tp) (d : Nat) (sc : Scope) (X : XS) (hs : List ExceptHandler) (c : Str) (Q : QS) (σ : Hp) : Prop :=
  ∀ env A fs F ρ ι s ea ι₀ h₀, env.scope = sc → Inv T A fs d env F ρ ι σ s → FlyT T h₀.objs.size ea c s.heap → ea ∉ own ι → T.b0.objs.size ≤ h₀.objs.size → Ext T F ι₀ h₀ ι s.heap →
    wpAny (model T.prog T.w) A (handleBy (.ref ea) env hs) (PostS T A fs d env F Q ι₀ h₀) (PostSX T A fs d env F X ι₀ h₀) s

section
variable {T : Tp} {d : Nat} {sc : Scope} {ρ : Loc} {X : XS} {Q : QS} {σ : Hp}
theorem StOk.try {body : List Stmt} {h₀ : ExceptHandler} {hs : List ExceptHandler} {pos : Pos} (h : ExOk T d sc ρ (fun c σ' => HandOk T d sc X (h₀ :: hs) c Q σ') body Q σ) : StOk T d sc ρ X (.Try body (h₀ :: hs) [] [] pos) Q σ := by
  intro env A fs F ι s hsc I
  have hb := I.rep.size
  refine wpAny_Try_except (wpAny_mono (h env A fs F ι s hsc I) (fun f s₁ p => ?_) fun x s₁ p => ?_)
  · cases f with
    | next => exact wpAny_execs_nil p
    | _ => exact p
  · refine noted_ok hb p fun ea c ρ' σ' ι' h' hx hX f n I' e' => ?_
    subst hx
    refine flight_ok (S := frs fs) f fun h'' t f' => ?_
    obtain ⟨I₂, e₂⟩ := PostSX.touched (X := fun c σ' => HandOk T d sc X (h₀ :: hs) c Q σ') hX n I' e' f.fly hb t
    exact hX env A fs F ρ' ι' _ ea ι s.heap hsc I₂ f' n hb e₂

theorem hname_at {M : Model} {A' : Around} {E : Value → Shared → Prop} {x : Str} {np : Pos} {D : Addr} {A : Around} {fs : List Env} {env : Env} {F : List Addr} {ι : Inj} {s : Shared} {R : Value → Shared → Prop} (I : Inv T A fs d env F ρ ι σ s) (TO : TopOk T)
    (hg : T.gv x = some (.glob x)) (hk : env.scope.names.lookup x = some .globalImplicit) (ho : scOk env.scope = true) (hc : T.c x = some D) (q : R (.ref D) s) : wpAny M A' (eval (.Name x np) env) R E s := by
  obtain ⟨V, mg, mb, n1, n2, hm, r⟩ := TO.gl x _ hg
  have N1 := n1.keeps I.rep.base
  have N2 := n2.keeps I.rep.base
  have hV : V = .ref D := by
    unfold VRel at r
    unfold Tp.c at hc
    rw [r] at hc
    split at hc <;> simp_all
  subst hV
  refine Name_function_global I.frm.kind hk ?_ (not_debug ho hk).1
  rw [← I.frm.glb] at N1
  rw [← I.frm.blt] at N2
  rcases hm with hm | ⟨hm, hb⟩
  · exact loadGlobal_global N1 hm q
  · exact loadGlobal_builtin N1 hm N2 hb q

theorem HandOk.miss {c x : Str} {np pos : Pos} {n : Option Str} {body : List Stmt} {rest : List ExceptHandler} {C D : Addr} (TO : TopOk T) (hg : T.gv x = some (.glob x)) (hk : sc.names.lookup x = some .globalImplicit) (ho : scOk sc = true) (hc : T.c c = some C) (hd : T.c x = some D)
    (hm : matchK T.K C D false = true) (h : HandOk T d sc X rest c Q σ) : HandOk T d sc X (.ExceptHandler (some (.Name x np)) n body pos :: rest) c Q σ := by
  intro env A fs F ρ ι s ea ι₀ h₀ hsc I f hn hb e
  subst hsc
  refine wpAny_handleBy_cons (codeAny_handlers_test (hname_at I TO hg hk ho hd ?_)) (by intro q; cases q)
  have f' := f
  obtain ⟨C', oe, vs, v, f1, f2, f3, f4, f5, f6, f7, f8, f9⟩ := f'
  have e1 := f1.2
  rw [hc] at e1; cases e1
  obtain ⟨hh, g, dr, t, os⟩ := s
  refine exc_matches (TO.X0.keeps I.rep.base) hm f3 f4 ?_
  exact h env A fs F ρ ι _ ea ι₀ h₀ rfl I f hn hb e

theorem HandOk.hit {c x n : Str} {np pos : Pos} {b₀ : Stmt} {body : List Stmt} {rest : List ExceptHandler} {C D : Addr} (TO : TopOk T) (hg : T.gv x = some (.glob x)) (hk : sc.names.lookup x = some .globalImplicit) (ho : scOk sc = true) (hc : T.c c = some C) (hd : T.c x = some D)
    (hm : matchK T.K C D true = true) (hl : sc.names.lookup n = some .local) (h : ∀ ρ, ExOk (T.at true) d sc (upd ρ n (some (.exc c))) (fun _ _ => False) (b₀ :: body) (fun fl _ σ' => ∀ ρ', Q fl ρ' σ') σ) :
    HandOk T d sc X (.ExceptHandler (some (.Name x np)) (some n) (b₀ :: body) pos :: rest) c Q σ := by
  intro env A fs F ρ ι s ea ι₀ h₀ hsc I f hn hb e
  subst hsc
  refine wpAny_handleBy_cons (codeAny_handlers_test (hname_at I TO hg hk ho hd ?_)) (by intro q; cases q)
  have f' := f
  obtain ⟨C', oe, vs, v, f1, f2, f3, f4, f5, f6, f7, f8, f9⟩ := f'
  have e1 := f1.2
  rw [hc] at e1; cases e1
  obtain ⟨hh, g, dr, t, os⟩ := s
  refine exc_matches (TO.X0.keeps I.rep.base) hm f3 f4 ?_
  refine codeAny_handlers_suite_as ?_
  refine flight_ok (S := frs fs) f fun h'' tt f' => ?_
  have hle : h₀.objs.size ≤ ea := f2
  have I₂ := I.touch tt f.fly hn hb hle
  have e₂ : Ext T F ι₀ h₀ ι h'' := e.touch tt (fun a ha => let ⟨_, _, o, _, _, g, gc, _⟩ := I.aok.mem ha; ⟨o, g, gc⟩) hle
  obtain ⟨C', oe, vs, v, g1, g2, g3, g4, g5, g6, g7, g8, g9⟩ := f'
  have e1 := g1.2
  rw [hc] at e1; cases e1
  have hx : HandAt (A.mark (some (.ref ea))) ι h'' := fun v q => by
    have : v = .ref ea := (Option.some.inj q).symm
    subst this
    exact ⟨ea, oe, C, vs, rfl, g3, g4, g5, g7, hn⟩
  have I₃ : Inv (T.at true) (A.mark (some (.ref ea))) fs d env F ρ ι σ ⟨h'', g, dr, t, os⟩ := ⟨I₂.rep.at, ⟨I₂.aok.frames, I₂.aok.funs, I₂.aok.depth, I₂.aok.units, fun q => (by cases q), hx⟩, I₂.frm.at, I₂.top, I₂.gens, I₂.os⟩
  refine storeI (v := .exc c) I₃ (by unfold isStore; rw [hl]) ?_ fun h₃ t₃ I₄ e₃ => ?_
  · unfold VRel; exact ⟨ea, oe, C, rfl, g3, hc, g4⟩
  refine wpAny_mono (h ρ env _ fs F ι _ rfl I₄) (fun fl s₅ p => ?_) fun z s₅ p => ?_
  · obtain ⟨fl', ρ', σ', ι', q, r, I₅, e₅⟩ := p
    refine goes_ok (A := A.mark (some (.ref ea))) I₅ hl fun h₆ t₆ ρ₆ I₆ e₆ => ?_
    have hA : A.handled = none := I.aok.hd f1.1
    have eb : T.at true = T.at true := rfl
    have back : ∀ {P : Tp → Prop}, P ((T.at true).at T.hd) → P T := fun h => h
    have IT : Inv T A fs d env F ρ₆ ι' σ' { s₅ with heap := h₆, toks := t₆ } :=
      ⟨I₆.rep.at (b := T.hd), ⟨I₆.aok.frames, I₆.aok.funs, I₆.aok.depth, I₆.aok.units, fun _ => hA, .none hA⟩, I₆.frm.at (b := T.hd), I₆.top, I₆.gens, I₆.os⟩
    exact ⟨fl', ρ₆, σ', ι', q ρ₆, (show FlRel ((T.at true).at T.hd) ι' h₆ fl' fl from (by
      have r' : FlRel (T.at true) ι' h₆ fl' fl := by
        cases fl' <;> cases fl <;> first | exact r.elim | trivial | exact VRel.mono e₆.mono r
      exact r'.at)), IT, e₂.trans ((e₃.at (b := T.hd)).trans ((e₅.at (b := T.hd)).trans (e₆.at (b := T.hd))))⟩
  · obtain ⟨_, _, _, _, _, _, q, _⟩ := p
    exact q.elim
end
end Mine

namespace Mine
open PySem PySem.Calls PyProof.Rows PySem.SeqAt

/-! What is left to show of a text, computed from the text: vE, vT, vB see through names, constants, operators, displays, calls; what they can't see through stays as the judgement that it is. -/

/-- the ways part -/
noncomputable def Br (b : Bool) (P R : Prop) : Prop := @Bool.rec (fun _ => Prop) R P b
theorem Br.mk {b : Bool} {P R : Prop} (h1 : b = true → P) (h2 : b = false → R) : Br b P R := by
  cases b
  · exact h2 rfl
  · exact h1 rfl
theorem Br.t {b : Bool} {P R : Prop} (h : b = true) (p : P) : Br b P R := by subst h; exact p
theorem Br.f {b : Bool} {P R : Prop} (h : b = false) (p : R) : Br b P R := by subst h; exact p
/-- the judgements, closed: the unifier does not look into them -/
inductive Cal (T : Tp) (d : Nat) (X : QX) (f : V) (args : List V) (Q : QE) (σ : Hp) : Prop where
  | mk (h : CallOk T d X f args Q σ) : Cal T d X f args Q σ
inductive Evx (T : Tp) (d : Nat) (sc : Scope) (ρ : Loc) (X : QX) (e : Expr) (Q : QE) (σ : Hp) : Prop where
  | mk (h : EvOk T d sc ρ X e Q σ) : Evx T d sc ρ X e Q σ
inductive Tsx (T : Tp) (d : Nat) (sc : Scope) (ρ : Loc) (X : QX) (e : Expr) (B : Bool → Hp → Prop) (σ : Hp) : Prop where
  | mk (h : TsOk T d sc ρ X e B σ) : Tsx T d sc ρ X e B σ
inductive Stx (T : Tp) (d : Nat) (sc : Scope) (ρ : Loc) (X : XS) (st : Stmt) (Q : QS) (σ : Hp) : Prop where
  | mk (h : StOk T d sc ρ X st Q σ) : Stx T d sc ρ X st Q σ
inductive Itm (o i : V) (Q : QE) (σ : Hp) : Prop where
  | mk (h : itemVC o i Q σ) : Itm o i Q σ
inductive Bin (op : Operator) (a b : V) (Q : QE) (σ : Hp) : Prop where
  | mk (h : binVC op a b Q σ) : Bin op a b Q σ
inductive Cmp (op : CmpOp) (a b : V) (Q : QE) (σ : Hp) : Prop where
  | mk (h : cmpVC op a b Q σ) : Cmp op a b Q σ
theorem Cal.out {T : Tp} {d : Nat} {X : QX} {f : V} {args : List V} {Q : QE} {σ : Hp} (h : Cal T d X f args Q σ) : CallOk T d X f args Q σ := by cases h; assumption
theorem Evx.out {T : Tp} {d : Nat} {sc : Scope} {ρ : Loc} {X : QX} {e : Expr} {Q : QE} {σ : Hp} (h : Evx T d sc ρ X e Q σ) : EvOk T d sc ρ X e Q σ := by cases h; assumption
theorem Tsx.out {T : Tp} {d : Nat} {sc : Scope} {ρ : Loc} {X : QX} {e : Expr} {B : Bool → Hp → Prop} {σ : Hp} (h : Tsx T d sc ρ X e B σ) : TsOk T d sc ρ X e B σ := by cases h; assumption
theorem Stx.out {T : Tp} {d : Nat} {sc : Scope} {ρ : Loc} {X : XS} {st : Stmt} {Q : QS} {σ : Hp} (h : Stx T d sc ρ X st Q σ) : StOk T d sc ρ X st Q σ := by cases h; assumption

/-- P, where b is so -/
noncomputable def gd (b : Bool) (P : Prop) : Prop := @Bool.rec (fun _ => Prop) False P b
theorem gd.out {b : Bool} {P : Prop} (h : gd b P) : b = true ∧ P := by
  cases b
  · exact h.elim
  · exact ⟨rfl, h⟩

noncomputable def short : List V → Nat → Bool
  | [], _ => true
  | _ :: r, n + 1 => short r n
  | _ :: _, 0 => false
theorem short_le : ∀ {vs : List V} {n : Nat}, short vs n = true → vs.length ≤ n
  | [], _, _ => Nat.zero_le _
  | _ :: _, _ + 1, h => Nat.succ_le_succ (short_le (by simpa only [short] using h))

/-- the truth of a value -/
noncomputable def tvc (v : V) (σ : Hp) (K : Bool → Prop) : Prop := match truthV v σ with | some b => K b | none => False
theorem tvc.of {v : V} {σ : Hp} {K : Bool → Prop} {b : Bool} (h : truthV v σ = some b) (k : K b) : tvc v σ K := by unfold tvc; rw [h]; exact k
theorem tvc.out {v : V} {σ : Hp} {K : Bool → Prop} (h : tvc v σ K) : ∃ b, truthV v σ = some b ∧ K b := by
  unfold tvc at h
  split at h
  · exact ⟨_, by assumption, h⟩
  · exact h.elim
noncomputable def bvc (v : V) (K : Bool → Prop) : Prop := match v with | .bool b => K b | _ => False
theorem bvc.out {v : V} {K : Bool → Prop} (h : bvc v K) : ∃ b, v = .bool b ∧ K b := by
  cases v <;> first | exact h.elim | exact ⟨_, rfl, h⟩

/-- the operators -/
noncomputable def binG (op : Operator) (a b : V) (Q : QE) (σ : Hp) : Prop := match a, b with
  | .int x, .int y => (match op with
    | .Add => Q (.int (x + y)) σ
    | .Sub => Q (.int (x - y)) σ
    | .FloorDiv => gd (y != 0 && decide (y.natAbs < 1073741824)) (Q (.int (x.fdiv y)) σ)
    | .Mod => gd (y != 0) (Q (.int (x.fmod y)) σ)
    | op => Bin op a b Q σ)
  | a, b => Bin op a b Q σ
theorem binG.out {op : Operator} {a b : V} {Q : QE} {σ : Hp} (h : binG op a b Q σ) : binVC op a b Q σ := by
  have key : Bin op a b Q σ → binVC op a b Q σ := fun ⟨h⟩ => h
  cases a <;> first | exact key h | skip
  cases b <;> first | exact key h | skip
  cases op <;> first | exact key h | exact h | skip
  · obtain ⟨h1, h2⟩ := gd.out h
    exact ⟨by simpa using h1, h2⟩
  · obtain ⟨h1, h2⟩ := gd.out h
    simp only [Bool.and_eq_true, bne_iff_ne, decide_eq_true_eq] at h1
    exact ⟨h1.1, h1.2, h2⟩
/-- the comparisons -/
noncomputable def cmpG (op : CmpOp) (a b : V) (Q : QE) (σ : Hp) : Prop := match a, b with
  | .int x, .int y => (match op with
    | .Lt => Q (.bool (decide (x < y))) σ
    | .LtE => Q (.bool (decide (x ≤ y))) σ
    | .Gt => Q (.bool (decide (y < x))) σ
    | .GtE => Q (.bool (decide (y ≤ x))) σ
    | .Eq => Q (.bool (x == y)) σ
    | .NotEq => Q (.bool (x != y)) σ
    | op => Cmp op a b Q σ)
  | .str x, .str y => (match op with
    | .Eq => Q (.bool (x == y)) σ
    | .NotEq => Q (.bool (x != y)) σ
    | op => Cmp op a b Q σ)
  | a, b => Cmp op a b Q σ
theorem cmpG.out {op : CmpOp} {a b : V} {Q : QE} {σ : Hp} (h : cmpG op a b Q σ) : cmpVC op a b Q σ := by
  have key : Cmp op a b Q σ → cmpVC op a b Q σ := fun ⟨h⟩ => h
  cases a <;> first | exact key h | skip
  all_goals cases b <;> first | exact key h | skip
  all_goals cases op <;> first | exact key h | exact h

/-- o[i] -/
noncomputable def pick (vs : List V) (k : Int) : Option V := match k with
  | .ofNat n => bif Nat.ble n 1000 then vs[n]? else none
  | .negSucc n => bif Nat.ble n 1000 then (seqIndex? (.negSucc n) vs.length).bind (vs[·]?) else none
theorem pick_out {vs : List V} {k : Int} {v : V} (h : pick vs k = some v) : ∃ j, seqIndex? k vs.length = some j ∧ vs[j]? = some v ∧ decide (-(2 ^ 63) ≤ k ∧ k < 2 ^ 63) = true := by
  unfold pick at h
  split at h
  · rename_i n
    cases hn : Nat.ble n 1000 <;> rw [hn] at h
    · cases h
    · have hl := (List.getElem?_eq_some_iff.mp h).1
      have := Nat.le_of_ble_eq_true hn
      refine ⟨n, ?_, h, decide_eq_true ?_⟩
      · unfold seqIndex?
        simp only [show ¬ ((Int.ofNat n : Int) < 0) by simp, if_false]
        rw [if_pos (by simp only [Bool.and_eq_true, decide_eq_true_eq]; clear h; simp only [Int.ofNat_eq_natCast]; omega)]
        simp
      · clear h; simp only [Int.ofNat_eq_natCast]; omega
  · rename_i n
    cases hn : Nat.ble n 1000 <;> rw [hn] at h
    · cases h
    · obtain ⟨j, h1, h2⟩ := Option.bind_eq_some_iff.mp h
      have := Nat.le_of_ble_eq_true hn
      exact ⟨j, h1, h2, decide_eq_true (by clear h h1 h2; omega)⟩
noncomputable def itemG (o i : V) (Q : QE) (σ : Hp) : Prop := match o, i with
  | .tup vs, .int k => (match pick vs k with | some v => Q v σ | none => False)
  | o, i => Itm o i Q σ
theorem itemG.out {o i : V} {Q : QE} {σ : Hp} (h : itemG o i Q σ) : itemVC o i Q σ := by
  have key : Itm o i Q σ → itemVC o i Q σ := fun ⟨h⟩ => h
  cases o <;> first | exact key h | skip
  cases i <;> first | exact key h | skip
  rename_i vs k
  have h : (match pick vs k with | some v => Q v σ | none => False) := h
  split at h
  · rename_i v hv
    obtain ⟨j, h1, h2, h3⟩ := pick_out hv
    exact i_tup h1 h2 h3 h
  · exact h.elim

theorem intsVC_mono {P P' : Int → Int → Prop} {a b : V} (h : intsVC P a b) (k : ∀ x y, P x y → P' x y) : intsVC P' a b := by
  obtain ⟨x, y, rfl, rfl, h⟩ := intsVC_inv h
  exact k _ _ h
theorem eqVC_mono {a b : V} {Q Q' : QE} {σ : Hp} (h : eqVC a b Q σ) (k : ∀ v σ, Q v σ → Q' v σ) : eqVC a b Q' σ := by
  unfold eqVC at h ⊢
  split at h
  · exact k _ _ h
  · exact k _ _ h
  · obtain ⟨da, db, h1, h2, h3, h4⟩ := h
    exact ⟨da, db, h1, h2, h3, k _ _ h4⟩
theorem neVC_mono {a b : V} {Q Q' : QE} {σ : Hp} (h : neVC a b Q σ) (k : ∀ v σ, Q v σ → Q' v σ) : neVC a b Q' σ := by
  unfold neVC at h ⊢
  split at h
  · exact k _ _ h
  · exact k _ _ h
  · obtain ⟨da, db, h1, h2, h3, h4⟩ := h
    exact ⟨da, db, h1, h2, h3, k _ _ h4⟩
theorem inVC_mono {neg : Bool} {a b : V} {Q Q' : QE} {σ : Hp} (h : inVC neg a b Q σ) (k : ∀ v σ, Q v σ → Q' v σ) : inVC neg a b Q' σ := by
  unfold inVC at h ⊢
  split at h
  · exact k _ _ h
  · rcases h with ⟨vs, ds, d, h1, h2, h3, h4, h5⟩ | ⟨kvs, x, h1, h2, h3⟩
    · exact .inl ⟨vs, ds, d, h1, h2, h3, h4, k _ _ h5⟩
    · exact .inr ⟨kvs, x, h1, h2, k _ _ h3⟩
  · exact h.elim
theorem cmpVC_mono {op : CmpOp} {a b : V} {Q Q' : QE} {σ : Hp} (h : cmpVC op a b Q σ) (k : ∀ v σ, Q v σ → Q' v σ) : cmpVC op a b Q' σ := by
  cases op
  case Lt | LtE | Gt | GtE => exact intsVC_mono h fun _ _ => k _ _
  case Is | IsNot =>
    cases b <;> first | exact h.elim | (obtain ⟨r, h1, h2⟩ := h; exact ⟨r, h1, k _ _ h2⟩)
  case Eq => exact eqVC_mono h k
  case NotEq => exact neVC_mono h k
  case In | NotIn => exact inVC_mono h k

noncomputable def vL (f : Expr → QE → Hp → Prop) : List Expr → (List V → Hp → Prop) → Hp → Prop
  | [], L, σ => L [] σ
  | e :: r, L, σ => f e (fun v σ₁ => vL f r (fun vs σ₂ => L (v :: vs) σ₂) σ₁) σ
noncomputable def vBo (f : Expr → QE → Hp → Prop) (op : BoolOp) : List Expr → QE → Hp → Prop
  | [], _, _ => False
  | [x], Q, σ => f x Q σ
  | x :: y :: r, Q, σ => f x (fun v σ₁ => tvc v σ₁ fun b => match op with
    | .And => Br b (vBo f op (y :: r) Q σ₁) (Q v σ₁)
    | .Or => Br b (Q v σ₁) (vBo f op (y :: r) Q σ₁)) σ
inductive MethOk (T : Tp) (ov : V) (name : Str) (σ : Hp) (K : V → Prop) : Prop where
  | mk (f : V) (h : Resolves T σ ov name f) (k : K f) : MethOk T ov name σ K
noncomputable def intV (v : V) (K : Int → Prop) : Prop := match v with | .int i => K i | _ => False
theorem intV.out {v : V} {K : Int → Prop} (h : intV v K) : ∃ i, v = .int i ∧ K i := by
  cases v <;> first | exact h.elim | exact ⟨_, rfl, h⟩
/-- a name read -/
noncomputable def nmG (o : Option V) (Q : QE) (σ : Hp) : Prop := @Option.rec V (fun _ => Prop) False (fun v => Q v σ) o
theorem nmG.out {o : Option V} {Q : QE} {σ : Hp} (h : nmG o Q σ) : ∃ v, o = some v ∧ Q v σ := by
  cases o with
  | none => exact h.elim
  | some v => exact ⟨v, rfl, h⟩

/-- for x in iter if .. -/
noncomputable def nameView : Expr → Option Str
  | .Name x _ => some x
  | _ => none
theorem nameView_inv {e : Expr} {x : Str} (h : nameView e = some x) : ∃ p, e = .Name x p := by
  cases e <;> first | (cases h; done) | skip
  cases h; exact ⟨_, rfl⟩
noncomputable def compView : List Comprehension → Option (Str × Expr × List Expr)
  | [c] => bif c.is_async == 0 then (nameView c.target).map fun x => (x, c.iter, c.ifs) else none
  | _ => none
theorem compView_inv {gs : List Comprehension} {x : Str} {iter : Expr} {ifs : List Expr} (h : compView gs = some (x, iter, ifs)) : ∃ p, gs = [⟨.Name x p, iter, ifs, 0⟩] := by
  rcases gs with _ | ⟨⟨t, it, is, a⟩, _ | ⟨_, _⟩⟩ <;> first | (cases h; done) | skip
  simp only [compView] at h
  cases ha : a == 0
  · rw [ha] at h; cases h
  · rw [ha] at h
    obtain ⟨y, h1, h2⟩ := Option.map_eq_some_iff.mp h
    cases h2
    obtain ⟨p, rfl⟩ := nameView_inv h1
    cases eq_of_beq ha
    exact ⟨p, rfl⟩

section
variable (T : Tp) (d : Nat) (sc : Scope) (X : QX) (ρ : Loc)
noncomputable def isGlob (x : Str) : Bool := match sc.names.lookup x with | some .globalImplicit => true | _ => false
noncomputable def keepV (v : V) : Bool := match v with
  | .glob x => (T.g x).any fun v => PySem.W.keepIn T.K v
  | v => callable v
noncomputable def compG (f : Expr → QE → Hp → Prop) (elt : Expr) (gens : List Comprehension) (scope : Scope) (R : Prop) (Q : QE) (σ : Hp) : Prop := match compView gens with
  | some (x, iter, ifs) => bif compOk scope sc && isStore scope x && noSet iter && !T.hd then f iter (fun v σ₁ => CompOk T d sc ρ X scope x ifs elt Q v σ₁) σ else R
  | none => R
theorem compG.out {T : Tp} {d : Nat} {sc : Scope} {X : QX} {ρ : Loc} {f : Expr → QE → Hp → Prop} {elt : Expr} {gens : List Comprehension} {scope : Scope} {R : Prop} {Q : QE} {σ : Hp} (h : compG T d sc X ρ f elt gens scope R Q σ) :
    R ∨ ∃ x p iter ifs, gens = [⟨.Name x p, iter, ifs, 0⟩] ∧ (compOk scope sc && isStore scope x && noSet iter && !T.hd) = true ∧ f iter (fun v σ₁ => CompOk T d sc ρ X scope x ifs elt Q v σ₁) σ := by
  unfold compG at h
  split at h
  · rename_i x iter ifs hv
    obtain ⟨p, rfl⟩ := compView_inv hv
    cases hb : (compOk scope sc && isStore scope x && noSet iter && !T.hd)
    · rw [hb] at h; exact .inl h
    · rw [hb] at h; exact .inr ⟨x, p, iter, ifs, rfl, hb, h⟩
  · exact .inl h
/-- what is left of an expression -/
noncomputable def vE : Nat → Expr → QE → Hp → Prop
  | 0, e, Q, σ => Evx T d sc ρ X e Q σ
  | n + 1, e, Q, σ => match e with
    | .Constant c _ _ => (match c with
      | .none => Q .none σ
      | .bool b => Q (.bool b) σ
      | .int i => Q (.int i) σ
      | .str t => Q (.str t) σ
      | _ => Evx T d sc ρ X e Q σ)
    | .Name x _ => bif isVar sc x then nmG (ρ x) Q σ else gd (isGlob sc x) (nmG (T.gv x) Q σ)
    | .BinOp l op r _ => vE n l (fun a σ₁ => vE n r (fun b σ₂ => binG op a b Q σ₂) σ₁) σ
    | .Compare l ops rs _ => (match ops, rs with
      | [op], [r] => bif behindInMarks op r then Evx T d sc ρ X e Q σ else vE n l (fun a σ₁ => vE n r (fun b σ₂ => cmpG op a b Q σ₂) σ₁) σ
      | [op, op2], [r, r2] => bif behindInMarks op2 r2 then Evx T d sc ρ X e Q σ else vE n l (fun a σ₁ => vE n r (fun b σ₂ => cmpG op a b (fun v σ₃ => bvc v fun c => Br c (vE n r2 (fun w σ₄ => cmpG op2 b w Q σ₄) σ₃) (Q (.bool false) σ₃)) σ₂) σ₁) σ
      | _, _ => Evx T d sc ρ X e Q σ)
    | .Tuple es _ _ => bif noStar es then vL (vE n) es (fun vs σ₁ => gd (short vs 100) (Q (.tup vs) σ₁)) σ else Evx T d sc ρ X e Q σ
    | .List es _ => bif noStar es then vL (vE n) es (fun vs σ₁ => gd (short vs 100) (Q (.ref σ₁.length) (σ₁ ++ [.list vs]))) σ else Evx T d sc ρ X e Q σ
    | .Dict ks _ _ => (match ks with | [] => (match e with | .Dict [] [] _ => Q (.ref σ.length) (σ ++ [.sdict []]) | _ => Evx T d sc ρ X e Q σ) | _ => Evx T d sc ρ X e Q σ)
    | .Subscript v i _ => bif notSlice i then vE n v (fun o σ₁ => vE n i (fun k σ₂ => itemG o k Q σ₂) σ₁) σ else Evx T d sc ρ X e Q σ
    | .Attribute v a _ => bif plainBase v then vE n v (fun o σ₁ => AttrOk T a Q o σ₁) σ else Evx T d sc ρ X e Q σ
    | .UnaryOp op x _ => (match op with
      | .Not => vE n x (fun v σ₁ => tvc v σ₁ fun b => Q (.bool (!b)) σ₁) σ
      | .USub => vE n x (fun v σ₁ => intV v fun i => Q (.int (-i)) σ₁) σ
      | _ => Evx T d sc ρ X e Q σ)
    | .BoolOp op es _ => vBo (vE n) op es Q σ
    | .Call f args kws pos => (match kws with | _ :: _ => Evx T d sc ρ X e Q σ | [] => match f with
      | .Name x _ => bif noStar args && isGlob sc x then gd (match T.gv x with | some v => keepV T v | none => false) (vL (vE n) args (fun vs σ₂ => nmG (T.gv x) (fun v σ' => Cal T d X v vs Q σ') σ₂) σ) else Evx T d sc ρ X e Q σ
      | .Attribute o name apos => bif plainBase o && noStar args && (apos.endLine == pos.line) && Nat.ble args.length 20 then vE n o (fun ov σ₁ => MethOk T ov name σ₁ fun f => vL (vE n) args (fun vs σ₂ => Cal T d X f (ov :: vs) Q σ₂) σ₁) σ
        else Evx T d sc ρ X e Q σ
      | _ => Evx T d sc ρ X e Q σ)
    | .ListComp elt gens scope _ => compG T d sc X ρ (vE n) elt gens scope (Evx T d sc ρ X e Q σ) Q σ
    | e => Evx T d sc ρ X e Q σ
end

section
variable {T : Tp} {d : Nat} {sc : Scope} {X : QX} {ρ : Loc}
theorem PostB.mono {Q Q' : Bool → Hp → Prop} {ι : Inj} {h : Heap} {b : Bool} {s' : Shared} (p : PostB T Q ι h b s') (k : ∀ b σ, Q b σ → Q' b σ) : PostB T Q' ι h b s' :=
  by obtain ⟨σ', ι', q, rp, e', g, o⟩ := p; exact ⟨σ', ι', k _ _ q, rp, e', g, o⟩
theorem TsOk.mono {e : Expr} {σ : Hp} {B B' : Bool → Hp → Prop} (h : TsOk T d sc ρ X e B σ) (k : ∀ b σ, B b σ → B' b σ) : TsOk T d sc ρ X e B' σ :=
  fun env A fs F ι s hsc I => wpAny_mono (h env A fs F ι s hsc I) (fun _ _ p => p.mono k) fun _ _ p => p
theorem EvsOk.mono {es : List Expr} {σ : Hp} {L L' : List V → Hp → Prop} (h : EvsOk T d sc ρ X es L σ) (k : ∀ vs σ, L vs σ → L' vs σ) : EvsOk T d sc ρ X es L' σ :=
  fun env A fs F ι s hsc I => wpAny_mono (h env A fs F ι s hsc I) (fun _ _ p => by obtain ⟨vs, σ', ι', q, r, rp, e', g, o⟩ := p; exact ⟨vs, σ', ι', k _ _ q, r, rp, e', g, o⟩) fun _ _ p => p
theorem bif_out {b : Bool} {P R : Prop} (h : bif b then P else R) : (b = true ∧ P) ∨ (b = false ∧ R) := by
  cases b
  · exact .inr ⟨rfl, h⟩
  · exact .inl ⟨rfl, h⟩
theorem isGlob_out {x : Str} (h : isGlob sc x = true) : sc.names.lookup x = some .globalImplicit := by
  unfold isGlob at h
  split at h
  · assumption
  · cases h
theorem vL_ok {f : Expr → QE → Hp → Prop} (hf : ∀ e Q σ, f e Q σ → EvOk T d sc ρ X e Q σ) : ∀ {es : List Expr} {L : List V → Hp → Prop} {σ : Hp}, vL f es L σ → EvsOk T d sc ρ X es L σ
  | [], _, _, h => EvsOk.nil h
  | _ :: _, _, _, h => EvsOk.cons ((hf _ _ _ h).mono (fun _ _ h => vL_ok hf h) fun _ _ h => h)
theorem vBo_ok {f : Expr → QE → Hp → Prop} {op : BoolOp} (hf : ∀ e Q σ, f e Q σ → EvOk T d sc ρ X e Q σ) : ∀ {es : List Expr} {Q : QE} {σ : Hp}, vBo f op es Q σ → BoolsOk T d sc ρ X op es Q σ
  | [], _, _, h => h.elim
  | [_], _, _, h => BoolsOk.one (hf _ _ _ h)
  | _ :: _ :: _, _, _, h => by
    have h := hf _ _ _ h
    cases op
    · exact BoolsOk.and (h.mono (fun v σ₁ h => let ⟨b, h1, h2⟩ := tvc.out h; ⟨b, h1, by
        cases b
        · exact h2
        · exact vBo_ok hf h2⟩) fun _ _ h => h)
    · exact BoolsOk.or (h.mono (fun v σ₁ h => let ⟨b, h1, h2⟩ := tvc.out h; ⟨b, h1, by
        cases b
        · exact vBo_ok hf h2
        · exact h2⟩) fun _ _ h => h)
theorem vE_ok (TO : TopOk T) (ho : scOk sc = true) : ∀ n e Q σ, vE T d sc X ρ n e Q σ → EvOk T d sc ρ X e Q σ
  | 0, _, _, _, h => Evx.out h
  | n + 1, e, Q, σ, h => by
    have ih := vE_ok TO ho n
    have ih2 : ∀ {es : List Expr} {L : List V → Hp → Prop} {σ : Hp}, vL (vE T d sc X ρ n) es L σ → EvsOk T d sc ρ X es L σ := vL_ok ih
    cases e <;> first | exact h.out | skip
    · exact EvOk.bools (vBo_ok ih h)
    · exact EvOk.bin ((ih _ _ _ h).mono (fun _ _ h => (ih _ _ _ h).mono (fun _ _ h => h.out) fun _ _ h => h) fun _ _ h => h)
    · rename_i op _ _
      cases op <;> first | exact h.out | skip
      · exact EvOk.not ((ih _ _ _ h).mono (fun _ _ h => tvc.out h) fun _ _ h => h)
      · exact EvOk.neg ((ih _ _ _ h).mono (fun _ _ h => intV.out h) fun _ _ h => h)
    · rename_i ks vs _
      cases ks <;> first | exact h.out | skip
      cases vs <;> first | exact h.out | skip
      exact EvOk.dict h
    · rename_i elt gens scope _
      rcases compG.out h with h | ⟨x, p, iter, ifs, rfl, hb, h⟩
      · exact h.out
      · simp only [Bool.and_eq_true, Bool.not_eq_true'] at hb
        exact EvOk.comp hb.1.1.1 hb.1.1.2 hb.1.2 (ih _ _ _ h) hb.2
    · rename_i l ops rs _
      rcases ops with _ | ⟨op, _ | ⟨op2, _ | ⟨_, _⟩⟩⟩ <;> rcases rs with _ | ⟨r, _ | ⟨r2, _ | ⟨_, _⟩⟩⟩ <;> first | exact h.out | skip
      · rcases bif_out h with ⟨_, h⟩ | ⟨hb, h⟩
        · exact h.out
        · exact EvOk.cmp ((ih _ _ _ h).mono (fun _ _ h => (ih _ _ _ h).mono (fun _ _ h => h.out) fun _ _ h => h) fun _ _ h => h) hb
      · rcases bif_out h with ⟨_, h⟩ | ⟨hb, h⟩
        · exact h.out
        · exact EvOk.cmp2 ((ih _ _ _ h).mono (fun _ _ h => (ih _ _ _ h).mono (fun _ _ h => cmpVC_mono h.out fun v σ h => let ⟨b, h1, h2⟩ := bvc.out h; ⟨b, h1, by
            cases b
            · exact h2
            · exact (ih _ _ _ h2).mono (fun _ _ h => h.out) fun _ _ h => h⟩) fun _ _ h => h) fun _ _ h => h) hb
    · rename_i f args kws pos
      cases kws <;> first | exact h.out | skip
      cases f <;> first | exact h.out | skip
      · rcases bif_out h with ⟨hb, h⟩ | ⟨_, h⟩
        · simp only [Bool.and_eq_true] at hb
          exact EvOk.meth TO hb.1.1.1 hb.1.1.2 hb.1.2 (Nat.lt_of_le_of_lt (Nat.le_of_ble_eq_true hb.2) (by decide)) ((ih _ _ _ h).mono (fun _ _ h => let ⟨f, h1, h2⟩ := h; ⟨f, h1, (ih2 h2).mono fun _ _ h => h.out⟩) fun _ _ h => h)
        · exact h.out
      · rcases bif_out h with ⟨hb, h⟩ | ⟨_, h⟩
        · simp only [Bool.and_eq_true] at hb
          obtain ⟨h0, h⟩ := gd.out h
          split at h0
          · rename_i x _ _ v hv
            have h4 := (ih2 h).mono (L' := fun vs σ => CallOk T d X v vs Q σ) fun vs σ h => by
              obtain ⟨u, h1, h2⟩ := nmG.out h
              rw [hv] at h1; cases h1; exact h2.out
            clear h
            refine EvOk.call TO hb.1 (EvOk.glob TO ?_ hv (isGlob_out hb.2) ho)
            cases v <;> first | exact ⟨.inl h0, .inl h0, h4⟩ | skip
            rename_i y
            refine ⟨.inr (.inl ⟨y, rfl⟩), .inr fun v hv => ?_, h4⟩
            rcases hv with ⟨y, e, hv⟩ | ⟨c, y, e, _⟩
            · cases e
              simp only [keepV, hv, Option.any_some] at h0
              exact h0
            · cases e
          · cases h0
        · exact h.out
    · rename_i c _ _
      cases c <;> first | exact h.out | skip
      · exact EvOk.none h
      · exact EvOk.bool h
      · exact EvOk.int h
      · exact EvOk.str h
    · rcases bif_out h with ⟨hb, h⟩ | ⟨_, h⟩
      · exact EvOk.attr TO hb (ih _ _ _ h)
      · exact h.out
    · rcases bif_out h with ⟨hb, h⟩ | ⟨_, h⟩
      · exact EvOk.ix hb ((ih _ _ _ h).mono (fun _ _ h => (ih _ _ _ h).mono (fun _ _ h => h.out) fun _ _ h => h) fun _ _ h => h)
      · exact h.out
    · rcases bif_out h with ⟨hb, h⟩ | ⟨_, h⟩
      · obtain ⟨v, h1, h2⟩ := nmG.out h
        exact EvOk.nm h1 hb ho h2
      · obtain ⟨h0, h⟩ := gd.out h
        obtain ⟨v, h1, h2⟩ := nmG.out h
        exact EvOk.glob TO h2 h1 (isGlob_out h0) ho
    · rcases bif_out h with ⟨hb, h⟩ | ⟨_, h⟩
      · exact EvOk.list ((ih2 h).mono fun vs σ h => let ⟨h1, h2⟩ := gd.out h; ⟨Nat.le_trans (short_le h1) (by decide), h2⟩) hb
      · exact h.out
    · rcases bif_out h with ⟨hb, h⟩ | ⟨_, h⟩
      · exact EvOk.tup ((ih2 h).mono fun vs σ h => let ⟨h1, h2⟩ := gd.out h; ⟨Nat.le_trans (short_le h1) (by decide), h2⟩) hb
      · exact h.out
end

section
variable (T : Tp) (d : Nat) (sc : Scope) (X : QX) (ρ : Loc)
noncomputable def vAl (f : Expr → (Bool → Hp → Prop) → Hp → Prop) (op : BoolOp) : List Expr → (Bool → Hp → Prop) → Hp → Prop
  | [], B, σ => B (match op with | .And => true | .Or => false) σ
  | x :: r, B, σ => f x (fun b σ₁ => match op with
    | .And => Br b (vAl f op r B σ₁) (B false σ₁)
    | .Or => Br b (B true σ₁) (vAl f op r B σ₁)) σ
/-- what is left of a test -/
noncomputable def vT (m : Nat) : Nat → Expr → (Bool → Hp → Prop) → Hp → Prop
  | 0, e, B, σ => Tsx T d sc ρ X e B σ
  | n + 1, e, B, σ => match e with
    | .Compare l ops rs _ => (match ops, rs with
      | [op], [r] => bif behindInMarks op r then Tsx T d sc ρ X e B σ else vE T d sc X ρ m l (fun a σ₁ => vE T d sc X ρ m r (fun b σ₂ => cmpG op a b (fun v σ₃ => bvc v fun c => B c σ₃) σ₂) σ₁) σ
      | [op, op2], [r, r2] => bif behindInMarks op2 r2 then Tsx T d sc ρ X e B σ else
        vE T d sc X ρ m l (fun a σ₁ => vE T d sc X ρ m r (fun b σ₂ => cmpG op a b (fun v σ₃ => bvc v fun c => Br c (vE T d sc X ρ m r2 (fun w σ₄ => cmpG op2 b w (fun v σ₅ => bvc v fun c => B c σ₅) σ₄) σ₃) (B false σ₃)) σ₂) σ₁) σ
      | _, _ => Tsx T d sc ρ X e B σ)
    | .UnaryOp op x _ => (match op with
      | .Not => vT m n x (fun b σ₁ => B (!b) σ₁) σ
      | _ => Tsx T d sc ρ X e B σ)
    | .BoolOp op es _ => vAl (vT m n) op es B σ
    | .IfExp .. => Tsx T d sc ρ X e B σ
    | e => vE T d sc X ρ m e (fun v σ₁ => tvc v σ₁ fun b => B b σ₁) σ
end
section
variable {T : Tp} {d : Nat} {sc : Scope} {X : QX} {ρ : Loc}
theorem vAl_ok {f : Expr → (Bool → Hp → Prop) → Hp → Prop} {op : BoolOp} (hf : ∀ e B σ, f e B σ → TsOk T d sc ρ X e B σ) : ∀ {es : List Expr} {B : Bool → Hp → Prop} {σ : Hp}, vAl f op es B σ → AllOk T d sc ρ X op es B σ
  | [], _, _, h => by
    cases op
    · exact AllOk.and_nil h
    · exact AllOk.or_nil h
  | _ :: _, _, _, h => by
    have h := hf _ _ _ h
    cases op
    · exact AllOk.and_cons (h.mono fun b σ₁ h => by
        cases b
        · exact h
        · exact vAl_ok hf h)
    · exact AllOk.or_cons (h.mono fun b σ₁ h => by
        cases b
        · exact vAl_ok hf h
        · exact h)
theorem vT_ok (TO : TopOk T) (ho : scOk sc = true) (m : Nat) : ∀ n e B σ, vT T d sc X ρ m n e B σ → TsOk T d sc ρ X e B σ
  | 0, _, _, _, h => Tsx.out h
  | n + 1, e, B, σ, h => by
    have ih := vT_ok TO ho m n
    have ie := vE_ok (d := d) (X := X) (ρ := ρ) TO ho m
    have val : ∀ {e : Expr} {B : Bool → Hp → Prop} {σ : Hp}, vE T d sc X ρ m e (fun v σ₁ => tvc v σ₁ fun b => B b σ₁) σ → plainTest e = true → TsOk T d sc ρ X e B σ := fun h hp => TsOk.val ((ie _ _ _ h).mono (fun _ _ h => tvc.out h) fun _ _ h => h) hp
    cases e <;> first | exact val h rfl | exact h.out | skip
    · exact TsOk.bool (vAl_ok ih h)
    · rename_i op _ _
      cases op <;> first | exact h.out | skip
      exact TsOk.not (ih _ _ _ h)
    · rename_i l ops rs _
      rcases ops with _ | ⟨op, _ | ⟨op2, _ | ⟨_, _⟩⟩⟩ <;> rcases rs with _ | ⟨r, _ | ⟨r2, _ | ⟨_, _⟩⟩⟩ <;> first | exact h.out | skip
      · rcases bif_out h with ⟨_, h⟩ | ⟨hb, h⟩
        · exact h.out
        · exact TsOk.cmp ((ie _ _ _ h).mono (fun _ _ h => (ie _ _ _ h).mono (fun _ _ h => cmpVC_mono h.out fun v σ h => bvc.out h) fun _ _ h => h) fun _ _ h => h) hb
      · rcases bif_out h with ⟨_, h⟩ | ⟨hb, h⟩
        · exact h.out
        · exact TsOk.cmp2 ((ie _ _ _ h).mono (fun _ _ h => (ie _ _ _ h).mono (fun _ _ h => cmpVC_mono h.out fun v σ h => let ⟨b, h1, h2⟩ := bvc.out h; ⟨b, h1, by
            cases b
            · exact h2
            · exact (ie _ _ _ h2).mono (fun _ _ h => cmpVC_mono h.out fun v σ h => bvc.out h) fun _ _ h => h⟩) fun _ _ h => h) fun _ _ h => h) hb
end

section
variable (T : Tp) (d : Nat) (sc : Scope) (X : XS)
/-- what is left of a for loop's head, by its target -/
noncomputable def forG (f : Expr → QE → Hp → Prop) (t iter : Expr) (body : List Stmt) (R : Prop) (K : QS) (ρ : Loc) (σ : Hp) : Prop := match t with
  | .Name x _ => bif isStore sc x && noSet iter && !T.hd then f iter (fun v σ₁ => ForOk T d sc X (nx1 x) body K v ρ σ₁) σ else R
  | .Tuple [a, b] _ _ => (match nameView a, nameView b with
    | some a, some b => bif isStore sc a && isStore sc b && noSet iter && !T.hd then f iter (fun v σ₁ => ForOk T d sc X (nx2 a b) body K v ρ σ₁) σ else R
    | _, _ => R)
  | _ => R
noncomputable def asgG (f : Expr → QE → Hp → Prop) (t value : Expr) (R : Prop) (K : QS) (ρ : Loc) (σ : Hp) : Prop := match t with
  | .Name x _ => bif isStore sc x then f value (fun v σ' => K .next (upd ρ x (some v)) σ') σ else R
  | .Attribute o a _ => f value (fun v σ₁ => f o (fun ov σ₂ => SetAttrOk T a ρ K v ov σ₂) σ₁) σ
  | .Subscript o i _ => f value (fun v σ₁ => f o (fun ov σ₂ => f i (fun iv σ₃ => SetItemOk ρ K v ov iv σ₃) σ₂) σ₁) σ
  | _ => R
noncomputable def isCell (x : Str) : Bool := match sc.names.lookup x with | some .cell => true | _ => false
noncomputable def isLocal (x : Str) : Bool := match sc.names.lookup x with | some .local => true | _ => false
/-- x = [..] -/
noncomputable def asgC (f : Expr → QE → Hp → Prop) (t value : Expr) (R : Prop) (K : QS) (ρ : Loc) (σ : Hp) : Prop := match t with
  | .Name y py => bif isCell sc y then f value (fun v σ' => K .next (upd ρ y (some v)) σ') σ else
    match value with
    | .ListComp elt gens scope pos => bif isLocal sc y && (py.line == pos.line && !(scope.names.any fun (n, k) => n == y && (k == .local || k == .cell))) then compG T d sc X ρ f elt gens scope R (fun w σ => K .next (upd ρ y (some w)) σ) σ else R
    | _ => R
  | _ => R
/-- what is left of statements -/
noncomputable def vB : Nat → List Stmt → QS → Loc → Hp → Prop
  | 0, ss, Q, ρ, σ => ExOk T d sc ρ X ss Q σ
  | n + 1, ss, Q, ρ, σ => match ss with
    | [] => Q .next ρ σ
    | st :: r => (fun K : QS => match st with
      | .Assign [t] value _ => bif noComp value then asgG T sc (vE T d sc X ρ 40) t value (Stx T d sc ρ X st K σ) K ρ σ else asgC T d sc X (vE T d sc X ρ 40) t value (Stx T d sc ρ X st K σ) K ρ σ
      | .If e b o _ => vT T d sc X ρ 40 10 e (fun t σ' => Br t (vB n b K ρ σ') (vB n o K ρ σ')) σ
      | .Return (some e) _ => vE T d sc X ρ 40 e (fun v σ' => Q (.ret v) ρ σ') σ
      | .Return none _ => Q (.ret .none) ρ σ
      | .Expr e _ => bif noComp e then vE T d sc X ρ 40 e (fun _ σ' => K .next ρ σ') σ else Stx T d sc ρ X st K σ
      | .Pass _ => K .next ρ σ
      | .Break _ => Q .brk ρ σ
      | .Continue _ => Q .cont ρ σ
      | .For t iter body [] _ => forG T d sc X (vE T d sc X ρ 40) t iter body (Stx T d sc ρ X st K σ) K ρ σ
      | st => Stx T d sc ρ X st K σ) fun fl ρ' σ' => match fl with | .next => vB n r Q ρ' σ' | fl => Q fl ρ' σ'
end
section
variable {T : Tp} {d : Nat} {sc : Scope} {X : XS}
theorem asgG_ok {f : Expr → QE → Hp → Prop} {t value : Expr} {pos : Pos} {K : QS} {ρ : Loc} {σ : Hp} (TO : TopOk T) (hf : ∀ e Q σ, f e Q σ → EvOk T d sc ρ X e Q σ) (hc : noComp value = true)
    (h : asgG T sc f t value (Stx T d sc ρ X (.Assign [t] value pos) K σ) K ρ σ) : StOk T d sc ρ X (.Assign [t] value pos) K σ := by
  cases t <;> first | exact h.out | skip
  · exact StOk.setAttr TO ((hf _ _ _ h).mono (fun _ _ h => hf _ _ _ h) fun _ _ h => h) hc
  · exact StOk.setItem ((hf _ _ _ h).mono (fun _ _ h => (hf _ _ _ h).mono (fun _ _ h => hf _ _ _ h) fun _ _ h => h) fun _ _ h => h) hc
  · rcases bif_out h with ⟨hb, h⟩ | ⟨_, h⟩
    · exact StOk.assign (hf _ _ _ h) hc hb
    · exact h.out
theorem isCell_out {x : Str} (h : isCell sc x = true) : sc.names.lookup x = some .cell := by
  unfold isCell at h
  split at h
  · assumption
  · cases h
theorem isLocal_out {x : Str} (h : isLocal sc x = true) : sc.names.lookup x = some .local := by
  unfold isLocal at h
  split at h
  · assumption
  · cases h
theorem asgC_ok {f : Expr → QE → Hp → Prop} {t value : Expr} {pos : Pos} {K : QS} {ρ : Loc} {σ : Hp} (hf : ∀ e Q σ, f e Q σ → EvOk T d sc ρ X e Q σ)
    (h : asgC T d sc X f t value (Stx T d sc ρ X (.Assign [t] value pos) K σ) K ρ σ) : StOk T d sc ρ X (.Assign [t] value pos) K σ := by
  cases t <;> first | exact h.out | skip
  rcases bif_out h with ⟨hb, h⟩ | ⟨_, h⟩
  · exact StOk.assignCell (hf _ _ _ h) (isCell_out hb)
  cases value <;> first | exact h.out | skip
  rcases bif_out h with ⟨hb, h⟩ | ⟨_, h⟩
  · rw [Bool.and_eq_true] at hb
    rcases compG.out h with h | ⟨x, p, iter, ifs, rfl, hc, h⟩
    · exact h.out
    · simp only [Bool.and_eq_true, Bool.not_eq_true'] at hc
      exact StOk.assignComp hc.1.1.1 hc.1.1.2 hc.1.2 (isLocal_out hb.1) hb.2 (hf _ _ _ h) hc.2
  · exact h.out
theorem forG_ok {f : Expr → QE → Hp → Prop} {t iter : Expr} {body : List Stmt} {pos : Pos} {K : QS} {ρ : Loc} {σ : Hp} (hf : ∀ e Q σ, f e Q σ → EvOk T d sc ρ X e Q σ)
    (h : forG T d sc X f t iter body (Stx T d sc ρ X (.For t iter body [] pos) K σ) K ρ σ) : StOk T d sc ρ X (.For t iter body [] pos) K σ := by
  cases t <;> first | exact h.out | skip
  · rcases bif_out h with ⟨hb, h⟩ | ⟨_, h⟩
    · simp only [Bool.and_eq_true, Bool.not_eq_true'] at hb
      exact StOk.for (hf _ _ _ h) hb.1.1 hb.1.2 hb.2
    · exact h.out
  · rename_i es _ _
    rcases es with _ | ⟨a, _ | ⟨b, _ | ⟨_, _⟩⟩⟩ <;> first | exact h.out | skip
    cases ha : nameView a with
    | none => simp only [forG, ha] at h; exact h.out
    | some na =>
      cases hb : nameView b with
      | none => simp only [forG, ha, hb] at h; exact h.out
      | some nb =>
        simp only [forG, ha, hb] at h
        obtain ⟨pa, rfl⟩ := nameView_inv ha
        obtain ⟨pb, rfl⟩ := nameView_inv hb
        rcases bif_out h with ⟨hb, h⟩ | ⟨_, h⟩
        · simp only [Bool.and_eq_true, Bool.not_eq_true'] at hb
          exact StOk.for2 (hf _ _ _ h) hb.1.1.1 hb.1.1.2 hb.1.2 hb.2
        · exact h.out
theorem vB_ok (TO : TopOk T) (ho : scOk sc = true) : ∀ n ss Q ρ σ, vB T d sc X n ss Q ρ σ → ExOk T d sc ρ X ss Q σ
  | 0, _, _, _, _, h => h
  | n + 1, ss, Q, ρ, σ, h => by
    have ie := fun ρ => vE_ok (d := d) (X := X) (ρ := ρ) TO ho 40
    have it := fun ρ => vT_ok (d := d) (X := X) (ρ := ρ) TO ho 40 10
    have ih := vB_ok TO ho n
    cases ss with
    | nil => exact ExOk.nil h
    | cons st r =>
      refine ExOk.cons (StOk.mono (Q := fun fl ρ' σ' => match fl with | .next => vB T d sc X n r Q ρ' σ' | fl => Q fl ρ' σ') ?_ (fun fl ρ' σ' h => ?_) fun _ _ h => h)
      rotate_left
      · cases fl <;> first | exact h | exact ih _ _ _ _ h
      cases st <;> first | exact h.out | skip
      · rename_i e _
        cases e
        · exact StOk.retNone h
        · exact StOk.ret (ie _ _ _ _ h)
      · rename_i ts value _
        rcases ts with _ | ⟨t, _ | ⟨_, _⟩⟩ <;> first | exact h.out | skip
        rcases bif_out h with ⟨hc, h⟩ | ⟨_, h⟩
        · exact asgG_ok TO (ie ρ) hc h
        · exact asgC_ok (ie ρ) h
      · rename_i t iter body orelse _
        cases orelse <;> first | exact h.out | skip
        exact forG_ok (ie ρ) h
      · exact StOk.ite ((it _ _ _ _ h).mono fun b σ h => by
          cases b
          · exact ih _ _ _ _ h
          · exact ih _ _ _ _ h)
      · rcases bif_out h with ⟨hc, h⟩ | ⟨_, h⟩
        · exact StOk.expr (ie _ _ _ _ h) hc
        · exact h.out
      · exact StOk.pass h
      · exact StOk.brk h
      · exact StOk.cont h
end
end Mine

namespace Mine
open PySem PySem.Calls PyProof.Rows PySem.SeqAt

/-- what is known of the names -/
noncomputable def Has (ρ : Loc) : List (Str × V) → Prop
  | [] => True
  | (k, v) :: r => ρ k = some v ∧ Has ρ r
noncomputable def locs (ρ : Loc) : List (Str × V) → Loc
  | [] => ρ
  | (k, v) :: r => upd (locs ρ r) k (some v)
theorem Has.eq {ρ : Loc} : ∀ {kvs : List (Str × V)}, Has ρ kvs → locs ρ kvs = ρ
  | [], _ => rfl
  | (k, v) :: r, h => by
    show upd (locs ρ r) k (some v) = ρ
    rw [Has.eq h.2]
    funext y
    unfold upd
    split
    · next e => rw [e]; exact h.1.symm
    · rfl
theorem Has.use {ρ : Loc} {kvs : List (Str × V)} (h : Has ρ kvs) : ∃ r, ρ = locs r kvs := ⟨ρ, h.eq.symm⟩

section
variable {T : Tp} {d : Nat} {sc : Scope} {X : QX} {Q : QE} {σ : Hp}
/-- a function of the program, called -/
theorem CallOk.go {x : Str} {v : Value} {ps : List Str} {body : List Stmt} {args : List V} (TO : TopOk T) (e : T.g x = some v) (h : FnAt T v ps body sc) (hl : args.length = ps.length) (ho : scOk sc = true)
    (hb : vB T d sc X 60 body (retQ Q) (bindLoc (fun _ => none) ps args) σ) : CallOk T (d + 1) X (.glob x) args Q σ := CallOk.fn TO (FnV.glob e h) hl (vB_ok TO ho _ _ _ _ _ hb)
/-- a method of the program, called -/
theorem CallOk.goM {c x : Str} {v : Value} {ps : List Str} {body : List Stmt} {args : List V} (TO : TopOk T) (e : T.m c x = some v) (h : FnAt T v ps body sc) (hl : args.length = ps.length) (ho : scOk sc = true)
    (hb : vB T d sc X 60 body (retQ Q) (bindLoc (fun _ => none) ps args) σ) : CallOk T (d + 1) X (.mth c x) args Q σ := CallOk.fn TO (FnV.mth e h) hl (vB_ok TO ho _ _ _ _ _ hb)
theorem CodeOk.goM {c x : Str} {v : Value} {ps : List Str} {body : List Stmt} {args : List V} (TO : TopOk T) (e : T.m c x = some v) (h : FnAt T v ps body sc) (hl : args.length = ps.length) (ho : scOk sc = true)
    (hb : vB T d sc X 60 body (retQ Q) (bindLoc (fun _ => none) ps args) σ) : CodeOk T (d + 1) X (.mth c x) args Q σ := CodeOk.fn TO (FnV.mth e h) hl (vB_ok TO ho _ _ _ _ _ hb)

/-- the calls of built-ins, closed -/
theorem Cal.len {v : V} {n : Nat} (e : lenV σ v = some n) (hn : n < 2 ^ 62) (q : Q (.int n) σ) : Cal T d X (.bi "len") [v] Q σ := ⟨CallOk.len e hn q⟩
theorem Cal.lenT {vs : List V} (h : short vs 100 = true) (q : Q (.int vs.length) σ) : Cal T d X (.bi "len") [.tup vs] Q σ := .len rfl (Nat.lt_of_le_of_lt (short_le h) (by decide)) q
theorem Cal.isi {v : V} {ty : String} {b : Bool} (e : isiV σ v ty = some b) (q : Q (.bool b) σ) : Cal T d X (.bi "isinstance") [v, .type ty] Q σ := ⟨CallOk.isi e q⟩
theorem Cal.ord {c : Nat} (q : Q (.int c) σ) : Cal T d X (.bi "ord") [.str ⟨#[c]⟩] Q σ := ⟨CallOk.ord q⟩
theorem Cal.range {n : Int} (q : Q (.rng n) σ) : Cal T d X (.type "range") [.int n] Q σ := ⟨CallOk.range q⟩
theorem Cal.list {v : V} {vs : List V} (e : seqV σ v = some vs) (hn : vs.length ≤ sizeLine) (q : Q (.ref σ.length) (σ ++ [.list vs])) : Cal T d X (.type "list") [v] Q σ := ⟨CallOk.list e hn q⟩

/-- the methods of lists -/
theorem kind_list {l : Nat} {vs : List V} (h : σ[l]? = some (.list vs)) : kindV σ (.ref l) = some "list" := by simp only [kindV, h]
theorem MethOk.bi {ov : V} {name : Str} {id ty : String} {K : V → Prop} (h1 : kindV σ ov = some ty) (h2 : MethFacts ty name id) (k : K (.bi id)) : MethOk T ov name σ K := ⟨.bi id, .bi h1 h2, k⟩
theorem MethOk.append {l : Nat} {vs : List V} {K : V → Prop} (h : σ[l]? = some (.list vs)) (k : K (.bi "list.append")) : MethOk T (.ref l) "append" σ K := .bi (kind_list h) m_append k
theorem MethOk.pop {l : Nat} {vs : List V} {K : V → Prop} (h : σ[l]? = some (.list vs)) (k : K (.bi "list.pop")) : MethOk T (.ref l) "pop" σ K := .bi (kind_list h) m_pop k
theorem MethOk.extend {l : Nat} {vs : List V} {K : V → Prop} (h : σ[l]? = some (.list vs)) (k : K (.bi "list.extend")) : MethOk T (.ref l) "extend" σ K := .bi (kind_list h) m_extend k
theorem Itm.list {l : Nat} {vs : List V} {k : Int} {j : Nat} {v : V} (e0 : σ[l]? = some (.list vs)) (e1 : seqIndex? k vs.length = some j) (e2 : vs[j]? = some v) (e3 : sm63 k) (q : Q v σ) : Itm (.ref l) (.int k) Q σ := ⟨i_list e0 e1 e2 e3 q⟩
theorem Bin.cat {s t : Str} (k : s.length + t.length ≤ sizeLine) (h : Q (.str (s ++ t)) σ) : Bin .Add (.str s) (.str t) Q σ := ⟨k, h⟩
theorem Bin.lists {l m : Nat} {xs ys : List V} (h1 : σ[l]? = some (.list xs)) (h2 : σ[m]? = some (.list ys)) (h3 : xs.length + ys.length ≤ sizeLine) (h : Q (.ref σ.length) (σ ++ [.list (xs ++ ys)])) : Bin .Add (.ref l) (.ref m) Q σ := ⟨_, _, h1, h2, h3, h⟩
end
end Mine

set_option maxRecDepth 100000
namespace Mine
open PySem PySem.Calls PyProof.Rows PySem.SeqAt

theorem VRels.take {T : Tp} {ι : Inj} {h : Heap} : ∀ {vs : List V} {xs : List Value} (k : Nat), VRels T ι h vs xs → VRels T ι h (vs.take k) (xs.take k)
  | _, _, 0, _ => by simp only [List.take_zero]; exact VRels.nil_iff.mpr rfl
  | [], [], _ + 1, _ => by simp only [List.take_nil]; exact VRels.nil_iff.mpr rfl
  | _ :: _, _ :: _, k + 1, e => by
    unfold VRels at e
    simp only [List.take_succ_cons]
    unfold VRels
    exact ⟨e.1, VRels.take k e.2⟩
theorem VRels.drop {T : Tp} {ι : Inj} {h : Heap} : ∀ {vs : List V} {xs : List Value} (k : Nat), VRels T ι h vs xs → VRels T ι h (vs.drop k) (xs.drop k)
  | _, _, 0, e => by simpa only [List.drop_zero] using e
  | [], [], _ + 1, _ => by simp only [List.drop_nil]; exact VRels.nil_iff.mpr rfl
  | _ :: _, _ :: _, k + 1, e => by
    unfold VRels at e
    simp only [List.drop_succ_cons]
    exact VRels.drop k e.2
/-- a piece of a list -/
inductive Slc (f : List V → Nat → List V) (o i : V) (Q : QE) (σ : Hp) : Prop where
  | mk (m : Nat) (vs : List V) (k : Nat) (h0 : o = .ref m) (h1 : i = .int k) (h2 : σ[m]? = some (.list vs)) (h3 : vs.length ≤ sizeLine) (q : Q (.ref σ.length) (σ ++ [.list (f vs k)])) : Slc f o i Q σ
section
variable {T : Tp} {d : Nat} {sc : Scope} {ρ : Loc} {X : QX} {Q : QE} {σ : Hp}
/-- x[:e] -/
theorem EvOk.sliceTo {x : Str} {np p pos : Pos} {e : Expr} (h : EvOk T d sc ρ X (.Name x np) (fun o σ₁ => EvOk T d sc ρ X e (fun i σ₂ => Slc (fun vs k => vs.take k) o i Q σ₂) σ₁) σ) :
    EvOk T d sc ρ X (.Subscript (.Name x np) (.Slice Option.none (some e) Option.none p) pos) Q σ := by
  intro env A fs F ι s hsc I
  refine wpAny_Subscript_list_slice (wpAny_mono (h env A fs F ι s hsc I) (fun o s₁ p => ?_) fun _ _ p => p) (fun _ _ => rfl)
  obtain ⟨v, σ₁, ι₁, q, rv, rp, ex, g, oo⟩ := p
  rw [evalPart_none]
  refine wpAny_pure ?_
  rw [evalPart_some]
  have I₁ := I.ext ex rp g oo
  refine wpAny_mono (q env A fs F ι₁ s₁ hsc I₁) (fun y s₂ p => ?_) fun _ _ p => p.trans ex
  obtain ⟨v₂, σ₂, ι₂, ⟨m, vs, k, rfl, rfl, h2, h3, q2⟩, rv₂, rp₂, ex₂, g₂, o₂⟩ := p
  have I₂ := I₁.ext ex₂ rp₂ g₂ o₂
  obtain ⟨a, d', rfl, hl⟩ := (rv.mono ex₂.mono).ref_inv
  obtain ⟨t, rfl⟩ := rv₂.int_inv
  obtain ⟨items, n, hL, hv⟩ := rp₂.list_at h2 hl
  have hlen := hv.length
  rw [Array.length_toList] at hlen
  refine ⟨a, items, Option.none, some (k : Int), rfl, hL.isList, by rw [hlen]; exact h3, .none, .int k t, ?_⟩
  rw [slicePick_upto' items k]
  have ep := Ext.push T [] ι₂ s₂.heap { cls := .type "slice", data := .fields #[.none, .int k t, .none] }
  have I₃ : Inv T A fs d env F ρ ι₂ σ₂ { s₂ with heap := s₂.heap.push { cls := .type "slice", data := .fields #[.none, .int k t, .none] } } := I₂.ext ep (rp₂.push _) I₂.gens I₂.os
  have := (I₃.st.newList (Q := Q) (items := (items.toList.take k).toArray) (F := []) (by simpa using (hv.mono ep.mono).take k) q2 (t := s₂.toks)).trans (ex.trans (ex₂.trans ep))
  rw [Heap.size_push] at this
  exact this
/-- x[e:] -/
theorem EvOk.sliceFrom {x : Str} {np p pos : Pos} {e : Expr} (h : EvOk T d sc ρ X (.Name x np) (fun o σ₁ => EvOk T d sc ρ X e (fun i σ₂ => Slc (fun vs k => vs.drop k) o i Q σ₂) σ₁) σ) :
    EvOk T d sc ρ X (.Subscript (.Name x np) (.Slice (some e) Option.none Option.none p) pos) Q σ := by
  intro env A fs F ι s hsc I
  refine wpAny_Subscript_list_slice (wpAny_mono (h env A fs F ι s hsc I) (fun o s₁ p => ?_) fun _ _ p => p) (fun _ _ => rfl)
  obtain ⟨v, σ₁, ι₁, q, rv, rp, ex, g, oo⟩ := p
  rw [evalPart_some]
  have I₁ := I.ext ex rp g oo
  refine wpAny_mono (q env A fs F ι₁ s₁ hsc I₁) (fun y s₂ p => ?_) fun _ _ p => p.trans ex
  obtain ⟨v₂, σ₂, ι₂, ⟨m, vs, k, rfl, rfl, h2, h3, q2⟩, rv₂, rp₂, ex₂, g₂, o₂⟩ := p
  rw [evalPart_none]
  refine wpAny_pure ?_
  have I₂ := I₁.ext ex₂ rp₂ g₂ o₂
  obtain ⟨a, d', rfl, hl⟩ := (rv.mono ex₂.mono).ref_inv
  obtain ⟨t, rfl⟩ := rv₂.int_inv
  obtain ⟨items, n, hL, hv⟩ := rp₂.list_at h2 hl
  have hlen := hv.length
  rw [Array.length_toList] at hlen
  refine ⟨a, items, some (k : Int), Option.none, rfl, hL.isList, by rw [hlen]; exact h3, .int k t, .none, ?_⟩
  rw [slicePick_from' items k]
  have ep := Ext.push T [] ι₂ s₂.heap { cls := .type "slice", data := .fields #[.int k t, .none, .none] }
  have I₃ : Inv T A fs d env F ρ ι₂ σ₂ { s₂ with heap := s₂.heap.push { cls := .type "slice", data := .fields #[.int k t, .none, .none] } } := I₂.ext ep (rp₂.push _) I₂.gens I₂.os
  have := (I₃.st.newList (Q := Q) (items := (items.toList.drop k).toArray) (F := []) (by simpa using (hv.mono ep.mono).drop k) q2 (t := s₂.toks)).trans (ex.trans (ex₂.trans ep))
  rw [Heap.size_push] at this
  exact this
end

/-- a block in two -/
theorem execs_append (env : Env) (r : List Stmt) : ∀ ss : List Stmt, execs (ss ++ r) env = (execs ss env >>= fun f => match f with | .next => execs r env | f => pure f)
  | [] => by
    rw [List.nil_append, show execs [] env = pure Flow.next by simp [execs], pure_bind]
  | st :: ss => by
    rw [List.cons_append, execs_cons, execs_cons, bind_assoc]
    congr 1
    funext f
    cases f
    · exact execs_append env r ss
    · exact (pure_bind _ _).symm
    · exact (pure_bind _ _).symm
    · exact (pure_bind _ _).symm
theorem ExOk.cutAt {T : Tp} {d : Nat} {sc : Scope} {ρ : Loc} {X : XS} {Q : QS} {σ : Hp} {ss : List Stmt} (k : Nat) (P : Loc → Hp → Prop) (h1 : ExOk T d sc ρ X (ss.take k) (fun fl ρ' σ' => match fl with | .next => P ρ' σ' | fl => Q fl ρ' σ') σ) (h2 : ∀ ρ' σ', P ρ' σ' → ExOk T d sc ρ' X (ss.drop k) Q σ') : ExOk T d sc ρ X ss Q σ := by
  intro env A fs F ι s hsc I
  rw [← List.take_append_drop k ss, execs_append]
  refine wpAny_bind (wpAny_mono (h1 env A fs F ι s hsc I) (fun f s₁ p => ?_) fun _ _ p => p)
  obtain ⟨fl, ρ', σ', ι', q, r, i, e⟩ := p
  cases fl <;> cases f <;> first | exact r.elim | skip
  · exact wpAny_mono (h2 _ _ q env A fs F ι' s₁ hsc i) (fun _ _ p => p.trans e) fun _ _ p => p.trans e
  · exact wpAny_pure ⟨_, ρ', σ', ι', q, r, i, e⟩
  · exact wpAny_pure ⟨_, ρ', σ', ι', q, r, i, e⟩
  · exact wpAny_pure ⟨_, ρ', σ', ι', q, r, i, e⟩
end Mine

section

namespace Mine
open PySem PySem.Calls PyProof.Rows PySem.SeqAt

/-- what is asked of a value, on the mini level -/
noncomputable def isSignC (c : Nat) : Bool := c == 10 || c == 9 || (decide (32 ≤ c) && decide (c ≤ 126) && c != 37)
noncomputable def isSignV : V → Bool
  | .str x => (match x.cps.toList with | [c] => isSignC c | _ => false)
  | _ => false
noncomputable def shortV : V → Prop
  | .str x => x.length < 2 ^ 62
  | .tup vs => vs.length < 2 ^ 62
  | _ => True
theorem sz (n : Nat) (h : Nat.ble n 1000 = true) : n ≤ sizeLine := Nat.le_trans (Nat.le_of_ble_eq_true h) (by decide)
theorem szo {n : Nat} (h : n ≤ 16777216) : n ≤ sizeLine := sizeLine_eq ▸ h
theorem len1 {α : Type} {l : List α} (h : l.length = 1) : ∃ a, l = [a] := by
  cases l with
  | nil => cases h
  | cons a r => cases r with
    | nil => exact ⟨a, rfl⟩
    | cons b r => cases h
theorem len2 {α : Type} {l : List α} (h : l.length = 2) : ∃ a b, l = [a, b] := by
  cases l with
  | nil => cases h
  | cons a r => obtain ⟨b, rfl⟩ := len1 (Nat.succ.inj h); exact ⟨a, b, rfl⟩
theorem len3 {α : Type} {l : List α} (h : l.length = 3) : ∃ a b c, l = [a, b, c] := by
  cases l with
  | nil => cases h
  | cons a r => obtain ⟨b, c, rfl⟩ := len2 (Nat.succ.inj h); exact ⟨a, b, c, rfl⟩
theorem str_one {x : Str} (h : x.length = 1) : ∃ c, x = ⟨#[c]⟩ := by
  obtain ⟨a⟩ := x
  have : a.size = 1 := h
  match hl : a.toList, (by rw [← Array.length_toList] at this; exact this : a.toList.length = 1) with
  | [c], _ => exact ⟨c, by congr 1; exact Array.toList_inj.mp (by rw [hl])⟩
theorem beq_ch {a b : Nat} : ((⟨#[a]⟩ : Str) == ⟨#[b]⟩) = (a == b) := by
  by_cases e : a = b
  · subst e; simp
  · have e2 : (⟨#[a]⟩ : Str) ≠ ⟨#[b]⟩ := fun q => e (by injection q with q; simpa using q)
    rw [beq_eq_false_iff_ne.mpr e2, beq_eq_false_iff_ne.mpr e]
theorem isSignV_one {c : Nat} : isSignV (.str ⟨#[c]⟩) = isSignC c := rfl
theorem isSignV_long {x : Str} (h : x.length ≠ 1) : isSignV (.str x) = false := by
  show (match x.cps.toList with | [c] => isSignC c | _ => false) = false
  split
  · rename_i c hc
    exact absurd (show x.cps.size = 1 by rw [← Array.length_toList, hc]; rfl) h
  · rfl
end Mine

set_option genSizeOf false
set_option genInjectivity false
namespace Mine
open PySem PySem.Calls PyProof.Rows PySem.SeqAt

/-- the parts of a grammar -/
inductive Pt where
  | sign (c : Nat)
  | span (a b : Nat)
  | any
  | rule (n : Str)
  | row (ps : List Pt)
  | alt (ps : List Pt)
  | many (p : Pt)
  | nt (p : Pt)

mutual
noncomputable def Pt.v : Pt → V
  | .sign c => .tup [.str "sign", .str ⟨#[c]⟩]
  | .span a b => .tup [.str "span", .str ⟨#[a]⟩, .str ⟨#[b]⟩]
  | .any => .tup [.str "any"]
  | .rule n => .tup [.str "rule", .str n]
  | .row ps => .tup [.str "row", .tup (Pt.vs ps)]
  | .alt ps => .tup [.str "or", .tup (Pt.vs ps)]
  | .many p => .tup [.str "many", p.v]
  | .nt p => .tup [.str "not", p.v]
noncomputable def Pt.vs : List Pt → List V
  | [] => []
  | p :: r => p.v :: Pt.vs r
end
theorem Pt.vs_map : ∀ ps : List Pt, Pt.vs ps = ps.map Pt.v
  | [] => by simp [Pt.vs]
  | p :: r => by simp [Pt.vs, Pt.vs_map r]

noncomputable def Pt.kids : Pt → List Pt
  | .row ps | .alt ps => ps
  | .many p | .nt p => [p]
  | _ => []
noncomputable def Pt.word : Pt → Str
  | .sign _ => "sign" | .span _ _ => "span" | .any => "any" | .rule _ => "rule" | .row _ => "row" | .alt _ => "or" | .many _ => "many" | .nt _ => "not"
mutual
noncomputable def Pt.deep : Pt → Nat
  | .row ps | .alt ps => Pt.deeps ps + 1
  | .many p | .nt p => p.deep + 1
  | _ => 1
noncomputable def Pt.deeps : List Pt → Nat
  | [] => 0
  | p :: r => max p.deep (Pt.deeps r)
end
mutual
noncomputable def Pt.size : Pt → Nat
  | .row ps | .alt ps => Pt.sizes ps + 1
  | .many p | .nt p => p.size + 1
  | _ => 1
noncomputable def Pt.sizes : List Pt → Nat
  | [] => 0
  | p :: r => p.size + Pt.sizes r
end
mutual
/-- good parts: what is_part takes -/
noncomputable def Pt.good : Pt → Bool
  | .sign c => isSignC c
  | .span a b => isSignC a && isSignC b && decide (a ≤ b)
  | .any => true
  | .rule _ => true
  | .row ps => Pt.goods ps
  | .alt ps => !ps.isEmpty && Pt.goods ps
  | .many p | .nt p => p.good
noncomputable def Pt.goods : List Pt → Bool
  | [] => true
  | p :: r => p.good && Pt.goods r
end
end Mine

namespace Mine
open PySem PySem.Calls PyProof.Rows PySem.SeqAt

section
variable {σ r : Hp} {a b a' : MObj}
theorem get0 : (σ ++ a :: r)[σ.length]? = some a := by simp
theorem set0 : (σ ++ a :: r).set σ.length a' = σ ++ a' :: r := by simp
theorem get1 : (σ ++ a :: b :: r)[σ.length + 1]? = some b := by
  rw [List.getElem?_append_right (by omega)]; simp
theorem set1 : (σ ++ a :: b :: r).set (σ.length + 1) a' = σ ++ a :: a' :: r := by
  rw [List.set_append_right _ _ (by omega)]; simp
end

/-- the rules that a part asks -/
inductive Pt.Asks : Pt → Str → Prop where
  | here {n : Str} : Pt.Asks (.rule n) n
  | deep {p q : Pt} {n : Str} : q ∈ p.kids → Pt.Asks q n → Pt.Asks p n

theorem Pt.size_pos (p : Pt) : 1 ≤ p.size := by cases p <;> simp [Pt.size]
theorem Pt.sizes_append : ∀ a b : List Pt, Pt.sizes (a ++ b) = Pt.sizes a + Pt.sizes b
  | [], b => by simp [Pt.sizes]
  | p :: r, b => by simp [Pt.sizes, Pt.sizes_append r b]; omega
theorem Pt.kids_size (p : Pt) : Pt.sizes p.kids + 1 ≤ p.size := by
  cases p <;> simp [Pt.kids, Pt.size, Pt.sizes]
theorem Pt.deep_pos (p : Pt) : 1 ≤ p.deep := by cases p <;> simp [Pt.deep]
theorem Pt.deeps_mem {ps : List Pt} {p : Pt} (h : p ∈ ps) : p.deep ≤ Pt.deeps ps := by
  induction ps with
  | nil => cases h
  | cons a r ih =>
    rw [Pt.deeps]
    rcases List.mem_cons.mp h with rfl | h
    · exact Nat.le_max_left ..
    · exact Nat.le_trans (ih h) (Nat.le_max_right ..)
theorem Pt.goods_mem {ps : List Pt} {p : Pt} (hg : Pt.goods ps = true) (h : p ∈ ps) : p.good = true := by
  induction ps with
  | nil => cases h
  | cons a r ih =>
    rw [Pt.goods, Bool.and_eq_true] at hg
    rcases List.mem_cons.mp h with rfl | h
    · exact hg.1
    · exact ih hg.2 h
theorem Pt.kids_deep {p q : Pt} (h : q ∈ p.kids) : q.deep + 1 ≤ p.deep := by
  cases p <;> simp only [Pt.kids, List.not_mem_nil, List.mem_singleton] at h
  · rw [Pt.deep]; exact Nat.succ_le_succ (Pt.deeps_mem h)
  · rw [Pt.deep]; exact Nat.succ_le_succ (Pt.deeps_mem h)
  · subst h; rw [Pt.deep]; exact Nat.le_refl _
  · subst h; rw [Pt.deep]; exact Nat.le_refl _

/-- no row or choice of more parts than this -/
noncomputable def Pt.few : Pt → Prop := fun p => p.kids.length < 1000

inductive Pt.All (P : Pt → Prop) : Pt → Prop where
  | mk {p : Pt} : P p → (∀ q ∈ p.kids, Pt.All P q) → Pt.All P p

noncomputable def Pt.rest : Pt → List V
  | .sign c => [.str ⟨#[c]⟩] | .span a b => [.str ⟨#[a]⟩, .str ⟨#[b]⟩] | .any => [] | .rule n => [.str n] | .row ps => [.tup (Pt.vs ps)] | .alt ps => [.tup (Pt.vs ps)] | .many p => [p.v] | .nt p => [p.v]
theorem Pt.head (p : Pt) : p.v = .tup (.str p.word :: p.rest) := by
  cases p <;> simp only [Pt.v, Pt.word, Pt.rest]
theorem Pt.word_rule {p : Pt} (h : p.word = "rule") : ∃ n, p = .rule n := by
  cases p <;> first | exact ⟨_, rfl⟩ | (have h' := h; simp only [Pt.word] at h'; exact absurd h' (by decide +kernel))

noncomputable def isLetter (c : Nat) : Bool := decide (97 ≤ c) && decide (c ≤ 122)

noncomputable def isName (x : Str) : Bool := decide (1 ≤ x.length) && decide (x.length ≤ 12) && x.cps.toList.all isLetter

noncomputable abbrev ruleV (r : Str × Pt) : V := .tup [.str r.1, r.2.v]
structure GoodRule (names : List Str) (r : Str × Pt) : Prop where
  name : isName r.1 = true
  good : r.2.good = true
  deep : r.2.deep ≤ 12
  few : Pt.All Pt.few r.2
  size : r.2.size < 100000
  asks : ∀ n, r.2.Asks n → n ∈ names
structure GoodRules (rs : List (Str × Pt)) : Prop where
  one : 1 ≤ rs.length
  most : rs.length ≤ 40
  nodup : (rs.map (·.1)).Nodup
  all : ∀ r ∈ rs, GoodRule (rs.map (·.1)) r
noncomputable def metKV (ns : List Str) : List (Str × V) := ns.map fun n => (n, .bool true)
theorem metKV_any {ns : List Str} {n : Str} : ((metKV ns).any fun kv => decide (kv.1 = n)) = decide (n ∈ ns) := by
  rw [Bool.eq_iff_iff]; simp [metKV]
theorem metKV_set {ns : List Str} {n : Str} (h : n ∉ ns) : setKV (metKV ns) n (.bool true) = metKV (ns ++ [n]) := by
  unfold setKV; rw [metKV_any, if_neg (by simpa using h)]; simp [metKV]

theorem nodup_take {α : Type} {rs : List α} {f : α → Str} {i : Nat} {r : α} (h : (rs.map f).Nodup) (hr : rs[i]? = some r) : f r ∉ (rs.take i).map f := fun hmem => by
  obtain ⟨r', hr', e⟩ := List.mem_map.mp hmem
  obtain ⟨j, hj, e2⟩ := List.getElem_of_mem hr'
  simp only [List.length_take] at hj
  rw [List.getElem_take] at e2
  obtain ⟨hi1, hi2⟩ := List.getElem?_eq_some_iff.mp hr
  have := List.pairwise_iff_getElem.mp h j i (by simp; (clear hi1 hi2 hr e2; omega)) (by simpa using hi1) (by (clear hi1 hi2 hr e2; omega))
  simp [e2, hi2, e] at this
theorem take_next {α : Type} {rs : List α} {i : Nat} {r : α} (hr : rs[i]? = some r) : rs.take (i + 1) = rs.take i ++ [r] := by
  rw [List.take_add_one, hr]; rfl

end Mine

namespace Mine
open PySem PySem.Calls PyProof.Rows PySem.SeqAt
mutual
noncomputable def Pt.may (B : Str → Bool) : Pt → Bool
  | .many _ | .nt _ => true
  | .rule n => B n
  | .row ps => Pt.mayAll B ps
  | .alt ps => Pt.mayAny B ps
  | _ => false
noncomputable def Pt.mayAll (B : Str → Bool) : List Pt → Bool
  | [] => true
  | p :: r => p.may B && Pt.mayAll B r
noncomputable def Pt.mayAny (B : Str → Bool) : List Pt → Bool
  | [] => false
  | p :: r => p.may B || Pt.mayAny B r
end
theorem Pt.mayAll_eq (B : Str → Bool) : ∀ ps, Pt.mayAll B ps = ps.all (Pt.may B)
  | [] => by simp [Pt.mayAll]
  | p :: r => by simp [Pt.mayAll, Pt.mayAll_eq B r]
theorem Pt.mayAny_eq (B : Str → Bool) : ∀ ps, Pt.mayAny B ps = ps.any (Pt.may B)
  | [] => by simp [Pt.mayAny]
  | p :: r => by simp [Pt.mayAny, Pt.mayAny_eq B r]

mutual
theorem Pt.may_mono {B C : Str → Bool} (h : ∀ x, B x = true → C x = true) : ∀ p : Pt, p.may B = true → p.may C = true
  | .sign _, q | .span _ _, q | .any, q => by simp [Pt.may] at q
  | .rule n, q => by simp only [Pt.may] at q ⊢; exact h n q
  | .row ps, q => by simp only [Pt.may] at q ⊢; exact Pt.mayAll_mono h ps q
  | .alt ps, q => by simp only [Pt.may] at q ⊢; exact Pt.mayAny_mono h ps q
  | .many _, _ | .nt _, _ => by simp [Pt.may]
theorem Pt.mayAll_mono {B C : Str → Bool} (h : ∀ x, B x = true → C x = true) : ∀ ps : List Pt, Pt.mayAll B ps = true → Pt.mayAll C ps = true
  | [], _ => by simp [Pt.mayAll]
  | p :: r, q => by
    simp only [Pt.mayAll, Bool.and_eq_true] at q ⊢
    exact ⟨Pt.may_mono h p q.1, Pt.mayAll_mono h r q.2⟩
theorem Pt.mayAny_mono {B C : Str → Bool} (h : ∀ x, B x = true → C x = true) : ∀ ps : List Pt, Pt.mayAny B ps = true → Pt.mayAny C ps = true
  | [], q => by simp [Pt.mayAny] at q
  | p :: r, q => by
    simp only [Pt.mayAny, Bool.or_eq_true] at q ⊢
    rcases q with q | q
    · exact .inl (Pt.may_mono h p q)
    · exact .inr (Pt.mayAny_mono h r q)
end

noncomputable def inB (bs : List Str) : Str → Bool := fun x => decide (x ∈ bs)
theorem inB_iff {bs : List Str} {x : Str} : inB bs x = true ↔ x ∈ bs := by simp [inB]


/-- what the bare rules of a grammar are: closed, and under each closed set -/
structure Bare (rs : List (Str × Pt)) (bs : List Str) : Prop where
  sub : ∀ x ∈ bs, x ∈ rs.map (·.1)
  closed : ∀ r ∈ rs, r.2.may (inB bs) = true → r.1 ∈ bs
  least : ∀ S : Str → Bool, (∀ r ∈ rs, r.2.may S = true → S r.1 = true) → ∀ x ∈ bs, S x = true

section
variable {rs : List (Str × Pt)}
end
end Mine

namespace Mine
open PySem PySem.Calls PyProof.Rows PySem.SeqAt
mutual
noncomputable def Pt.ahd (B : Str → Bool) : Pt → List Str
  | .rule n => [n]
  | .row ps => Pt.ahdRow B ps
  | .alt ps => Pt.ahdAlt B ps
  | .many p | .nt p => p.ahd B
  | _ => []
noncomputable def Pt.ahdRow (B : Str → Bool) : List Pt → List Str
  | [] => []
  | p :: r => p.ahd B ++ if p.may B then Pt.ahdRow B r else []
noncomputable def Pt.ahdAlt (B : Str → Bool) : List Pt → List Str
  | [] => []
  | p :: r => p.ahd B ++ Pt.ahdAlt B r
end
mutual
theorem Pt.ahd_size (B : Str → Bool) : ∀ p : Pt, (p.ahd B).length ≤ p.size
  | .sign _ | .span _ _ | .any | .rule _ => by simp [Pt.ahd, Pt.size]
  | .row ps => by have := Pt.ahdRow_size B ps; simp only [Pt.ahd, Pt.size]; omega
  | .alt ps => by have := Pt.ahdAlt_size B ps; simp only [Pt.ahd, Pt.size]; omega
  | .many p | .nt p => by have := Pt.ahd_size B p; simp only [Pt.ahd, Pt.size]; omega
theorem Pt.ahdRow_size (B : Str → Bool) : ∀ ps : List Pt, (Pt.ahdRow B ps).length ≤ Pt.sizes ps
  | [] => by simp [Pt.ahdRow]
  | p :: r => by
    have h1 := Pt.ahd_size B p
    have h2 := Pt.ahdRow_size B r
    simp only [Pt.ahdRow, Pt.sizes, List.length_append]
    split
    · omega
    · simp; (clear h2; omega)
theorem Pt.ahdAlt_size (B : Str → Bool) : ∀ ps : List Pt, (Pt.ahdAlt B ps).length ≤ Pt.sizes ps
  | [] => by simp [Pt.ahdAlt]
  | p :: r => by
    have h1 := Pt.ahd_size B p
    have h2 := Pt.ahdAlt_size B r
    simp only [Pt.ahdAlt, Pt.sizes, List.length_append]; omega
end

mutual
noncomputable def Pt.ok (P : Str → Prop) : Pt → Prop
  | .sign c => isSignC c = true
  | .span a b => isSignC a = true ∧ isSignC b = true ∧ a ≤ b
  | .any => True
  | .rule n => P n
  | .row ps => ps.length < 1000 ∧ Pt.oks P ps
  | .alt ps => ps ≠ [] ∧ ps.length < 1000 ∧ Pt.oks P ps
  | .many p | .nt p => p.ok P
noncomputable def Pt.oks (P : Str → Prop) : List Pt → Prop
  | [] => True
  | p :: r => p.ok P ∧ Pt.oks P r
end
theorem Pt.oks_mem {P : Str → Prop} {ps : List Pt} (h : Pt.oks P ps) : ∀ q ∈ ps, q.ok P := by
  induction ps with
  | nil => intro q hq; cases hq
  | cons a r ih =>
    intro q hq
    rw [Pt.oks] at h
    rcases List.mem_cons.mp hq with rfl | hq
    · exact h.1
    · exact ih h.2 q hq
theorem Pt.ok_kids {P : Str → Prop} {p : Pt} (h : p.ok P) : ∀ q ∈ p.kids, q.ok P := by
  intro q hq
  cases p <;> simp only [Pt.kids, List.not_mem_nil, List.mem_singleton] at hq
  · rw [Pt.ok] at h; exact Pt.oks_mem h.2 q hq
  · rw [Pt.ok] at h; exact Pt.oks_mem h.2.2 q hq
  · subst hq; rw [Pt.ok] at h; exact h
  · subst hq; rw [Pt.ok] at h; exact h
mutual
theorem Pt.ok_good {P : Str → Prop} : ∀ p : Pt, p.ok P → p.good = true
  | .sign c, h => by simpa only [Pt.ok, Pt.good] using h
  | .span a b, h => by simp only [Pt.ok] at h; simp [Pt.good, h]
  | .any, _ | .rule _, _ => by simp [Pt.good]
  | .row ps, h => by simp only [Pt.ok] at h; simp only [Pt.good]; exact Pt.oks_good ps h.2
  | .alt ps, h => by simp only [Pt.ok] at h; simp only [Pt.good, Bool.and_eq_true]; exact ⟨by simpa using h.1, Pt.oks_good ps h.2.2⟩
  | .many p, h | .nt p, h => by simp only [Pt.ok] at h; simp only [Pt.good]; exact Pt.ok_good p h
theorem Pt.oks_good {P : Str → Prop} : ∀ ps : List Pt, Pt.oks P ps → Pt.goods ps = true
  | [], _ => by simp [Pt.goods]
  | p :: r, h => by simp only [Pt.oks] at h; simp only [Pt.goods, Bool.and_eq_true]; exact ⟨Pt.ok_good p h.1, Pt.oks_good r h.2⟩
end
theorem Pt.ok_few {P : Str → Prop} : ∀ (n : Nat) (p : Pt), p.deep ≤ n → p.ok P → Pt.All Pt.few p
  | 0, p, hn, _ => absurd (Pt.deep_pos p) (by omega)
  | n + 1, p, hn, h => ⟨by
      show p.kids.length < 1000
      cases p <;> simp only [Pt.kids, List.length_nil, List.length_singleton] <;> first | (clear hn; omega) | (simp only [Pt.ok] at h; first | exact h.1 | exact h.2.1),
    fun q hq => Pt.ok_few n q (by have := Pt.kids_deep hq; omega) (Pt.ok_kids h q hq)⟩

/-- one rule leads to another; by some steps -/
noncomputable def Lead (rs : List (Str × Pt)) (B : Str → Bool) (x y : Str) : Prop := ∃ r ∈ rs, r.1 = x ∧ y ∈ r.2.ahd B
inductive Rch (rs : List (Str × Pt)) (B : Str → Bool) (x : Str) : Str → Prop where
  | one {y : Str} : Lead rs B x y → Rch rs B x y
  | more {y z : Str} : Rch rs B x y → Lead rs B y z → Rch rs B x z

theorem name_at {rs : List (Str × Pt)} (hn : (rs.map (·.1)).Nodup) {i j : Nat} {r r' : Str × Pt} (h : rs[i]? = some r) (h' : rs[j]? = some r') (e : r.1 = r'.1) : i = j := by
  obtain ⟨h1, rfl⟩ := List.getElem?_eq_some_iff.mp h
  obtain ⟨h2, rfl⟩ := List.getElem?_eq_some_iff.mp h'
  rcases Nat.lt_trichotomy i j with g | g | g
  · have := List.pairwise_iff_getElem.mp hn i j (by simpa using h1) (by simpa using h2) g
    simp [e] at this
  · exact g
  · have := List.pairwise_iff_getElem.mp hn j i (by simpa using h2) (by simpa using h1) g
    simp [e] at this
end Mine

namespace Mine
open PySem PySem.Calls PyProof.Rows PySem.SeqAt


section
variable {n m k : Nat} {p : Pt} {ps : List Pt}
end

section
variable {P : Str → Prop} {n s : Nat} {p a b : Pt}
end

set_option linter.unusedSimpArgs false in

/-! the names -/
noncomputable def shortBy (k : Nat) : List Nat := [97 + k % 26, 97 + k / 26]
theorem shortBy_inj {k k' : Nat} (h : shortBy k = shortBy k') : k = k' := by
  simp [shortBy] at h; omega
end Mine

namespace Mine
open PySem PySem.Calls PyProof.Rows PySem.SeqAt
/-! the words of parts, and heaps that grow -/
section
variable {p : Pt} {B : Str → Bool}
/-- the rules ahead, over the kids -/
noncomputable def ahdK (B : Str → Bool) (row : Bool) : List Pt → List Str
  | [] => []
  | p :: r => p.ahd B ++ if row && !p.may B then [] else ahdK B row r
theorem ahdK_row : ∀ ps : List Pt, Pt.ahdRow B ps = ahdK B true ps
  | [] => by simp [Pt.ahdRow, ahdK]
  | p :: r => by
    rw [Pt.ahdRow, ahdK, ahdK_row r]
    cases p.may B <;> simp
theorem ahdK_alt : ∀ ps : List Pt, Pt.ahdAlt B ps = ahdK B false ps
  | [] => by simp [Pt.ahdAlt, ahdK]
  | p :: r => by rw [Pt.ahdAlt, ahdK, ahdK_alt r]; simp
theorem Pt.ahd_kids (h : p.word ≠ "rule") : p.ahd B = ahdK B (p.word == "row") p.kids := by
  have e1 : ((Str.ofString "row" : Str) == "row") = true := by decide +kernel
  have e2 : ((Str.ofString "or" : Str) == "row") = false := by decide +kernel
  have e3 : ((Str.ofString "many" : Str) == "row") = false := by decide +kernel
  have e4 : ((Str.ofString "not" : Str) == "row") = false := by decide +kernel
  cases p with
  | rule n => exact absurd rfl h
  | row ps => simp only [Pt.ahd, Pt.kids, Pt.word, e1, ahdK_row]
  | alt ps => simp only [Pt.ahd, Pt.kids, Pt.word, e2, ahdK_alt]
  | many q => simp only [Pt.ahd, Pt.kids, Pt.word, e3, ahdK]; simp
  | nt q => simp only [Pt.ahd, Pt.kids, Pt.word, e4, ahdK]; simp
  | sign _ => simp only [Pt.ahd, Pt.kids, ahdK]
  | span _ _ => simp only [Pt.ahd, Pt.kids, ahdK]
  | any => simp only [Pt.ahd, Pt.kids, ahdK]
end
theorem allB_map {α : Type} (f : α → Bool) : ∀ l : List α, allB (l.map fun k => V.bool (f k)) = some (l.map f)
  | [] => rfl
  | a :: r => by simp [allB, allB_map f r]
theorem Pt.size_mem {p q : Pt} (h : q ∈ p.kids) : q.size < p.size := by
  have h1 := Pt.kids_size p
  have : ∀ ps : List Pt, q ∈ ps → q.size ≤ Pt.sizes ps := by
    intro ps
    induction ps with
    | nil => intro h; cases h
    | cons a r ih =>
      intro h
      rw [Pt.sizes]
      rcases List.mem_cons.mp h with rfl | h
      · (clear h1 ih; omega)
      · have := ih h; (clear ih h1; omega)
  have := this _ h
  omega
noncomputable def hasK (kvs : List (Str × V)) (x : Str) : Bool := kvs.any fun kv => decide (kv.1 = x)
theorem hasK_met {bs : List Str} : hasK (metKV bs) = inB bs := by
  funext x; exact metKV_any

section
variable {σ : Hp} {a b : Nat} {o o' : MObj} {junk : Hp}
theorem get_up (h : σ[a]? = some o) : (σ ++ junk)[a]? = some o := by
  rw [List.getElem?_append_left (List.getElem?_eq_some_iff.mp h).1]; exact h
theorem get_lt (h : σ[a]? = some o) : a < σ.length := (List.getElem?_eq_some_iff.mp h).1
theorem get_set (h : σ[a]? = some o) : (σ.set a o')[a]? = some o' := by
  rw [List.getElem?_set_self (get_lt h)]
theorem get_set_ne (hn : b ≠ a) : (σ.set b o')[a]? = σ[a]? := List.getElem?_set_ne hn
theorem get_new : (σ ++ [o])[σ.length]? = some o := by simp
theorem set_up (h : σ.length ≤ a) : ∃ jk, (σ ++ junk).set a o = σ ++ jk := ⟨_, List.set_append_right _ _ h⟩
end
end Mine

namespace Mine
open PySem PySem.Calls PyProof.Rows PySem.SeqAt
mutual
theorem Pt.ahd_asks {B : Str → Bool} {n : Str} : ∀ p : Pt, n ∈ p.ahd B → p.Asks n
  | .sign _, h | .span _ _, h | .any, h => by simp [Pt.ahd] at h
  | .rule m, h => by simp only [Pt.ahd, List.mem_singleton] at h; subst h; exact .here
  | .row ps, h => by
    simp only [Pt.ahd] at h
    obtain ⟨q, hq, ha⟩ := Pt.ahdRow_asks ps h
    exact .deep (p := .row ps) hq ha
  | .alt ps, h => by
    simp only [Pt.ahd] at h
    obtain ⟨q, hq, ha⟩ := Pt.ahdAlt_asks ps h
    exact .deep (p := .alt ps) hq ha
  | .many p, h => by simp only [Pt.ahd] at h; exact .deep (p := .many p) (List.mem_singleton.mpr rfl) (Pt.ahd_asks p h)
  | .nt p, h => by simp only [Pt.ahd] at h; exact .deep (p := .nt p) (List.mem_singleton.mpr rfl) (Pt.ahd_asks p h)
theorem Pt.ahdRow_asks {B : Str → Bool} {n : Str} : ∀ ps : List Pt, n ∈ Pt.ahdRow B ps → ∃ q ∈ ps, q.Asks n
  | [], h => by simp [Pt.ahdRow] at h
  | p :: r, h => by
    simp only [Pt.ahdRow, List.mem_append] at h
    rcases h with h | h
    · exact ⟨p, by simp, Pt.ahd_asks p h⟩
    · split at h
      · obtain ⟨q, hq, ha⟩ := Pt.ahdRow_asks r h
        exact ⟨q, List.mem_cons_of_mem _ hq, ha⟩
      · cases h
theorem Pt.ahdAlt_asks {B : Str → Bool} {n : Str} : ∀ ps : List Pt, n ∈ Pt.ahdAlt B ps → ∃ q ∈ ps, q.Asks n
  | [], h => by simp [Pt.ahdAlt] at h
  | p :: r, h => by
    simp only [Pt.ahdAlt, List.mem_append] at h
    rcases h with h | h
    · exact ⟨p, by simp, Pt.ahd_asks p h⟩
    · obtain ⟨q, hq, ha⟩ := Pt.ahdAlt_asks r h
      exact ⟨q, List.mem_cons_of_mem _ hq, ha⟩
end

noncomputable def getKV (kvs : List (Str × V)) (x : Str) : Option V := (kvs.find? fun kv => decide (kv.1 = x)).map (·.2)
theorem getKV_lookup : ∀ (kvs : List (Str × V)) (x : Str), getKV kvs x = kvs.lookup x
  | [], _ => rfl
  | (k, v) :: r, x => by
    unfold getKV
    rw [List.find?_cons, List.lookup_cons]
    by_cases e : k = x
    · subst e; simp
    · have e2 : ¬ x = k := fun q => e q.symm
      simp only [e, decide_false, beq_eq_false_iff_ne.mpr e2]
      exact getKV_lookup r x
theorem getKV_set (kvs : List (Str × V)) (k x : Str) (v : V) : getKV (setKV kvs k v) x = if x = k then some v else getKV kvs x := by
  rw [getKV_lookup, getKV_lookup, setKV_lookup]

noncomputable def tabKV (rs : List (Str × Pt)) : List (Str × V) := rs.map fun r => (r.1, r.2.v)
theorem tabKV_any {rs : List (Str × Pt)} {n : Str} : ((tabKV rs).any fun kv => decide (kv.1 = n)) = decide (n ∈ rs.map (·.1)) := by
  rw [Bool.eq_iff_iff]; simp [tabKV]
theorem tabKV_set {rs : List (Str × Pt)} {r : Str × Pt} (h : r.1 ∉ rs.map (·.1)) : setKV (tabKV rs) r.1 r.2.v = tabKV (rs ++ [r]) := by
  unfold setKV; rw [tabKV_any, if_neg (by simpa using h)]; simp [tabKV]

/-- the lists that the rules lead to, in the heap, behind lo -/
noncomputable def LeadsAt (rs : List (Str × Pt)) (B : Str → Bool) (kl : List (Str × V)) (lo : Nat) (σ : Hp) : Prop := ∀ r ∈ rs, ∃ j, lo < j ∧ getKV kl r.1 = some (.ref j) ∧ σ[j]? = some (.list ((r.2.ahd B).map V.str))
theorem LeadsAt.up {rs : List (Str × Pt)} {B : Str → Bool} {kl : List (Str × V)} {lo : Nat} {σ junk : Hp} (h : LeadsAt rs B kl lo σ) : LeadsAt rs B kl lo (σ ++ junk) := fun r hr => by
  obtain ⟨j, h0, h1, h2⟩ := h r hr
  exact ⟨j, h0, h1, get_up h2⟩
/-- a grammar in the heap -/
inductive GrAt (rs : List (Str × Pt)) (bs : List Str) (g : Nat) (σ : Hp) : Prop where
  | mk (a b c e : Nat) (kl : List (Str × V)) (h0 : g < a) (h1 : a < b) (h2 : b < c) (h3 : c < e) (h4 : σ[g]? = some (.inst "Grammar" [("pairs", .ref a), ("table", .ref b), ("bare", .ref c), ("leads", .ref e)])) (h5 : σ[a]? = some (.list (rs.map ruleV))) (h6 : σ[b]? = some (.sdict (tabKV rs))) (h7 : σ[c]? = some (.sdict (metKV bs))) (h8 : σ[e]? = some (.sdict kl)) (h9 : LeadsAt rs (inB bs) kl g σ) : GrAt rs bs g σ
theorem GrAt.up {rs : List (Str × Pt)} {bs : List Str} {g : Nat} {σ junk : Hp} (h : GrAt rs bs g σ) : GrAt rs bs g (σ ++ junk) := by
  obtain ⟨a, b, c, e, kl, h1, h2, h3, h4, h5, h6, h7, h8, h9, h10⟩ := h
  exact ⟨a, b, c, e, kl, h1, h2, h3, h4, get_up h5, get_up h6, get_up h7, get_up h8, get_up h9, h10.up⟩

/-- the reach of a rule, as the search finds it -/
structure Seek (rs : List (Str × Pt)) (B : Str → Bool) (x : Str) (ms ws : List Str) : Prop where
  nodup : ms.Nodup
  mr : ∀ y ∈ ms, Rch rs B x y
  wr : ∀ y ∈ ws, Rch rs B x y
  x0 : ∀ y, Lead rs B x y → y ∈ ms ∨ y ∈ ws
  cl : ∀ y ∈ ms, ∀ z, Lead rs B y z → z ∈ ms ∨ z ∈ ws
theorem Seek.end {rs : List (Str × Pt)} {B : Str → Bool} {x : Str} {ms : List Str} (h : Seek rs B x ms []) : decide (x ∈ ms) = true ↔ Rch rs B x x := by
  rw [decide_eq_true_iff]
  refine ⟨h.mr x, fun hr => ?_⟩
  have : ∀ y, Rch rs B x y → y ∈ ms := by
    intro y hy
    induction hy with
    | one h1 => exact (h.x0 _ h1).resolve_right (by simp)
    | more _ h1 ih => exact (h.cl _ ih _ h1).resolve_right (by simp)
  exact this x hr
theorem Seek.old {rs : List (Str × Pt)} {B : Str → Bool} {x y : Str} {ms ws : List Str} (h : Seek rs B x ms (ws ++ [y])) (hy : y ∈ ms) : Seek rs B x ms ws where
  nodup := h.nodup
  mr := h.mr
  wr := fun z hz => h.wr z (List.mem_append_left _ hz)
  x0 := fun z hz => by
    rcases h.x0 z hz with g | g
    · exact .inl g
    · rcases List.mem_append.mp g with g | g
      · exact .inr g
      · cases List.mem_singleton.mp g; exact .inl hy
  cl := fun a ha z hz => by
    rcases h.cl a ha z hz with g | g
    · exact .inl g
    · rcases List.mem_append.mp g with g | g
      · exact .inr g
      · cases List.mem_singleton.mp g; exact .inl hy
theorem Lead.uniq {rs : List (Str × Pt)} {B : Str → Bool} (hn : (rs.map (·.1)).Nodup) {r : Str × Pt} (hr : r ∈ rs) {z : Str} (h : Lead rs B r.1 z) : z ∈ r.2.ahd B := by
  obtain ⟨r', hr', e, hz⟩ := h
  obtain ⟨i, hi⟩ := List.mem_iff_getElem?.mp hr
  obtain ⟨j, hj⟩ := List.mem_iff_getElem?.mp hr'
  have := name_at hn hi hj e.symm
  subst this
  rw [hi] at hj; cases hj; exact hz
theorem Seek.new {rs : List (Str × Pt)} {B : Str → Bool} {x : Str} {ms ws : List Str} {r : Str × Pt} (hn : (rs.map (·.1)).Nodup) (hr : r ∈ rs) (h : Seek rs B x ms (ws ++ [r.1])) (hy : r.1 ∉ ms) : Seek rs B x (ms ++ [r.1]) (ws ++ r.2.ahd B) where
  nodup := by
    rw [List.nodup_append]
    exact ⟨h.nodup, by simp, fun a ha b hb => by cases List.mem_singleton.mp hb; exact fun e => hy (e ▸ ha)⟩
  mr := fun z hz => by
    rcases List.mem_append.mp hz with g | g
    · exact h.mr z g
    · cases List.mem_singleton.mp g; exact h.wr _ (by simp)
  wr := fun z hz => by
    rcases List.mem_append.mp hz with g | g
    · exact h.wr z (List.mem_append_left _ g)
    · exact .more (h.wr r.1 (by simp)) ⟨r, hr, rfl, g⟩
  x0 := fun z hz => by
    rcases h.x0 z hz with g | g
    · exact .inl (List.mem_append_left _ g)
    · rcases List.mem_append.mp g with g | g
      · exact .inr (List.mem_append_left _ g)
      · exact .inl (List.mem_append_right _ g)
  cl := fun a ha z hz => by
    rcases List.mem_append.mp ha with g | g
    · rcases h.cl a g z hz with g | g
      · exact .inl (List.mem_append_left _ g)
      · rcases List.mem_append.mp g with g | g
        · exact .inr (List.mem_append_left _ g)
        · exact .inl (List.mem_append_right _ g)
    · cases List.mem_singleton.mp g
      exact .inr (List.mem_append_right _ (Lead.uniq hn hr hz))
theorem Rch.last {rs : List (Str × Pt)} {B : Str → Bool} {x y : Str} (h : Rch rs B x y) : ∃ r ∈ rs, y ∈ r.2.ahd B := by
  cases h with
  | one h => obtain ⟨r, h1, _, h2⟩ := h; exact ⟨r, h1, h2⟩
  | more _ h => obtain ⟨r, h1, _, h2⟩ := h; exact ⟨r, h1, h2⟩
theorem GoodRules.lead {rs : List (Str × Pt)} (hg : GoodRules rs) {B : Str → Bool} {x y : Str} (h : Rch rs B x y) : ∃ r ∈ rs, r.1 = y := by
  obtain ⟨r, h1, h2⟩ := h.last
  have := (hg.all r h1).asks y (Pt.ahd_asks _ h2)
  obtain ⟨r', h3, h4⟩ := List.mem_map.mp this
  exact ⟨r', h3, h4⟩
theorem len_sub {ms ns : List Str} (h : ms.Nodup) (hs : ∀ x ∈ ms, x ∈ ns) : ms.length ≤ ns.length := by
  induction ms generalizing ns with
  | nil => simp
  | cons a r ih =>
    rw [List.nodup_cons] at h
    have ha := hs a (by simp)
    have := ih (ns := ns.erase a) h.2 fun x hx => by
      have hne : x ≠ a := fun e => h.1 (e ▸ hx)
      exact (List.mem_erase_of_ne hne).mpr (hs x (List.mem_cons_of_mem _ hx))
    rw [List.length_erase_of_mem ha] at this
    have := List.length_pos_of_mem ha
    simp only [List.length_cons]
    (clear ih; omega)
end Mine

namespace Mine
open PySem PySem.Calls PyProof.Rows PySem.SeqAt
/-- while a grammar is made: its object at the heap's end so far -/
structure Mk (σ : Hp) (l : Nat) (fs : List (Str × V)) (ρ' : Loc) (σ' : Hp) : Prop where
  self : ρ' "self" = some (.ref σ.length)
  ru : ρ' "rules" = some (.ref l)
  pre : ∃ junk, σ' = σ ++ junk
  obj : σ'[σ.length]? = some (.inst "Grammar" fs)
section
variable {σ σ' : Hp} {l : Nat} {fs fs' : List (Str × V)} {ρ' : Loc} {o o' : MObj} {a : Nat}
theorem Mk.up {jk : Hp} (h : Mk σ l fs ρ' σ') : Mk σ l fs ρ' (σ' ++ jk) := by
  obtain ⟨h1, h2, ⟨junk, rfl⟩, h4⟩ := h
  exact ⟨h1, h2, ⟨junk ++ jk, by rw [List.append_assoc]⟩, get_up h4⟩
theorem Mk.put (h : Mk σ l fs ρ' σ') (ha : σ.length < a) : Mk σ l fs ρ' (σ'.set a o) := by
  obtain ⟨h1, h2, ⟨junk, rfl⟩, h4⟩ := h
  exact ⟨h1, h2, set_up (by (clear h4; omega)), by rw [get_set_ne (by (clear h4; omega))]; exact h4⟩
theorem Mk.field (h : Mk σ l fs ρ' σ') : Mk σ l fs' ρ' ((σ' ++ [o]).set σ.length (.inst "Grammar" fs')) ∧ ((σ' ++ [o]).set σ.length (.inst "Grammar" fs'))[σ'.length]? = some o ∧ σ.length < σ'.length ∧ ∀ a o', a ≠ σ.length → σ'[a]? = some o' → ((σ' ++ [o]).set σ.length (.inst "Grammar" fs'))[a]? = some o' := by
  obtain ⟨h1, h2, ⟨junk, rfl⟩, h4⟩ := h
  have hlt := get_lt h4
  refine ⟨⟨h1, h2, ?_, get_set (get_up h4)⟩, ?_, hlt, fun a o' hn e => ?_⟩
  · rw [List.append_assoc]; exact set_up (Nat.le_refl _)
  · rw [get_set_ne (by (clear h4; omega))]; exact get_new
  · rw [get_set_ne (Ne.symm hn)]; exact get_up e
theorem Mk.rules {rs : List (Str × Pt)} (h : Mk σ l fs ρ' σ') (hl : σ[l]? = some (.list (rs.map ruleV))) : σ'[l]? = some (.list (rs.map ruleV)) := by
  obtain ⟨h1, h2, ⟨junk, rfl⟩, h4⟩ := h
  exact get_up hl
end
/-- the bare rules, while they grow -/
structure Grow (rs : List (Str × Pt)) (bs : List Str) : Prop where
  nodup : bs.Nodup
  sub : ∀ x ∈ bs, x ∈ rs.map (·.1)
  least : ∀ S : Str → Bool, (∀ r ∈ rs, r.2.may S = true → S r.1 = true) → ∀ x ∈ bs, S x = true
theorem Grow.nil (rs : List (Str × Pt)) : Grow rs [] := ⟨by simp, by simp, fun _ _ _ h => by cases h⟩
theorem Grow.len {rs : List (Str × Pt)} {bs : List Str} (h : Grow rs bs) : bs.length ≤ rs.length := by
  simpa using len_sub h.nodup h.sub
theorem Grow.add {rs : List (Str × Pt)} {bs : List Str} {r : Str × Pt} (h : Grow rs bs) (hr : r ∈ rs) (hn : r.1 ∉ bs) (hm : r.2.may (inB bs) = true) : Grow rs (bs ++ [r.1]) where
  nodup := by
    rw [List.nodup_append]
    exact ⟨h.nodup, by simp, fun a ha b hb => by cases List.mem_singleton.mp hb; exact fun e => hn (e ▸ ha)⟩
  sub := fun x hx => by
    rcases List.mem_append.mp hx with g | g
    · exact h.sub x g
    · cases List.mem_singleton.mp g; exact List.mem_map.mpr ⟨r, hr, rfl⟩
  least := fun S hS x hx => by
    rcases List.mem_append.mp hx with g | g
    · exact h.least S hS x g
    · cases List.mem_singleton.mp g
      exact hS r hr (Pt.may_mono (fun y hy => h.least S hS y (inB_iff.mp hy)) _ hm)
theorem Grow.bare {rs : List (Str × Pt)} {bs : List Str} (h : Grow rs bs) (hc : ∀ r ∈ rs, r.2.may (inB bs) = true → r.1 ∈ bs) : Bare rs bs := ⟨h.sub, hc, h.least⟩
theorem LeadsAt.snoc {rs : List (Str × Pt)} {B : Str → Bool} {kl : List (Str × V)} {σ σ' : Hp} {r : Str × Pt} {j lo : Nat} (h : LeadsAt rs B kl lo σ) (hn : r.1 ∉ rs.map (·.1)) (hk : ∀ (a : Nat) (vs : List V), σ[a]? = some (.list vs) → σ'[a]? = some (.list vs)) (hlo : lo < j) (hj : σ'[j]? = some (.list ((r.2.ahd B).map V.str))) : LeadsAt (rs ++ [r]) B (setKV kl r.1 (.ref j)) lo σ' := fun r' hr' => by
  rcases List.mem_append.mp hr' with g | g
  · obtain ⟨i, h0, h1, h2⟩ := h r' g
    refine ⟨i, h0, ?_, hk _ _ h2⟩
    rw [getKV_set, if_neg (fun e : r'.1 = r.1 => hn (e ▸ List.mem_map.mpr ⟨r', g, rfl⟩))]
    exact h1
  · cases List.mem_singleton.mp g
    exact ⟨j, hlo, by rw [getKV_set, if_pos rfl], hj⟩
end Mine

namespace Mine
open PySem PySem.Calls PyProof.Rows PySem.SeqAt PySem.Builtin PySem.Builtin.Str
/-- a text by its signs -/
noncomputable def S (l : List Nat) : Str := ⟨l.toArray⟩
theorem S_app (a b : List Nat) : S a ++ S b = S (a ++ b) := by
  show (⟨a.toArray ++ b.toArray⟩ : Str) = ⟨(a ++ b).toArray⟩
  rw [List.append_toArray]
theorem S_length (a : List Nat) : (S a).length = a.length := by simp [S, Str.length]
theorem S_inj {a b : List Nat} (h : S a = S b) : a = b := by
  simpa [S] using h
end Mine

namespace Mine
open PySem PySem.Calls PyProof.Rows PySem.SeqAt
/-- texts that can be laid -/
noncomputable def sOk (n : Str) : Prop := PyData.strOk n = true
theorem sOk_sign {c : Nat} (h : isSignC c = true) : PyData.strOk ⟨#[c]⟩ = true := by
  have : c < 0x110000 := by
    simp only [isSignC, Bool.or_eq_true, Bool.and_eq_true, beq_iff_eq, decide_eq_true_eq] at h
    rcases h with (h | h) | ⟨⟨_, h⟩, _⟩ <;> omega
  simp [PyData.strOk, this]
theorem sOk_name {n : Str} (h : isName n = true) : sOk n := by
  simp only [isName, Bool.and_eq_true, List.all_eq_true] at h
  unfold sOk PyData.strOk
  rw [Array.all_eq_true_iff_forall_mem]
  intro c hc
  have := h.2 c (by simpa using hc)
  simp only [isLetter, Bool.and_eq_true, decide_eq_true_eq] at this
  simp; (clear hc h; omega)
theorem Pt.oks_of {P : Str → Prop} : ∀ ps : List Pt, (∀ q ∈ ps, q.ok P) → Pt.oks P ps
  | [], _ => by simp [Pt.oks]
  | p :: r, h => by rw [Pt.oks]; exact ⟨h p (by simp), Pt.oks_of r fun q hq => h q (List.mem_cons_of_mem _ hq)⟩
theorem Pt.ok_of {P : Str → Prop} : ∀ (n : Nat) (p : Pt), p.deep ≤ n → p.good = true → Pt.All Pt.few p → (∀ m, p.Asks m → P m) → p.ok P := by
  intro n
  induction n with
  | zero => intro p hn; exact absurd (Pt.deep_pos p) (by omega)
  | succ n ih =>
    intro p hn hg hf ha
    obtain ⟨hfk, hfc⟩ := hf
    have kids : (∀ q ∈ p.kids, q.good = true) → ∀ q ∈ p.kids, q.ok P := fun hgk q hq => ih q (by have := Pt.kids_deep hq; (clear ih; omega)) (hgk q hq) (hfc q hq) fun m hm => ha m (.deep hq hm)
    cases p with
    | sign c => simpa only [Pt.ok, Pt.good] using hg
    | span a b =>
      simp only [Pt.good, Bool.and_eq_true, decide_eq_true_eq] at hg
      rw [Pt.ok]; exact ⟨hg.1.1, hg.1.2, hg.2⟩
    | any => simp [Pt.ok]
    | rule m => rw [Pt.ok]; exact ha m .here
    | row ps => rw [Pt.ok]; rw [Pt.good] at hg; exact ⟨hfk, Pt.oks_of ps (kids fun q hq => Pt.goods_mem hg hq)⟩
    | alt ps =>
      rw [Pt.good, Bool.and_eq_true] at hg
      rw [Pt.ok]; exact ⟨by simpa using hg.1, hfk, Pt.oks_of ps (kids fun q hq => Pt.goods_mem hg.2 hq)⟩
    | many q => rw [Pt.ok]; rw [Pt.good] at hg; exact kids (fun q' hq => by cases List.mem_singleton.mp hq; exact hg) q (List.mem_singleton.mpr rfl)
    | nt q => rw [Pt.ok]; rw [Pt.good] at hg; exact kids (fun q' hq => by cases List.mem_singleton.mp hq; exact hg) q (List.mem_singleton.mpr rfl)
theorem strs_deep (σ : Hp) : ∀ ns : List Str, (∀ n ∈ ns, sOk n) → Deeps σ (ns.map PyData.str) (ns.map V.str)
  | [], _ => by simp [Deeps]
  | r :: t, h => by
    have h2 := strs_deep σ t fun x hx => h x (List.mem_cons_of_mem _ hx)
    simp only [List.map_cons, Deeps, Deep]
    exact ⟨_, _, rfl, ⟨rfl, h r (by simp)⟩, h2⟩
theorem strs_depth : ∀ ns : List Str, PyData.depthAll (ns.map PyData.str) ≤ 1
  | [] => by simp [PyData.depthAll]
  | r :: t => by
    have h2 := strs_depth t
    simp [PyData.depthAll, PyData.depth]; omega
end Mine

namespace Mine
open PySem PySem.Calls PyProof.Rows PySem.SeqAt

/-! Parts and names that may be wrong: any values -/

/-- a value of known kinds all through, at most n deep -/
inductive Kd (σ : Hp) : Nat → V → Prop where
  | none {n : Nat} : Kd σ n .none
  | bool {n : Nat} (b : Bool) : Kd σ n (.bool b)
  | int {n : Nat} (i : Int) : Kd σ n (.int i)
  | str {n : Nat} {x : Str} (h : x.length < 1000) (hs : sOk x) : Kd σ n (.str x)
  | tup {n : Nat} {vs : List V} (h : vs.length < 1000) (k : ∀ v ∈ vs, Kd σ n v) : Kd σ (n + 1) (.tup vs)
  | ref {n l : Nat} {vs : List V} (h : σ[l]? = some (.list vs)) (k : ∀ v ∈ vs, Kd σ n v) : Kd σ (n + 1) (.ref l)
theorem Kd.up {σ jk : Hp} : ∀ {n : Nat} {v : V}, Kd σ n v → Kd (σ ++ jk) n v := by
  intro n v h
  induction h with
  | none => exact .none
  | bool b => exact .bool b
  | int i => exact .int i
  | str h hs => exact .str h hs
  | tup h _ ih => exact .tup h ih
  | ref h _ ih => exact .ref (get_up h) ih
theorem Kd.le {σ : Hp} {n m : Nat} {v : V} (h : Kd σ n v) (hm : n ≤ m) : Kd σ m v := by
  induction h generalizing m with
  | none => exact .none
  | bool b => exact .bool b
  | int i => exact .int i
  | str h hs => exact .str h hs
  | tup h _ ih =>
    obtain ⟨m, rfl⟩ : ∃ k, m = k + 1 := ⟨m - 1, by omega⟩
    exact .tup h fun v hv => ih v hv (by omega)
  | ref h _ ih =>
    obtain ⟨m, rfl⟩ : ∃ k, m = k + 1 := ⟨m - 1, by omega⟩
    exact .ref h fun v hv => ih v hv (by omega)
theorem Kd.kind {σ : Hp} {n : Nat} {v : V} (h : Kd σ n v) : (kindName σ v).isSome = true := by
  cases h <;> first | rfl | (rename_i h _; simp only [kindName, h]; rfl)
theorem Kd.short {σ : Hp} {n : Nat} {v : V} (h : Kd σ n v) : shortV v := by
  cases h with
  | str h _ => exact Nat.lt_trans h (by decide)
  | tup h _ => exact Nat.lt_trans h (by decide)
  | _ => exact trivial
theorem Kd.tup_mem {σ : Hp} {n : Nat} {vs : List V} (h : Kd σ n (.tup vs)) : ∀ v ∈ vs, Kd σ n v := by
  cases h with
  | tup _ k => exact fun v hv => (k v hv).le (Nat.le_succ _)
theorem Kd.tup_len {σ : Hp} {n : Nat} {vs : List V} (h : Kd σ n (.tup vs)) : vs.length < 1000 := by
  cases h with
  | tup h _ => exact h
theorem deeps_of {σ : Hp} {n : Nat} : ∀ {vs : List V}, (∀ v ∈ vs, ∃ d, Deep σ d v ∧ d.depth ≤ n) → ∃ ds, Deeps σ ds vs ∧ PyData.depthAll ds ≤ n
  | [], _ => ⟨[], by unfold Deeps; rfl, Nat.zero_le _⟩
  | v :: vs, h => by
    obtain ⟨d, h1, h2⟩ := h v (by simp)
    obtain ⟨ds, h3, h4⟩ := deeps_of (vs := vs) fun u hu => h u (by simp [hu])
    refine ⟨d :: ds, by unfold Deeps; exact ⟨v, vs, rfl, h1, h3⟩, ?_⟩
    unfold PyData.depthAll
    exact Nat.max_le.mpr ⟨h2, h4⟩
theorem Kd.deep {σ : Hp} {n : Nat} {v : V} (h : Kd σ n v) : ∃ d, Deep σ d v ∧ d.depth ≤ n := by
  induction h with
  | none => exact ⟨.none, by unfold Deep; rfl, by unfold PyData.depth; exact Nat.zero_le _⟩
  | bool b => exact ⟨.bool b, by unfold Deep; rfl, by unfold PyData.depth; exact Nat.zero_le _⟩
  | int i => exact ⟨.int i, by unfold Deep; rfl, by unfold PyData.depth; exact Nat.zero_le _⟩
  | str h hs => exact ⟨.str _, by unfold Deep; exact ⟨rfl, hs⟩, by unfold PyData.depth; exact Nat.zero_le _⟩
  | tup h _ ih =>
    obtain ⟨ds, h1, h2⟩ := deeps_of ih
    exact ⟨.tuple ds, by unfold Deep; exact ⟨_, rfl, h1⟩, by unfold PyData.depth; exact Nat.succ_le_succ h2⟩
  | ref h _ ih =>
    obtain ⟨ds, h1, h2⟩ := deeps_of ih
    exact ⟨.list ds, by unfold Deep; exact ⟨_, _, rfl, h, h1⟩, by unfold PyData.depth; exact Nat.succ_le_succ h2⟩
theorem Pt.vs_mem {ps : List Pt} {v : V} (h : v ∈ Pt.vs ps) : ∃ p ∈ ps, v = p.v := by
  rw [Pt.vs_map] at h
  obtain ⟨p, hp, rfl⟩ := List.mem_map.mp h
  exact ⟨p, hp, rfl⟩
theorem kd_lit {σ : Hp} {n : Nat} {x : Str} (h : (Nat.blt x.length 1000 && PyData.strOk x) = true) : Kd σ n (.str x) := by
  rw [Bool.and_eq_true] at h
  exact .str (Nat.le_of_ble_eq_true h.1) h.2
theorem kd_word {σ : Hp} {n : Nat} (p : Pt) : Kd σ n (.str p.word) := by
  cases p <;> exact kd_lit (by kernel_rfl)
theorem kd_ch {σ : Hp} {n c : Nat} (h : isSignC c = true) : Kd σ n (.str ⟨#[c]⟩) := .str (by show 1 < 1000; decide) (sOk_sign h)
theorem kd2 {σ : Hp} {n : Nat} {a b : V} (ha : Kd σ n a) (hb : Kd σ n b) : Kd σ (n + 1) (.tup [a, b]) := .tup (by simp) fun v hv => by
  rcases List.mem_cons.mp hv with rfl | hv
  · exact ha
  · cases List.mem_singleton.mp hv; exact hb
theorem kd1 {σ : Hp} {n : Nat} {a : V} (ha : Kd σ n a) : Kd σ (n + 1) (.tup [a]) := .tup (by simp) fun v hv => by
  cases List.mem_singleton.mp hv; exact ha
theorem kd3 {σ : Hp} {n : Nat} {a b c : V} (ha : Kd σ n a) (hb : Kd σ n b) (hc : Kd σ n c) : Kd σ (n + 1) (.tup [a, b, c]) := .tup (by simp) fun v hv => by
  rcases List.mem_cons.mp hv with rfl | hv
  · exact ha
  rcases List.mem_cons.mp hv with rfl | hv
  · exact hb
  · cases List.mem_singleton.mp hv; exact hc
theorem Pt.kd {σ : Hp} : ∀ (n : Nat) (p : Pt), p.deep ≤ n → p.ok (fun m => m.length < 1000 ∧ sOk m) → Kd σ (2 * n) p.v := by
  intro n
  induction n with
  | zero => intro p hn; exact absurd (Pt.deep_pos p) (by omega)
  | succ n ih =>
    intro p hn hok
    have kids : ∀ k ∈ p.kids, Kd σ (2 * n) k.v := fun k hk => ih k (by have := Pt.kids_deep hk; omega) (Pt.ok_kids hok k hk)
    rw [show 2 * (n + 1) = (2 * n + 1) + 1 by omega]
    have w := kd_word (σ := σ) (n := 2 * n + 1) p
    cases p with
    | sign c => rw [Pt.ok] at hok; exact kd2 w (kd_ch hok)
    | span a b => rw [Pt.ok] at hok; exact kd3 w (kd_ch hok.1) (kd_ch hok.2.1)
    | any => exact kd1 w
    | rule m => rw [Pt.ok] at hok; exact kd2 w (.str hok.1 hok.2)
    | row ps =>
      rw [Pt.ok] at hok
      exact kd2 w (.tup (by rw [Pt.vs_map, List.length_map]; exact hok.1) fun v hv => by
        obtain ⟨p, hp, rfl⟩ := Pt.vs_mem hv
        exact kids p hp)
    | alt ps =>
      rw [Pt.ok] at hok
      exact kd2 w (.tup (by rw [Pt.vs_map, List.length_map]; exact hok.2.1) fun v hv => by
        obtain ⟨p, hp, rfl⟩ := Pt.vs_mem hv
        exact kids p hp)
    | many k => exact kd2 w ((kids k (by simp [Pt.kids])).le (by omega))
    | nt k => exact kd2 w ((kids k (by simp [Pt.kids])).le (by omega))

/-- is_name, is_leaf, is_part of any value -/
noncomputable def nameV : V → Bool
  | .str x => isName x
  | _ => false
noncomputable def isStrV : V → Bool
  | .str _ => true
  | _ => false
noncomputable def ordLe : V → V → Bool
  | .str x, .str y => (match x.cps.toList, y.cps.toList with | [a], [b] => decide (a ≤ b) | _, _ => false)
  | _, _ => false
noncomputable def leafB (k : Str) (rest : List V) : Bool :=
  if k = "any" then rest.isEmpty
  else if k = "sign" then (match rest with | [a] => isSignV a | _ => false)
  else if k = "rule" then (match rest with | [a] => isStrV a | _ => false)
  else if k = "span" then (match rest with | [a, b] => isSignV a && isSignV b && ordLe a b | _ => false)
  else false
noncomputable def partB : Nat → V → Bool
  | n + 1, .tup (.str k :: rest) =>
    if k = "many" ∨ k = "not" then (match rest with | [p] => partB n p | _ => false)
    else if k ≠ "row" ∧ k ≠ "or" then leafB k rest
    else (match rest with | [.tup ps] => !(decide (k = "or") && ps.isEmpty) && ps.all (partB n) | _ => false)
  | _, _ => false
theorem partB_many {n : Nat} {k : Str} {rest : List V} (h : k = "many" ∨ k = "not") : partB (n + 1) (.tup (.str k :: rest)) = (match rest with | [p] => partB n p | _ => false) := by
  simp only [partB]; rw [if_pos h]
theorem partB_leaf {n : Nat} {k : Str} {rest : List V} (h : ¬ (k = "many" ∨ k = "not")) (h' : k ≠ "row" ∧ k ≠ "or") : partB (n + 1) (.tup (.str k :: rest)) = leafB k rest := by
  simp only [partB]; rw [if_neg h, if_pos h']
theorem partB_seq {n : Nat} {k : Str} {rest : List V} (h' : k = "row" ∨ k = "or") : partB (n + 1) (.tup (.str k :: rest)) = (match rest with | [.tup ps] => !(decide (k = "or") && ps.isEmpty) && ps.all (partB n) | _ => false) := by
  simp only [partB]
  rw [if_neg (by rcases h' with rfl | rfl <;> decide +kernel), if_neg (by rcases h' with rfl | rfl <;> decide +kernel)]
/-- of a Pt -/
theorem partB_pt : ∀ (n : Nat) (p : Pt), partB n p.v = (p.good && decide (p.deep ≤ n))
  | 0, p => by rw [decide_eq_false (by have := Pt.deep_pos p; omega), Bool.and_false]; rfl
  | n + 1, p => by
    have seq : ∀ ps : List Pt, (Pt.vs ps).all (partB n) = (Pt.goods ps && decide (Pt.deeps ps ≤ n)) := fun ps => by
      induction ps with
      | nil => simp [Pt.vs, Pt.goods, Pt.deeps]
      | cons a r ih =>
        simp only [Pt.vs, Pt.goods, Pt.deeps, List.all_cons, ih, partB_pt n a]
        rw [Bool.eq_iff_iff]; simp only [Bool.and_eq_true, decide_eq_true_eq, Nat.max_le]
        constructor
        · rintro ⟨⟨a1, a2⟩, a3, a4⟩; exact ⟨⟨a1, a3⟩, a2, a4⟩
        · rintro ⟨⟨a1, a3⟩, a2, a4⟩; exact ⟨⟨a1, a2⟩, a3, a4⟩
    cases p with
    | sign c => rw [Pt.good, decide_eq_true (by simp [Pt.deep]), Bool.and_true]; exact partB_leaf (by decide +kernel) (by decide +kernel)
    | span a b =>
      rw [decide_eq_true (by simp [Pt.deep]), Bool.and_true]
      exact partB_leaf (by decide +kernel) (by decide +kernel)
    | any => rw [decide_eq_true (by simp [Pt.deep]), Bool.and_true]; rfl
    | rule m => rw [decide_eq_true (by simp [Pt.deep]), Bool.and_true]; exact partB_leaf (by decide +kernel) (by decide +kernel)
    | row ps =>
      rw [Pt.v, partB_seq (.inl rfl), Pt.good, Pt.deep]
      simp only [seq, Nat.succ_le_succ_iff]
      rw [show decide ((Str.ofString "row") = (Str.ofString "or")) = false by decide +kernel]
      simp
    | alt ps =>
      rw [Pt.v, partB_seq (.inr rfl), Pt.good, Pt.deep]
      simp only [seq, Nat.succ_le_succ_iff]
      rw [decide_true, Bool.true_and, Bool.and_assoc]
      cases ps <;> rfl
    | many k => rw [Pt.v, partB_many (.inl rfl), Pt.good, Pt.deep]; simp only [partB_pt n k, Nat.succ_le_succ_iff]
    | nt k => rw [Pt.v, partB_many (.inr rfl), Pt.good, Pt.deep]; simp only [partB_pt n k, Nat.succ_le_succ_iff]
end Mine

namespace Mine
open PySem PySem.Calls PyProof.Rows PySem.SeqAt

/-- _law_deep -/
noncomputable def deepP (p : Pt) : Nat → Pt
  | 0 => p
  | n + 1 => (match n % 4 with
    | 0 => .nt (deepP p n)
    | 1 => .many (deepP p n)
    | 2 => .row [.any, deepP p n]
    | _ => .alt [deepP p n, .any])
theorem deepP_deep (p : Pt) (h : p.deep = 1) : ∀ n, (deepP p n).deep = n + 1
  | 0 => h
  | n + 1 => by
    have ih := deepP_deep p h n
    unfold deepP
    split <;> simp [Pt.deep, Pt.deeps, ih]
theorem deepP_size (p : Pt) (h : p.size = 1) : ∀ n, (deepP p n).size ≤ 2 * n + 1
  | 0 => by rw [deepP, h]; exact Nat.le_refl _
  | n + 1 => by
    have ih := deepP_size p h n
    unfold deepP
    split <;> simp only [Pt.size, Pt.sizes] <;> omega
theorem deepP_ok {P : Str → Prop} (p : Pt) (h : p.ok P) : ∀ n, (deepP p n).ok P
  | 0 => h
  | n + 1 => by
    have ih := deepP_ok p h n
    unfold deepP
    split <;> simp [Pt.ok, Pt.oks, ih]
theorem deepP_asks {p : Pt} {m : Str} : ∀ n, (deepP p n).Asks m → p.Asks m
  | 0, h => h
  | n + 1, h => by
    unfold deepP at h
    have any : ¬ Pt.any.Asks m := fun h => by
      cases h with
      | deep hm _ => simp [Pt.kids] at hm
    split at h
    all_goals
      cases h with
      | deep hm hk =>
        simp only [Pt.kids, List.mem_cons, List.mem_singleton, List.not_mem_nil, or_false] at hm
        first
        | (subst hm; exact deepP_asks n hk)
        | (rcases hm with rfl | rfl <;> first | exact (any hk).elim | exact deepP_asks n hk)

/-- _law_wrapped: one time -/
inductive Wr1 (v : V) : V → Prop where
  | r0 : Wr1 v (.tup [.str "row", .tup [v, .tup [.str "any"]]])
  | r1 : Wr1 v (.tup [.str "row", .tup [.tup [.str "any"], v]])
  | o : Wr1 v (.tup [.str "or", .tup [.tup [.str "sign", .str (Str.ofString "a")], v, .tup [.str "any"]]])
  | m : Wr1 v (.tup [.str "many", v])
  | n : Wr1 v (.tup [.str "not", v])
inductive Wrp : Nat → V → V → Prop where
  | here {v : V} : Wrp 0 v v
  | more {n : Nat} {u v r : V} (h : Wrp n u v) (w : Wr1 v r) : Wrp (n + 1) u r
theorem Wr1.bad {v r : V} (w : Wr1 v r) {m : Nat} (h : ∀ n ≤ m, partB n v = false) : ∀ n ≤ m, partB n r = false := fun n hn => by
  cases n with
  | zero => cases w <;> rfl
  | succ n =>
    have h := h n (by omega)
    cases w with
    | r0 => rw [partB_seq (.inl rfl)]; simp [h]
    | r1 => rw [partB_seq (.inl rfl)]; simp [h]
    | o => rw [partB_seq (.inr rfl)]; simp [h]
    | m => rw [partB_many (.inl rfl)]; exact h
    | n => rw [partB_many (.inr rfl)]; exact h
theorem Wrp.bad {k : Nat} {u r : V} (w : Wrp k u r) {m : Nat} (h : ∀ n ≤ m, partB n u = false) : ∀ n ≤ m, partB n r = false := by
  induction w with
  | here => exact h
  | more _ w ih => exact w.bad (ih h)
theorem Wr1.kd {σ : Hp} {v r : V} (w : Wr1 v r) {n : Nat} (h : Kd σ n v) : Kd σ (n + 3) r := by
  have h := h.le (Nat.le_succ n)
  have any : Kd σ (n + 1) (.tup [.str "any"]) := kd1 (kd_lit (by decide +kernel))
  have sg : Kd σ (n + 1) (.tup [.str "sign", .str (Str.ofString "a")]) := kd2 (kd_lit (by decide +kernel)) (kd_lit (by decide +kernel))
  cases w with
  | r0 => exact kd2 (kd_lit (by decide +kernel)) (kd2 h any)
  | r1 => exact kd2 (kd_lit (by decide +kernel)) (kd2 any h)
  | o => exact kd2 (kd_lit (by decide +kernel)) (kd3 sg h any)
  | m => exact kd2 (kd_lit (by decide +kernel)) (h.le (Nat.le_succ _))
  | n => exact kd2 (kd_lit (by decide +kernel)) (h.le (Nat.le_succ _))
theorem Wrp.kd {σ : Hp} {k : Nat} {u r : V} (w : Wrp k u r) {n : Nat} (h : Kd σ n u) : Kd σ (n + 3 * k) r := by
  induction w with
  | here => exact h
  | more _ w ih => exact (w.kd (ih h)).le (by omega)
/-- of a Pt -/
theorem Wr1.pt {P : Str → Prop} {p : Pt} {r : V} (w : Wr1 p.v r) (hok : p.ok P) : ∃ p' : Pt, r = p'.v ∧ p'.ok P ∧ p'.deep ≤ p.deep + 1 ∧ p'.size ≤ p.size + 3 ∧ p ∈ p'.kids := by
  have hd := Pt.deep_pos p
  cases w with
  | r0 => exact ⟨.row [p, .any], rfl, by simp [Pt.ok, Pt.oks, hok], by simp [Pt.deep, Pt.deeps]; omega, by simp [Pt.size, Pt.sizes], by simp [Pt.kids]⟩
  | r1 => exact ⟨.row [.any, p], rfl, by simp [Pt.ok, Pt.oks, hok], by simp [Pt.deep, Pt.deeps]; omega, by simp [Pt.size, Pt.sizes]; omega, by simp [Pt.kids]⟩
  | o => exact ⟨.alt [.sign 97, p, .any], rfl, by simp [Pt.ok, Pt.oks, hok]; decide, by simp [Pt.deep, Pt.deeps]; omega, by simp [Pt.size, Pt.sizes]; omega, by simp [Pt.kids]⟩
  | m => exact ⟨.many p, rfl, by simpa [Pt.ok] using hok, by simp [Pt.deep], by simp [Pt.size], by simp [Pt.kids]⟩
  | n => exact ⟨.nt p, rfl, by simpa [Pt.ok] using hok, by simp [Pt.deep], by simp [Pt.size], by simp [Pt.kids]⟩
theorem Wrp.pt {P : Str → Prop} {k : Nat} {u r : V} (w : Wrp k u r) : ∀ {p : Pt}, u = p.v → p.ok P → ∃ p' : Pt, r = p'.v ∧ p'.ok P ∧ p'.deep ≤ p.deep + k ∧ p'.size ≤ p.size + 3 * k ∧ ∀ n, p.Asks n → p'.Asks n := by
  induction w with
  | here => intro p e hok; exact ⟨p, e, hok, by omega, by omega, fun _ h => h⟩
  | more _ w ih =>
    intro p e hok
    obtain ⟨p1, rfl, h1, h2, h3, h4⟩ := ih e hok
    obtain ⟨p2, rfl, g1, g2, g3, g4⟩ := w.pt h1
    exact ⟨p2, rfl, g1, by omega, by omega, fun n hn => .deep g4 (h4 n hn)⟩

/-- _law_wrong -/
noncomputable def wrongL (c l1 l2 : Nat) : List V := [
  .tup [.str "sign", .str (Str.ofString "")], .tup [.str "sign", .str (⟨#[c]⟩ ++ ⟨#[c]⟩)], .tup [.str "sign", .int 7], .tup [.str "sign"], .tup [.str "sign", .str ⟨#[c]⟩, .str ⟨#[c]⟩], .tup [.str "span", .str (Str.ofString "b"), .str (Str.ofString "a")],
  .tup [.str "span", .str ⟨#[c]⟩], .tup [.str "span", .str (Str.ofString ""), .str ⟨#[c]⟩], .tup [.str "span", .str ⟨#[c]⟩, .str (Str.ofString "zz")], .tup [.str "any", .str ⟨#[c]⟩], .tup [.str "or", .tup []],
  .tup [.str "row", .ref l1], .tup [.str "row"], .tup [.str "many"], .tup [.str "many", .tup [.str "any"], .tup [.str "any"]], .tup [.str "not", .str (Str.ofString "any")],
  .tup [.str "rule", .int 5], .tup [.str "rule"], .tup [.str "star", .str ⟨#[c]⟩], .tup [], .none, .str ⟨#[c]⟩, .ref l2, (deepP .any 12).v]
theorem leaf_bad {n : Nat} {k : Str} {rest : List V} (h : ¬ (k = "many" ∨ k = "not")) (h' : k ≠ "row" ∧ k ≠ "or") (hb : leafB k rest = false) : partB n (.tup (.str k :: rest)) = false := by
  cases n with
  | zero => rfl
  | succ n => rw [partB_leaf h h', hb]
theorem wrongL_bad {c l1 l2 : Nat} (hc : isSignC c = true) : ∀ v ∈ wrongL c l1 l2, ∀ n ≤ 12, partB n v = false := by
  have two : isSignV (.str (⟨#[c]⟩ ++ ⟨#[c]⟩)) = false := rfl
  intro v hv n hn
  simp only [wrongL, List.mem_cons, List.not_mem_nil, or_false] at hv
  rcases hv with rfl | rfl | rfl | rfl | rfl | rfl | rfl | rfl | rfl | rfl | rfl | rfl | rfl | rfl | rfl | rfl | rfl | rfl | rfl | rfl | rfl | rfl | rfl | rfl
  · exact leaf_bad (by decide +kernel) (by decide +kernel) (by decide +kernel)
  · exact leaf_bad (by decide +kernel) (by decide +kernel) two
  · exact leaf_bad (by decide +kernel) (by decide +kernel) rfl
  · exact leaf_bad (by decide +kernel) (by decide +kernel) rfl
  · exact leaf_bad (by decide +kernel) (by decide +kernel) rfl
  · exact leaf_bad (by decide +kernel) (by decide +kernel) (by decide +kernel)
  · exact leaf_bad (by decide +kernel) (by decide +kernel) rfl
  · exact leaf_bad (by decide +kernel) (by decide +kernel) rfl
  · refine leaf_bad (by decide +kernel) (by decide +kernel) ?_
    show (isSignV (.str ⟨#[c]⟩) && isSignV (.str (Str.ofString "zz")) && _) = false
    rw [show isSignV (.str (Str.ofString "zz")) = false by decide +kernel, Bool.and_false]; rfl
  · exact leaf_bad (by decide +kernel) (by decide +kernel) rfl
  · cases n with
    | zero => rfl
    | succ n => rw [partB_seq (.inr rfl)]; rfl
  · cases n with
    | zero => rfl
    | succ n => rw [partB_seq (.inl rfl)]
  · cases n with
    | zero => rfl
    | succ n => rw [partB_seq (.inl rfl)]
  · cases n with
    | zero => rfl
    | succ n => rw [partB_many (.inl rfl)]
  · cases n with
    | zero => rfl
    | succ n => rw [partB_many (.inl rfl)]
  · cases n with
    | zero => rfl
    | succ n => rw [partB_many (.inr rfl)]; cases n <;> rfl
  · exact leaf_bad (by decide +kernel) (by decide +kernel) rfl
  · exact leaf_bad (by decide +kernel) (by decide +kernel) rfl
  · exact leaf_bad (by decide +kernel) (by decide +kernel) rfl
  · cases n <;> rfl
  · cases n <;> rfl
  · cases n <;> rfl
  · cases n <;> rfl
  · rw [partB_pt, deepP_deep .any rfl, decide_eq_false (by omega), Bool.and_false]
theorem wrongL_kd {σ : Hp} {c l1 l2 : Nat} (hc : isSignC c = true) (h1 : σ[l1]? = some (.list [.tup [.str "any"]])) (h2 : σ[l2]? = some (.list [.str (Str.ofString "any")])) : ∀ v ∈ wrongL c l1 l2, Kd σ 26 v := by
  have ch : ∀ {n : Nat}, Kd σ n (.str ⟨#[c]⟩) := kd_ch hc
  have cc : ∀ {n : Nat}, Kd σ n (.str (⟨#[c]⟩ ++ ⟨#[c]⟩)) := fun {n} => .str (by show 2 < 1000; decide) (by
    have := sOk_sign hc
    unfold sOk PyData.strOk at *
    show ((#[c] : Array Nat) ++ #[c]).all _ = true
    rw [Array.all_append, this]; rfl)
  have any : ∀ {n : Nat}, Kd σ (n + 1) (.tup [.str "any"]) := kd1 (kd_lit (by decide +kernel))
  intro v hv
  simp only [wrongL, List.mem_cons, List.not_mem_nil, or_false] at hv
  rcases hv with rfl | rfl | rfl | rfl | rfl | rfl | rfl | rfl | rfl | rfl | rfl | rfl | rfl | rfl | rfl | rfl | rfl | rfl | rfl | rfl | rfl | rfl | rfl | rfl
  · exact kd2 (kd_lit (by decide +kernel)) (kd_lit (by decide +kernel))
  · exact kd2 (kd_lit (by decide +kernel)) cc
  · exact kd2 (kd_lit (by decide +kernel)) (.int 7)
  · exact kd1 (kd_lit (by decide +kernel))
  · exact kd3 (kd_lit (by decide +kernel)) ch ch
  · exact kd3 (kd_lit (by decide +kernel)) (kd_lit (by decide +kernel)) (kd_lit (by decide +kernel))
  · exact kd2 (kd_lit (by decide +kernel)) ch
  · exact kd3 (kd_lit (by decide +kernel)) (kd_lit (by decide +kernel)) ch
  · exact kd3 (kd_lit (by decide +kernel)) ch (kd_lit (by decide +kernel))
  · exact kd2 (kd_lit (by decide +kernel)) ch
  · exact kd2 (kd_lit (by decide +kernel)) (.tup (by simp) fun v hv => by simp at hv)
  · exact kd2 (kd_lit (by decide +kernel)) (.ref h1 fun v hv => by cases List.mem_singleton.mp hv; exact any)
  · exact kd1 (kd_lit (by decide +kernel))
  · exact kd1 (kd_lit (by decide +kernel))
  · exact kd3 (kd_lit (by decide +kernel)) any any
  · exact kd2 (kd_lit (by decide +kernel)) (kd_lit (by decide +kernel))
  · exact kd2 (kd_lit (by decide +kernel)) (.int 5)
  · exact kd1 (kd_lit (by decide +kernel))
  · exact kd2 (kd_lit (by decide +kernel)) ch
  · exact .tup (by simp) fun v hv => by simp at hv
  · exact .none
  · exact ch
  · exact .ref h2 fun v hv => by cases List.mem_singleton.mp hv; exact kd_lit (by decide +kernel)
  · exact Pt.kd 13 _ (by rw [deepP_deep .any rfl]; exact Nat.le_refl _) (deepP_ok .any (by simp [Pt.ok]) _)
end Mine

namespace Mine
open PySem PySem.Calls PyProof.Rows PySem.SeqAt

/-! The rules of law 04: some of them bad, lost, or in a ring. asciiV, pV, pass1, Fine stand in D04h's text too: here they are first. -/

noncomputable abbrev pV (r : V × V) : V := .tup [r.1, r.2]
noncomputable def emb (r : Str × Pt) : V × V := (.str r.1, r.2.v)
/-- plain signs alone -/
noncomputable def asciiV : V → Prop
  | .str x => ∀ c ∈ x.cps.toList, c < 128
  | _ => True
noncomputable def pass1 : List Str → List (V × V) → Bool
  | _, [] => true
  | met, (a, b) :: r => (match a with
    | .str x => isName x && !(decide (x ∈ met)) && partB 12 b && pass1 (met ++ [x]) r
    | _ => false)
/-- a rule that the first pass takes -/
structure Fine (r : Str × Pt) : Prop where
  name : isName r.1 = true
  ok : r.2.ok (fun m => m.length < 1000 ∧ sOk m)
  deep : r.2.deep ≤ 12
  size : r.2.size < 100000
theorem Fine.few {r : Str × Pt} (h : Fine r) : Pt.All Pt.few r.2 := Pt.ok_few _ _ (Nat.le_refl _) h.ok
theorem Fine.part {r : Str × Pt} (h : Fine r) : partB 12 r.2.v = true := by rw [partB_pt, Pt.ok_good _ h.ok, decide_eq_true h.deep]; rfl
theorem isName_ascii {x : Str} (h : isName x = true) : asciiV (.str x) ∧ x.length < 1000 := by
  simp only [isName, Bool.and_eq_true, decide_eq_true_eq, List.all_eq_true] at h
  refine ⟨fun c hc => ?_, by omega⟩
  have := h.2 c hc
  simp only [isLetter, Bool.and_eq_true, decide_eq_true_eq] at this
  omega

/-- put in at a place -/
noncomputable def ins {α : Type} (l : List α) (k : Nat) (x : α) : List α := l.take k ++ [x] ++ l.drop k
theorem mem_ins {α : Type} {l : List α} {k : Nat} {x y : α} : y ∈ ins l k x ↔ y = x ∨ y ∈ l := by
  have : y ∈ l ↔ y ∈ l.take k ∨ y ∈ l.drop k := by rw [← List.mem_append, List.take_append_drop]
  unfold ins
  rw [this, List.mem_append, List.mem_append, List.mem_singleton]
  constructor
  · rintro ((h | h) | h)
    · exact .inr (.inl h)
    · exact .inl h
    · exact .inr (.inr h)
  · rintro (h | h | h)
    · exact .inl (.inr h)
    · exact .inl (.inl h)
    · exact .inr h
theorem ins_map {α β : Type} (f : α → β) (l : List α) (k : Nat) (x : α) : (ins l k x).map f = ins (l.map f) k (f x) := by
  simp [ins, List.map_take, List.map_drop]
theorem ins_len {α : Type} (l : List α) (k : Nat) (x : α) : (ins l k x).length = l.length + 1 := by
  simp only [ins, List.length_append, List.length_take, List.length_drop, List.length_cons, List.length_nil]; omega
theorem ins_nodup {l : List Str} {k : Nat} {x : Str} (h : l.Nodup) (hx : x ∉ l) : (ins l k x).Nodup := by
  have hp : (ins l k x).Perm (x :: l) := by
    unfold ins
    rw [List.append_assoc]
    refine List.perm_middle.trans ?_
    show (x :: (l.take k ++ l.drop k)).Perm _
    rw [List.take_append_drop]
  exact hp.nodup_iff.mpr (List.nodup_cons.mpr ⟨hx, h⟩)
theorem ins_filter {α : Type} (p : α → Bool) (l : List α) (k : Nat) (x : α) : ((ins l k x).filter p).length = (l.filter p).length + (if p x then 1 else 0) := by
  have : (l.filter p).length = ((l.take k).filter p).length + ((l.drop k).filter p).length := by rw [← List.length_append, ← List.filter_append, List.take_append_drop]
  rw [this]
  unfold ins
  rw [List.filter_append, List.filter_append, List.length_append, List.length_append, List.filter_cons, List.filter_nil]
  split <;> simp <;> omega

noncomputable def isXg : V → Bool
  | .str x => decide (x = "xgood")
  | _ => false
/-- the first pass refuses them -/
noncomputable def BadG (gs : List (V × V)) : Prop := (∃ g ∈ gs, nameV g.1 = false ∨ partB 12 g.2 = false) ∨ 2 ≤ (gs.filter fun g => isXg g.1).length
theorem BadG.ins {gs : List (V × V)} (h : BadG gs) (k : Nat) (g : V × V) : BadG (Mine.ins gs k g) := by
  rcases h with ⟨g', h1, h2⟩ | h
  · exact .inl ⟨g', mem_ins.mpr (.inr h1), h2⟩
  · refine .inr ?_
    rw [ins_filter]; omega
theorem pass1_true : ∀ {gs : List (V × V)} {met : List Str}, pass1 met gs = true → ∃ ns : List Str, gs.map (·.1) = ns.map V.str ∧ ns.Nodup ∧ (∀ n ∈ ns, n ∉ met) ∧ ∀ g ∈ gs, nameV g.1 = true ∧ partB 12 g.2 = true
  | [], _, _ => ⟨[], rfl, by simp, by simp, by simp⟩
  | (a, b) :: r, met, h => by
    cases a <;> first | (cases h; done) | skip
    rename_i x
    have h : (isName x && !(decide (x ∈ met)) && partB 12 b && pass1 (met ++ [x]) r) = true := h
    simp only [Bool.and_eq_true, Bool.not_eq_true', decide_eq_false_iff_not] at h
    obtain ⟨⟨⟨h1, h2⟩, h3⟩, h4⟩ := h
    obtain ⟨ns, g1, g2, g3, g4⟩ := pass1_true h4
    refine ⟨x :: ns, by simp [g1], List.nodup_cons.mpr ⟨fun hx => g3 x hx (by simp), g2⟩, fun n hn => ?_, fun g hg => ?_⟩
    · rcases List.mem_cons.mp hn with rfl | hn
      · exact h2
      · exact fun hm => g3 n hn (by simp [hm])
    · rcases List.mem_cons.mp hg with rfl | hg
      · exact ⟨h1, h3⟩
      · exact g4 g hg
theorem count_one {ns : List Str} (h : ns.Nodup) {x : Str} : (ns.filter fun n => decide (n = x)).length ≤ 1 := by
  induction ns with
  | nil => simp
  | cons a r ih =>
    rw [List.nodup_cons] at h
    have := ih h.2
    rw [List.filter_cons]
    split
    · rename_i e
      rw [decide_eq_true_eq] at e
      subst e
      rw [List.filter_eq_nil_iff.mpr fun b hb => by simpa using fun e : b = a => h.1 (e ▸ hb)]; simp
    · exact this
theorem BadG.pass {gs : List (V × V)} (h : BadG gs) : pass1 [] gs = false := by
  cases hp : pass1 [] gs
  · rfl
  obtain ⟨ns, g1, g2, _, g4⟩ := pass1_true hp
  rcases h with ⟨g, hg, h⟩ | h
  · have := g4 g hg
    rcases h with h | h
    · rw [h] at this; cases this.1
    · rw [h] at this; cases this.2
  · have e1 : (gs.filter fun g => isXg g.1).length = ((gs.map (·.1)).filter isXg).length := by rw [List.filter_map, List.length_map]; rfl
    have e2 : ((ns.map V.str).filter isXg).length = (ns.filter fun n => decide (n = Str.ofString "xgood")).length := by rw [List.filter_map, List.length_map]; rfl
    rw [e1, g1, e2] at h
    have := count_one g2 (x := Str.ofString "xgood")
    omega

/-- rules that the first pass takes: with one lost, with a ring -/
noncomputable def names4 (b1 b2 : Bool) : List Str := [Str.ofString "xgood", Str.ofString "a", Str.ofString "b", Str.ofString "c"] ++ (if b1 then [Str.ofString "xlost"] else []) ++ (if b2 then [Str.ofString "xring"] else [])
noncomputable def strangers : List Str := [Str.ofString "stranger", Str.ofString "", Str.ofString "Xgood"]
noncomputable def isY (x : Str) : Bool := (match x.cps.toList with | [121, _, _] => true | _ => false)
structure FineL (b1 b2 : Bool) (rs : List (Str × Pt)) : Prop where
  all : ∀ r ∈ rs, Fine r
  nodup : (rs.map (·.1)).Nodup
  nm : ∀ r ∈ rs, r.1 ∈ names4 b1 b2 ∨ isY r.1 = true
  lost : b1 = true → ∃ r ∈ rs, ∃ n ∈ strangers, r.2.Asks n
  asks : b1 = false → ∀ r ∈ rs, ∀ n, r.2.Asks n → n ∈ rs.map (·.1)
  ring : b2 = true → ∃ r ∈ rs, ∀ B, r.1 ∈ r.2.ahd B
  calm : b1 = false → b2 = false → ∀ r ∈ rs, ∀ B, r.2.ahd B = []
theorem strangers_no {b1 b2 : Bool} {n : Str} (h : n ∈ strangers) : ¬ (n ∈ names4 b1 b2 ∨ isY n = true) := by
  simp only [strangers, List.mem_cons, List.not_mem_nil, or_false] at h
  rcases h with rfl | rfl | rfl <;> cases b1 <;> cases b2 <;> decide +kernel
theorem FineL.far {b1 b2 : Bool} {rs : List (Str × Pt)} (h : FineL b1 b2 rs) (hb : b1 = true) : ∃ r ∈ rs, ∃ n, r.2.Asks n ∧ n ∉ rs.map (·.1) := by
  obtain ⟨r, hr, n, hn, ha⟩ := h.lost hb
  refine ⟨r, hr, n, ha, fun hm => ?_⟩
  obtain ⟨r', hr', e⟩ := List.mem_map.mp hm
  exact strangers_no hn (e ▸ h.nm r' hr')
theorem FineL.good {b2 : Bool} {rs : List (Str × Pt)} (h : FineL false b2 rs) (h1 : 1 ≤ rs.length) (h40 : rs.length ≤ 40) : GoodRules rs :=
  ⟨h1, h40, h.nodup, fun r hr => ⟨(h.all r hr).name, Pt.ok_good _ (h.all r hr).ok, (h.all r hr).deep, (h.all r hr).few, (h.all r hr).size, h.asks rfl r hr⟩⟩
theorem FineL.lone {rs : List (Str × Pt)} (h : FineL false false rs) {B : Str → Bool} {x y : Str} : ¬ Rch rs B x y := fun hR => by
  obtain ⟨r, hr, hy⟩ := hR.last
  rw [h.calm rfl rfl r hr B] at hy; cases hy
theorem FineL.ins_lost {rs : List (Str × Pt)} (h : FineL false false rs) (hn : ∀ r ∈ rs, r.1 ∈ names4 false false) (k : Nat) {p : Pt} (hf : Fine ("xlost", p)) {n : Str} (hs : n ∈ strangers) (ha : p.Asks n) : FineL true false (ins rs k ("xlost", p)) where
  all := fun r hr => (mem_ins.mp hr).elim (fun e => e ▸ hf) (h.all r)
  nodup := by
    rw [ins_map]
    refine ins_nodup h.nodup fun hm => ?_
    obtain ⟨r, hr, e⟩ := List.mem_map.mp hm
    have := hn r hr
    rw [e] at this
    exact absurd (show Str.ofString "xlost" ∈ names4 false false from this) (by decide +kernel)
  nm := fun r hr => (mem_ins.mp hr).elim (fun e => by rw [e]; exact .inl (show Str.ofString "xlost" ∈ names4 true false by decide +kernel)) fun hr => .inl (List.mem_append_left _ (List.mem_append_left _ (by simpa [names4] using hn r hr)))
  lost := fun _ => ⟨_, mem_ins.mpr (.inl rfl), n, hs, ha⟩
  asks := fun h => by cases h
  ring := fun h => by cases h
  calm := fun h => by cases h
theorem FineL.ins_ring {b1 : Bool} {rs : List (Str × Pt)} (h : FineL b1 false rs) (hn : ∀ r ∈ rs, r.1 ∈ names4 b1 false) (k : Nat) {p : Pt} (hf : Fine ("xring", p)) (ha : ∀ n, p.Asks n → n = "xring") (hr : ∀ B, (Str.ofString "xring") ∈ p.ahd B) : FineL b1 true (ins rs k ("xring", p)) where
  all := fun r hr => (mem_ins.mp hr).elim (fun e => e ▸ hf) (h.all r)
  nodup := by
    rw [ins_map]
    refine ins_nodup h.nodup fun hm => ?_
    obtain ⟨r, hr, e⟩ := List.mem_map.mp hm
    have := hn r hr
    rw [e] at this
    cases b1
    · exact absurd (show Str.ofString "xring" ∈ names4 false false from this) (by decide +kernel)
    · exact absurd (show Str.ofString "xring" ∈ names4 true false from this) (by decide +kernel)
  nm := fun r hr => (mem_ins.mp hr).elim (fun e => by
    rw [e]
    cases b1
    · exact .inl (show Str.ofString "xring" ∈ names4 false true by decide +kernel)
    · exact .inl (show Str.ofString "xring" ∈ names4 true true by decide +kernel)) fun hr => .inl (List.mem_append_left _ (by simpa [names4] using hn r hr))
  lost := fun hb => let ⟨r, hr, n, h1, h2⟩ := h.lost hb; ⟨r, mem_ins.mpr (.inr hr), n, h1, h2⟩
  asks := fun hb r hr n hn => by
    rw [ins_map]
    rcases mem_ins.mp hr with rfl | hr
    · exact mem_ins.mpr (.inl (ha n hn))
    · exact mem_ins.mpr (.inr (h.asks hb r hr n hn))
  ring := fun _ => ⟨_, mem_ins.mpr (.inl rfl), hr⟩
  calm := fun _ h => by cases h
/-- more rules -/
noncomputable def yName (k : Nat) : Str := S (121 :: shortBy k)
noncomputable def yRules (n : Nat) : List (Str × Pt) := (List.range n).map fun k => (yName k, .any)
theorem yName_ok {k : Nat} (h : k < 40) : isName (yName k) = true ∧ isY (yName k) = true := by
  have : (List.range 40).all (fun k => isName (yName k) && isY (yName k)) = true := by decide +kernel
  have := List.all_eq_true.mp this k (by simpa using h)
  simpa using this
theorem names4_noY {b1 b2 : Bool} {n : Str} (h : n ∈ names4 b1 b2) : isY n = false := by
  have : (names4 b1 b2).all (fun n => !isY n) = true := by cases b1 <;> cases b2 <;> decide +kernel
  simpa using List.all_eq_true.mp this n h
theorem FineL.more {b1 b2 : Bool} {rs : List (Str × Pt)} (h : FineL b1 b2 rs) (hn : ∀ r ∈ rs, r.1 ∈ names4 b1 b2) {m : Nat} (hm : m ≤ 40) : FineL b1 b2 (rs ++ yRules m) := by
  have hy : ∀ r ∈ yRules m, ∃ k < 40, r = (yName k, .any) := fun r hr => by
    obtain ⟨k, hk, rfl⟩ := List.mem_map.mp hr
    exact ⟨k, by have := List.mem_range.mp hk; omega, rfl⟩
  have no : ∀ {n : Str}, ¬ Pt.any.Asks n := fun h => by
    cases h with
    | deep hm _ => simp [Pt.kids] at hm
  refine ⟨fun r hr => ?_, ?_, fun r hr => ?_, fun hb => ?_, fun hb r hr n ha => ?_, fun hb => ?_, fun hb hb' r hr B => ?_⟩
  · rcases List.mem_append.mp hr with hr | hr
    · exact h.all r hr
    · obtain ⟨k, hk, rfl⟩ := hy r hr
      exact ⟨(yName_ok hk).1, by simp [Pt.ok], by simp [Pt.deep], by simp [Pt.size]⟩
  · rw [List.map_append, List.nodup_append]
    refine ⟨h.nodup, ?_, fun a ha b hb e => ?_⟩
    · rw [yRules, List.map_map, List.nodup_iff_pairwise_ne, List.pairwise_map]
      refine List.Pairwise.imp_of_mem ?_ (List.nodup_range (n := m))
      intro a b ha hb hab e
      have e := S_inj e
      exact hab (shortBy_inj (List.cons.inj e).2)
    · subst e
      obtain ⟨r, hr, rfl⟩ := List.mem_map.mp ha
      obtain ⟨r', hr', e⟩ := List.mem_map.mp hb
      obtain ⟨k, hk, rfl⟩ := hy r' hr'
      have := names4_noY (hn r hr)
      rw [← e, (yName_ok hk).2] at this; cases this
  · rcases List.mem_append.mp hr with hr | hr
    · exact .inl (hn r hr)
    · obtain ⟨k, hk, rfl⟩ := hy r hr
      exact .inr (yName_ok hk).2
  · obtain ⟨r, hr, x⟩ := h.lost hb
    exact ⟨r, List.mem_append_left _ hr, x⟩
  · rw [List.map_append]
    rcases List.mem_append.mp hr with hr | hr
    · exact List.mem_append_left _ (h.asks hb r hr n ha)
    · obtain ⟨k, hk, rfl⟩ := hy r hr
      exact (no ha).elim
  · obtain ⟨r, hr, x⟩ := h.ring hb
    exact ⟨r, List.mem_append_left _ hr, x⟩
  · rcases List.mem_append.mp hr with hr | hr
    · exact h.calm hb hb' r hr B
    · obtain ⟨k, hk, rfl⟩ := hy r hr
      rfl
end Mine

namespace Mine
open PySem PySem.Calls PyProof.Rows PySem.SeqAt

theorem Fine.kd {σ : Hp} {r : Str × Pt} (h : Fine r) : Kd σ 36 (emb r).1 ∧ Kd σ 36 (emb r).2 ∧ asciiV (emb r).1 :=
  ⟨.str (isName_ascii h.name).2 (sOk_name h.name), (Pt.kd 12 r.2 h.deep h.ok).le (by decide), (isName_ascii h.name).1⟩
/-- what _law_rules_by has made so far -/
structure Out4 (b0 b1 b2 : Bool) (σ : Hp) (gs : List (V × V)) : Prop where
  kd : ∀ g ∈ gs, Kd σ 36 g.1 ∧ Kd σ 36 g.2 ∧ asciiV g.1
  l1 : 1 ≤ gs.length
  l7 : gs.length ≤ 4 + (if b0 then 1 else 0) + (if b1 then 1 else 0) + (if b2 then 1 else 0)
  xg : 1 ≤ (gs.filter fun g => isXg g.1).length
  bad : b0 = true → BadG gs
  fine : b0 = false → ∃ rs, gs = rs.map emb ∧ FineL b1 b2 rs ∧ ∀ r ∈ rs, r.1 ∈ names4 b1 b2
theorem Out4.up {b0 b1 b2 : Bool} {σ jk : Hp} {gs : List (V × V)} (h : Out4 b0 b1 b2 σ gs) : Out4 b0 b1 b2 (σ ++ jk) gs :=
  ⟨fun g hg => let ⟨a, b, c⟩ := h.kd g hg; ⟨a.up, b.up, c⟩, h.l1, h.l7, h.xg, h.bad, h.fine⟩
theorem Out4.len {b0 b1 b2 : Bool} {σ : Hp} {gs : List (V × V)} (h : Out4 b0 b1 b2 σ gs) : gs.length ≤ 7 := by
  have := h.l7
  cases b0 <;> cases b1 <;> cases b2 <;> simp at this <;> omega

/-- the good ones at the start -/
noncomputable def baseR (c i : Nat) (t : Int) : List (Str × Pt) := (Str.ofString "xgood", deepP (.sign c) 11) :: (List.range i).map fun k => (S [97 + k], .row [.sign c, .rule (S [97 + (t.fmod (k + 1)).toNat])])
theorem sign_asks {c : Nat} {n : Str} : ¬ (Pt.sign c).Asks n := fun h => by
  cases h with
  | deep hm _ => simp [Pt.kids] at hm
theorem abc_name {k : Nat} (h : k < 4) : isName (S [97 + k]) = true ∧ (S [97 + k]).length < 1000 ∧ sOk (S [97 + k]) := by
  have e : k = 0 ∨ k = 1 ∨ k = 2 ∨ k = 3 := by omega
  rcases e with rfl | rfl | rfl | rfl <;> exact ⟨by decide +kernel, by decide +kernel, by unfold sOk; decide +kernel⟩
theorem fmod_le (t : Int) (k : Nat) : (t.fmod ((k : Int) + 1)).toNat ≤ k := by
  have h1 := Int.fmod_nonneg_of_pos t (b := (k : Int) + 1) (by omega)
  have h2 := Int.fmod_lt_of_pos t (b := (k : Int) + 1) (by omega)
  omega
theorem base_fine {c i : Nat} {t : Int} (hc : isSignC c = true) (hi : i ≤ 3) : FineL false false (baseR c i t) ∧ ∀ r ∈ baseR c i t, r.1 ∈ names4 false false := by
  have hs : ∀ {P : Str → Prop}, (Pt.sign c).ok P := by intro P; simpa [Pt.ok] using hc
  have mem : ∀ r ∈ baseR c i t, r = (Str.ofString "xgood", deepP (.sign c) 11) ∨ ∃ k < i, r = (S [97 + k], .row [.sign c, .rule (S [97 + (t.fmod (k + 1)).toNat])]) := fun r hr => by
    rcases List.mem_cons.mp hr with h | h
    · exact .inl h
    · obtain ⟨k, hk, rfl⟩ := List.mem_map.mp h
      exact .inr ⟨k, List.mem_range.mp hk, rfl⟩
  have hn : ∀ r ∈ baseR c i t, r.1 ∈ names4 false false := fun r hr => by
    rcases mem r hr with rfl | ⟨k, hk, rfl⟩
    · show Str.ofString "xgood" ∈ names4 false false; decide +kernel
    · show S [97 + k] ∈ names4 false false
      have e : k = 0 ∨ k = 1 ∨ k = 2 := by omega
      rcases e with rfl | rfl | rfl <;> decide +kernel
  refine ⟨⟨fun r hr => ?_, ?_, fun r hr => .inl (hn r hr), fun h => (by cases h), fun _ r hr n ha => ?_, fun h => (by cases h), fun _ _ r hr B => ?_⟩, hn⟩
  · rcases mem r hr with rfl | ⟨k, hk, rfl⟩
    · exact ⟨show isName (Str.ofString "xgood") = true by decide +kernel, deepP_ok _ hs _, by rw [deepP_deep _ (by simp [Pt.deep])]; exact Nat.le_refl _, Nat.lt_of_le_of_lt (deepP_size _ (by simp [Pt.size]) 11) (by decide)⟩
    · have := fmod_le t k
      have ha := abc_name (k := (t.fmod (k + 1)).toNat) (by omega)
      exact ⟨(abc_name (by omega)).1, by simp only [Pt.ok, Pt.oks]; exact ⟨by simp, hc, ⟨ha.2.1, ha.2.2⟩, trivial⟩, by simp [Pt.deep, Pt.deeps], by simp [Pt.size, Pt.sizes]⟩
  · have e : i = 0 ∨ i = 1 ∨ i = 2 ∨ i = 3 := by omega
    have : (baseR c i t).map (·.1) = Str.ofString "xgood" :: (List.range i).map fun k => S [97 + k] := by simp [baseR, Function.comp_def]
    rw [this]
    rcases e with rfl | rfl | rfl | rfl <;> decide +kernel
  · rcases mem r hr with rfl | ⟨k, hk, rfl⟩
    · exact (sign_asks (deepP_asks 11 ha)).elim
    · cases ha with
      | deep hm hk' =>
        simp only [Pt.kids, List.mem_cons, List.mem_singleton, List.not_mem_nil, or_false] at hm
        rcases hm with rfl | rfl
        · exact (sign_asks hk').elim
        · cases hk' with
          | here =>
            have := fmod_le t k
            exact List.mem_map.mpr ⟨_, List.mem_cons_of_mem _ (List.mem_map.mpr ⟨(t.fmod (k + 1)).toNat, List.mem_range.mpr (by omega), rfl⟩), rfl⟩
          | deep hm _ => simp [Pt.kids] at hm
  · rcases mem r hr with rfl | ⟨k, hk, rfl⟩
    · exact List.eq_nil_iff_forall_not_mem.mpr fun n hn => sign_asks (deepP_asks 11 (Pt.ahd_asks _ hn))
    · simp [Pt.ahd, Pt.ahdRow, Pt.may]
theorem out_fine {b1 b2 : Bool} {σ : Hp} {rs : List (Str × Pt)} (h : FineL b1 b2 rs) (hn : ∀ r ∈ rs, r.1 ∈ names4 b1 b2) (l1 : 1 ≤ rs.length) (l7 : rs.length ≤ 4 + 0 + (if b1 then 1 else 0) + (if b2 then 1 else 0)) (xg : 1 ≤ ((rs.map emb).filter fun g => isXg g.1).length) : Out4 false b1 b2 σ (rs.map emb) :=
  ⟨fun g hg => by
    obtain ⟨r, hr, rfl⟩ := List.mem_map.mp hg
    exact (h.all r hr).kd, by simpa using l1, by simpa using l7, xg, fun h => (by cases h), fun _ => ⟨rs, rfl, h, hn⟩⟩
theorem base_out {σ : Hp} {c i : Nat} {t : Int} (hc : isSignC c = true) (hi : i ≤ 3) : Out4 false false false σ ((baseR c i t).map emb) :=
  out_fine (base_fine hc hi).1 (base_fine hc hi).2 (by simp [baseR]) (by simp [baseR]; omega) (by
    rw [baseR, List.map_cons, List.filter_cons, if_pos (by show isXg (.str (Str.ofString "xgood")) = true; decide +kernel)]; simp)
/-- one more -/
theorem Out4.bad_in {σ : Hp} {gs : List (V × V)} (h : Out4 false false false σ gs) (k : Nat) {a b : V} (ha : Kd σ 36 a) (hb : Kd σ 36 b) (hc : asciiV a) (hr : nameV a = false ∨ partB 12 b = false ∨ a = .str (Str.ofString "xgood")) : Out4 true false false σ (ins gs k (a, b)) where
  kd := fun g hg => (mem_ins.mp hg).elim (fun e => by rw [e]; exact ⟨ha, hb, hc⟩) (h.kd g)
  l1 := by rw [ins_len]; omega
  l7 := by have := h.l7; rw [ins_len]; simp at this ⊢; omega
  xg := by have := h.xg; rw [ins_filter]; omega
  bad := fun _ => by
    rcases hr with hr | hr | rfl
    · exact .inl ⟨_, mem_ins.mpr (.inl rfl), .inl hr⟩
    · exact .inl ⟨_, mem_ins.mpr (.inl rfl), .inr hr⟩
    · refine .inr ?_
      have := h.xg
      rw [ins_filter, if_pos (by show isXg (.str (Str.ofString "xgood")) = true; decide +kernel)]; omega
  fine := fun h => by cases h
theorem Out4.lost_in {b0 : Bool} {σ : Hp} {gs : List (V × V)} (h : Out4 b0 false false σ gs) (k : Nat) {p : Pt} (hf : Fine (Str.ofString "xlost", p)) {n : Str} (hs : n ∈ strangers) (ha : p.Asks n) : Out4 b0 true false σ (ins gs k (emb (Str.ofString "xlost", p))) where
  kd := fun g hg => (mem_ins.mp hg).elim (fun e => by rw [e]; exact hf.kd) (h.kd g)
  l1 := by rw [ins_len]; omega
  l7 := by have := h.l7; rw [ins_len]; simp at this ⊢; omega
  xg := by have := h.xg; rw [ins_filter]; omega
  bad := fun hb => (h.bad hb).ins k _
  fine := fun hb => by
    obtain ⟨rs, rfl, h1, h2⟩ := h.fine hb
    refine ⟨ins rs k (Str.ofString "xlost", p), (ins_map _ _ _ _).symm, h1.ins_lost h2 k hf hs ha, fun r hr => ?_⟩
    rcases mem_ins.mp hr with rfl | hr
    · show Str.ofString "xlost" ∈ names4 true false; decide +kernel
    · exact List.mem_append_left _ (List.mem_append_left _ (by simpa [names4] using h2 r hr))
theorem Out4.ring_in {b0 b1 : Bool} {σ : Hp} {gs : List (V × V)} (h : Out4 b0 b1 false σ gs) (k : Nat) {p : Pt} (hf : Fine (Str.ofString "xring", p)) (ha : ∀ n, p.Asks n → n = Str.ofString "xring") (hr : ∀ B, (Str.ofString "xring") ∈ p.ahd B) : Out4 b0 b1 true σ (ins gs k (emb (Str.ofString "xring", p))) where
  kd := fun g hg => (mem_ins.mp hg).elim (fun e => by rw [e]; exact hf.kd) (h.kd g)
  l1 := by rw [ins_len]; omega
  l7 := by have := h.l7; rw [ins_len]; simp at this ⊢; omega
  xg := by have := h.xg; rw [ins_filter]; omega
  bad := fun hb => (h.bad hb).ins k _
  fine := fun hb => by
    obtain ⟨rs, rfl, h1, h2⟩ := h.fine hb
    refine ⟨ins rs k (Str.ofString "xring", p), (ins_map _ _ _ _).symm, h1.ins_ring h2 k hf ha hr, fun r hr => ?_⟩
    rcases mem_ins.mp hr with rfl | hr
    · cases b1
      · show Str.ofString "xring" ∈ names4 false true; decide +kernel
      · show Str.ofString "xring" ∈ names4 true true; decide +kernel
    · exact List.mem_append_left _ (by simpa [names4] using h2 r hr)
/-- the parts of the ring -/
noncomputable def ringP : Nat → Pt
  | 0 => .rule (Str.ofString "xring")
  | 1 => .many (.rule (Str.ofString "xring"))
  | 2 => .alt [.sign 97, .rule (Str.ofString "xring")]
  | _ => .nt (.rule (Str.ofString "xring"))
theorem ring_ok (k : Nat) : Fine (Str.ofString "xring", .row [.nt .any, ringP k]) ∧ (∀ n, (Pt.row [.nt .any, ringP k]).Asks n → n = Str.ofString "xring") ∧ ∀ B, (Str.ofString "xring") ∈ (Pt.row [.nt .any, ringP k]).ahd B := by
  have hx : (Str.ofString "xring").length < 1000 ∧ sOk (Str.ofString "xring") := ⟨by decide +kernel, by unfold sOk; decide +kernel⟩
  have h97 : isSignC 97 = true := by decide
  have rule : ∀ {n : Str}, (Pt.rule (Str.ofString "xring")).Asks n → n = Str.ofString "xring" := fun h => by
    cases h with
    | here => rfl
    | deep hm _ => simp [Pt.kids] at hm
  have any : ∀ {n : Str}, ¬ Pt.any.Asks n := fun h => by
    cases h with
    | deep hm _ => simp [Pt.kids] at hm
  have part : ∀ {n : Str}, (ringP k).Asks n → n = Str.ofString "xring" := fun {n} h => by
    unfold ringP at h
    split at h
    · exact rule h
    all_goals
      cases h with
      | deep hm hk =>
        simp only [Pt.kids, List.mem_cons, List.mem_singleton, List.not_mem_nil, or_false] at hm
        first
        | (subst hm; exact rule hk)
        | (rcases hm with rfl | rfl <;> first | exact (sign_asks hk).elim | exact rule hk)
  refine ⟨⟨show isName (Str.ofString "xring") = true by decide +kernel, ?_, ?_, ?_⟩, fun n h => ?_, fun B => ?_⟩
  · unfold ringP; split <;> simp [Pt.ok, Pt.oks, hx, h97]
  · unfold ringP; split <;> simp [Pt.deep, Pt.deeps]
  · unfold ringP; split <;> simp [Pt.size, Pt.sizes]
  · cases h with
    | deep hm hk =>
      simp only [Pt.kids, List.mem_cons, List.mem_singleton, List.not_mem_nil, or_false] at hm
      rcases hm with rfl | rfl
      · cases hk with
        | deep hm hk => simp only [Pt.kids, List.mem_singleton] at hm; subst hm; exact (any hk).elim
      · exact part hk
  · unfold ringP; split <;> simp [Pt.ahd, Pt.ahdRow, Pt.ahdAlt, Pt.may]
end Mine

open PySem PySem.W PyProof.Rows
set_option maxRecDepth 100000
namespace Mine
noncomputable abbrev T04 (w : World) (s : Shared) : Tp := tpOf PySem.Challenge.rw_uf010010_04.row.prog w s (hd04.heap_39 w.params)
variable {w : World} {s : Shared} {d : Nat} {X : QX} {Q : QE} {σ : Hp}
set_option maxHeartbeats 2000000

theorem fn_is_sign (TO : TopOk (T04 w s)) {v : V} (hk : (kindName σ v).isSome = true) (hl : shortV v) (q : Q (.bool (isSignV v)) σ) : CallOk (T04 w s) (d + 1) X (.glob "is_sign") [v] Q σ := by
  obtain ⟨k, hk⟩ := Option.isSome_iff_exists.mp hk
  refine CallOk.go TO (v := _) rfl ⟨⟨_, _, _, rfl, rfl, rfl, rfl, rfl, rfl, rfl, rfl, rfl, fun vals h => ?_⟩, rfl, rfl, rfl, rfl, rfl⟩ (ps := ["value"]) rfl rfl ?_
  · obtain ⟨a, rfl⟩ := len1 h; rfl
  by_cases hs : k = "str"
  · subst hs
    have : ∃ x, v = .str x := by
      cases v <;> simp only [kindName, reduceCtorEq, Option.some.injEq, String.reduceEq] at hk
      · exact ⟨_, rfl⟩
      · split at hk <;> simp at hk
    obtain ⟨x, rfl⟩ := this
    refine Cal.isi (b := true) rfl <| Cal.len rfl hl <| Br.mk (fun h1 => ?_) fun h1 => ?_
    · rw [isSignV_long (by intro e; rw [e] at h1; cases h1)] at q
      exact q
    · obtain ⟨c, rfl⟩ := str_one (x := x) (by simp only [bne_eq_false_iff_eq] at h1; clear q hk hl; omega)
      rw [isSignV_one] at q
      refine Br.mk (fun h2 => ?_) fun h2 => Br.mk (fun h3 => ?_) fun h3 => Cal.ord ?_
      · rw [show isSignC c = true by simp only [isSignC, show (c == 10) = true from beq_ch.symm.trans h2, Bool.true_or]] at q
        exact q
      · rw [show isSignC c = true by simp only [isSignC, show (c == 9) = true from beq_ch.symm.trans h3, Bool.true_or, Bool.or_true]] at q
        exact q
      have key : isSignC c = (decide ((32 : Int) ≤ c) && decide ((c : Int) ≤ 126) && ((c : Int) != 37)) := by
        simp only [isSignC, show (c == 10) = false from beq_ch.symm.trans h2, show (c == 9) = false from beq_ch.symm.trans h3, Bool.false_or]
        rw [Bool.eq_iff_iff]; simp; clear q hk hl h1 h2 h3; omega
      rw [key] at q
      clear key
      refine Br.mk (fun h4 => Br.mk (fun h5 => Cal.ord ?_) fun h5 => ?_) fun h4 => ?_
      · rw [h4, h5] at q; exact q
      · rw [h5, Bool.and_false] at q; show Q (V.bool (decide _)) σ; rw [h5]; exact q
      · rw [h4] at q; exact q
  · have e2 : isSignV v = false := by
      cases v <;> first | rfl | (simp [kindName] at hk; exact absurd hk.symm hs)
    rw [e2] at q
    exact Cal.isi (b := false) (by unfold isiV; rw [hk]; simp [hs]) q
end Mine

open PySem PySem.W PyProof.Rows
set_option maxRecDepth 100000
namespace Mine
variable {w : World} {s : Shared} {d : Nat} {X : QX} {Q : QE} {σ : Hp}
set_option maxHeartbeats 2000000

theorem fn_within (TO : TopOk (T04 w s)) {p : Pt} (hn : p.kids.length ≤ sizeLine) (q : Q (.ref σ.length) (σ ++ [.list (p.kids.map Pt.v)])) : CallOk (T04 w s) (d + 1) X (.glob "within") [p.v] Q σ := by
  refine CallOk.go TO (v := _) rfl ⟨⟨_, _, _, rfl, rfl, rfl, rfl, rfl, rfl, rfl, rfl, rfl, fun vals h => ?_⟩, rfl, rfl, rfl, rfl, rfl⟩ (ps := ["part"]) rfl rfl ?_
  · obtain ⟨a, rfl⟩ := len1 h; rfl
  cases p with
  | row ps => exact Cal.list (vs := Pt.vs ps) rfl (by rw [Pt.vs_map, List.length_map]; exact hn) (by rw [Pt.vs_map]; exact q)
  | alt ps => exact Cal.list (vs := Pt.vs ps) rfl (by rw [Pt.vs_map, List.length_map]; exact hn) (by rw [Pt.vs_map]; exact q)
  | _ => exact q

theorem isi_str {n : Nat} {v : V} (h : Kd σ n v) : isiV σ v "str" = some (isStrV v) := by
  cases h with
  | ref h _ => simp only [isiV, kindName, h]; rfl
  | _ => rfl
noncomputable def isTupV : V → Bool
  | .tup _ => true
  | _ => false
theorem isi_tup {n : Nat} {v : V} (h : Kd σ n v) : isiV σ v "tuple" = some (isTupV v) := by
  cases h with
  | ref h _ => simp only [isiV, kindName, h]; rfl
  | _ => rfl
theorem isSignV_one' {v : V} (h : isSignV v = true) : ∃ c, v = .str ⟨#[c]⟩ := by
  cases v <;> first | (cases h; done) | skip
  rename_i x
  obtain ⟨⟨l⟩⟩ := x
  rcases l with _ | ⟨a, _ | ⟨b, r⟩⟩ <;> first | (cases h; done) | skip
  exact ⟨a, rfl⟩
/-- any leaf -/
theorem fn_is_leaf (TO : TopOk (T04 w s)) {k : Str} {rest : List V} {n : Nat} (hl : rest.length < 1000) (hk : ∀ v ∈ rest, Kd σ n v) (q : Q (.bool (leafB k rest)) σ) : CallOk (T04 w s) (d + 2) X (.glob "is_leaf") [.tup (.str k :: rest)] Q σ := by
  refine CallOk.go TO (v := _) rfl ⟨⟨_, _, _, rfl, rfl, rfl, rfl, rfl, rfl, rfl, rfl, rfl, fun vals h => ?_⟩, rfl, rfl, rfl, rfl, rfl⟩ (ps := ["part"]) rfl rfl ?_
  · obtain ⟨a, rfl⟩ := len1 h; rfl
  have len : ∀ {K : QE}, K (.int (rest.length + 1 : Nat)) σ → Cal (T04 w s) (d + 1) X (.bi "len") [.tup (.str k :: rest)] K σ := fun k => Cal.len rfl (by simp only [List.length_cons]; clear q k; omega) k
  have sg : ∀ {v : V} {K : QE}, v ∈ rest → K (.bool (isSignV v)) σ → Cal (T04 w s) (d + 1) X (.glob "is_sign") [v] K σ := fun {v K} hv k => ⟨fn_is_sign TO (hk v hv).kind (hk v hv).short k⟩
  have ne : ∀ {m : Nat}, rest.length ≠ m → (((rest.length + 1 : Nat) : Int) == ((m + 1 : Nat) : Int)) = false := fun {m} h => by rw [beq_eq_false_iff_ne]; clear q; omega
  have eqs : ∀ {y : Str}, k = y → (k == y) = true := fun h => by rw [h]; exact beq_self_eq_true _
  have nes : ∀ {y : Str}, k ≠ y → (k == y) = false := fun h => by rw [beq_eq_false_iff_ne]; exact h
  have fin : ∀ {b : Bool}, b = false → Q (.bool false) σ → Q (.bool b) σ := fun h q => h ▸ q
  unfold leafB at q
  by_cases h1 : k = "any"
  · rw [if_pos h1] at q
    refine Br.t (eqs h1) <| len ?_
    show Q (.bool (((rest.length + 1 : Nat) : Int) == ((0 + 1 : Nat) : Int))) σ
    cases rest with
    | nil => exact q
    | cons a r => rw [ne (by simp)]; exact q
  rw [if_neg h1] at q
  refine Br.f (nes h1) ?_
  by_cases h2 : k = "sign"
  · rw [if_pos h2] at q
    refine Br.t (eqs h2) <| len ?_
    rcases rest with _ | ⟨a, _ | ⟨b, r⟩⟩
    · exact q
    · exact sg (by simp) q
    · exact q
  rw [if_neg h2] at q
  refine Br.f (nes h2) ?_
  by_cases h3 : k = "rule"
  · rw [if_pos h3] at q
    refine Br.t (eqs h3) <| len ?_
    rcases rest with _ | ⟨a, _ | ⟨b, r⟩⟩
    · exact q
    · exact Cal.isi (isi_str (hk a (by simp))) q
    · exact q
  rw [if_neg h3] at q
  refine Br.f (nes h3) ?_
  by_cases h4 : k = "span"
  · rw [if_pos h4] at q
    refine Br.t (eqs h4) <| len ?_
    rcases rest with _ | ⟨a, _ | ⟨b, _ | ⟨c, r⟩⟩⟩
    · exact q
    · exact q
    · have q : Q (.bool (isSignV a && isSignV b && ordLe a b)) σ := q
      refine sg (by simp) <| Br.mk (fun ha => sg (by simp) <| Br.mk (fun hb => ?_) fun hb => ?_) fun ha => ?_
      · rw [ha, hb] at q
        obtain ⟨x, rfl⟩ := isSignV_one' ha
        obtain ⟨y, rfl⟩ := isSignV_one' hb
        refine Cal.ord <| Cal.ord ?_
        show Q (.bool (decide ((x : Int) ≤ y))) σ
        rw [show decide ((x : Int) ≤ y) = decide (x ≤ y) by rw [Bool.eq_iff_iff]; simp]
        exact q
      · rw [hb, Bool.and_false] at q; exact q
      · rw [ha] at q; exact q
    · exact q
  · rw [if_neg h4] at q
    exact Br.f (nes h4) q

/-- any part -/
theorem fn_is_partV (TO : TopOk (T04 w s)) : ∀ (n : Nat) (v : V) {m : Nat} {X : QX} {Q : QE} {σ : Hp}, Kd σ m v → Q (.bool (partB n v)) σ → CallOk (T04 w s) (d + n + 2) X (.glob "is_part") [v, .int n] Q σ := by
  intro n
  induction n with
  | zero =>
    intro v m X Q σ hk q
    refine CallOk.go (d := d + 1) TO (v := _) rfl ⟨⟨_, _, _, rfl, rfl, rfl, rfl, rfl, rfl, rfl, rfl, rfl, fun vals h => ?_⟩, rfl, rfl, rfl, rfl, rfl⟩ (ps := ["part", "room"]) rfl rfl ?_
    · obtain ⟨a, b, rfl⟩ := len2 h; rfl
    cases v <;> exact q
  | succ n ih =>
    intro v m X Q σ hk q
    refine CallOk.go (d := d + n + 2) TO (v := _) rfl ⟨⟨_, _, _, rfl, rfl, rfl, rfl, rfl, rfl, rfl, rfl, rfl, fun vals h => ?_⟩, rfl, rfl, rfl, rfl, rfl⟩ (ps := ["part", "room"]) rfl rfl ?_
    · obtain ⟨a, b, rfl⟩ := len2 h; rfl
    have kid : ∀ {u : V} {j : Nat} {K : QE} {σ' : Hp}, Kd σ' j u → K (.bool (partB n u)) σ' → Cal (T04 w s) (d + n + 2) X (.glob "is_part") [u, .int (((n + 1 : Nat) : Int) - 1)] K σ' := fun {u j K σ'} hu k => by
      rw [show ((n + 1 : Nat) : Int) - 1 = (n : Int) by clear q ih k; omega]
      exact ⟨ih u hu k⟩
    have fin : ∀ {b : Bool}, b = false → Q (.bool false) σ → Q (.bool b) σ := fun h q => h ▸ q
    cases hk with
    | tup hlen hk =>
      rename_i m vs
      refine Cal.isi (b := true) rfl ?_
      cases vs with
      | nil => exact Cal.lenT rfl q
      | cons u rest =>
        refine Cal.len (n := rest.length + 1) (by simp only [lenV, List.length_cons]) (by simp only [List.length_cons] at hlen; clear q ih kid; omega) <| Cal.isi (isi_str (hk u (by simp))) ?_
        cases u with
        | str k =>
          have hkr : ∀ v ∈ rest, Kd σ m v := fun v hv => hk v (by simp [hv])
          have len : ∀ {K : QE}, K (.int (rest.length + 1 : Nat)) σ → Cal (T04 w s) (d + n + 2) X (.bi "len") [.tup (.str k :: rest)] K σ := fun k => Cal.len rfl (by simp only [List.length_cons] at hlen ⊢; clear q ih kid k; omega) k
          have ne : ∀ {m : Nat}, rest.length ≠ m → (((rest.length + 1 : Nat) : Int) == ((m + 1 : Nat) : Int)) = false := fun {m} h => by rw [beq_eq_false_iff_ne]; clear q ih kid; omega
          have nee : ∀ {m : Nat}, rest.length ≠ m → (((rest.length + 1 : Nat) : Int) != ((m + 1 : Nat) : Int)) = true := fun {m} h => by rw [bne_iff_ne]; clear q ih kid; omega
          have eqs : ∀ {y : Str}, k = y → (k == y) = true := fun h => by rw [h]; exact beq_self_eq_true _
          have nes : ∀ {y : Str}, k ≠ y → (k == y) = false := fun h => by rw [beq_eq_false_iff_ne]; exact h
          have eqn : ∀ {y : Str}, k = y → (k != y) = false := fun h => by rw [bne_eq_false_iff_eq]; exact h
          have nen : ∀ {y : Str}, k ≠ y → (k != y) = true := fun h => by rw [bne_iff_ne]; exact h
          have long : ∀ {a b : V} {r : List V}, rest = a :: b :: r → rest.length ≠ 1 := fun h => by rw [h]; simp
          by_cases hm : k = "many"
          · subst hm
            rw [partB_many (.inl rfl)] at q
            refine len ?_
            rcases rest with _ | ⟨a, _ | ⟨b, r⟩⟩
            · exact q
            · exact kid (hkr a (by simp)) q
            · exact q
          by_cases hn : k = "not"
          · subst hn
            rw [partB_many (.inr rfl)] at q
            refine len ?_
            rcases rest with _ | ⟨a, _ | ⟨b, r⟩⟩
            · exact q
            · exact kid (hkr a (by simp)) q
            · exact q
          by_cases hr : k = "row"
          · subst hr
            rw [partB_seq (.inl rfl)] at q
            refine len ?_
            rcases rest with _ | ⟨a, _ | ⟨b, r⟩⟩
            · exact q
            · refine Cal.isi (isi_tup (hkr a (by simp))) ?_
              cases a with
              | tup ps =>
                have q : Q (.bool (!(decide ((Str.ofString "row") = (Str.ofString "or")) && ps.isEmpty) && ps.all (partB n))) σ := q
                rw [show decide ((Str.ofString "row") = (Str.ofString "or")) = false by decide +kernel, Bool.false_and, Bool.not_false, Bool.true_and] at q
                refine ForOk.mk ps (fun i ρ' σ' => Has ρ' [("room", .int ((n + 1 : Nat) : Int))] ∧ σ' = σ ∧ (ps.take i).all (partB n) = true) ⟨⟨rfl, trivial⟩, rfl, rfl⟩ (fun i ρ' σ' _ => rfl) (fun ρ' σ' h => ?_) fun i x ρ' σ' hJ hx => ?_
                · obtain ⟨_, rfl, h⟩ := h
                  rw [List.take_length] at h
                  rw [h] at q; exact q
                · obtain ⟨h1, rfl, h2⟩ := hJ
                  obtain ⟨r, rfl⟩ := h1.use
                  have hu := (hkr _ (by simp)).tup_mem x (List.mem_of_getElem? hx)
                  refine ⟨_, rfl, vB_ok TO rfl 60 _ _ _ _ <| kid hu <| Br.mk (fun hb => ?_) fun hb => ⟨⟨rfl, trivial⟩, rfl, ?_⟩⟩
                  · rw [show ps.all (partB n) = false by rw [List.all_eq_false]; exact ⟨x, List.mem_of_getElem? hx, by simpa using hb⟩] at q
                    exact q
                  · rw [take_next hx, List.all_append, h2]; simpa using hb
              | _ => exact q
            · cases a <;> exact q
          by_cases ho : k = "or"
          · subst ho
            rw [partB_seq (.inr rfl)] at q
            refine len ?_
            rcases rest with _ | ⟨a, _ | ⟨b, r⟩⟩
            · exact q
            · refine Cal.isi (isi_tup (hkr a (by simp))) ?_
              cases a with
              | tup ps =>
                have q : Q (.bool (!(decide ((Str.ofString "or") = (Str.ofString "or")) && ps.isEmpty) && ps.all (partB n))) σ := q
                rw [decide_eq_true (rfl : (Str.ofString "or") = Str.ofString "or"), Bool.true_and] at q
                cases hps : ps with
                | nil => rw [hps] at q; exact Cal.lenT rfl q
                | cons u0 r0 =>
                rw [← hps]
                have hpl : ps.length < 1000 := (hkr _ (by simp)).tup_len
                have hne : ps.isEmpty = false := by rw [hps]; rfl
                rw [hne, Bool.not_false, Bool.true_and] at q
                refine Cal.len (n := ps.length) rfl (by clear q ih kid; omega) <| Br.f (by rw [hps, beq_eq_false_iff_ne]; simp only [List.length_cons]; clear q ih kid; omega) ?_
                refine ForOk.mk ps (fun i ρ' σ' => Has ρ' [("room", .int ((n + 1 : Nat) : Int))] ∧ σ' = σ ∧ (ps.take i).all (partB n) = true) ⟨⟨rfl, trivial⟩, rfl, rfl⟩ (fun i ρ' σ' _ => rfl) (fun ρ' σ' h => ?_) fun i x ρ' σ' hJ hx => ?_
                · obtain ⟨_, rfl, h⟩ := h
                  rw [List.take_length] at h
                  rw [h] at q; exact q
                · obtain ⟨h1, rfl, h2⟩ := hJ
                  obtain ⟨r, rfl⟩ := h1.use
                  have hu := (hkr _ (by simp)).tup_mem x (List.mem_of_getElem? hx)
                  refine ⟨_, rfl, vB_ok TO rfl 60 _ _ _ _ <| kid hu <| Br.mk (fun hb => ?_) fun hb => ⟨⟨rfl, trivial⟩, rfl, ?_⟩⟩
                  · rw [show ps.all (partB n) = false by rw [List.all_eq_false]; exact ⟨x, List.mem_of_getElem? hx, by simpa using hb⟩] at q
                    exact q
                  · rw [take_next hx, List.all_append, h2]; simpa using hb
              | _ => exact q
            · cases a <;> exact q
          rw [partB_leaf (fun h => h.elim hm hn) ⟨hr, ho⟩] at q
          exact Br.f (nes hm) <| Br.f (nes hn) <| Br.t (nen hr) <| Br.t (nen ho) <| Cal.mk <| fn_is_leaf (d := d + n) TO (by simp only [List.length_cons] at hlen; clear q ih kid; omega) hkr q
        | _ => exact q
    | ref h _ => exact Cal.isi (b := false) (isi_tup (.ref h ‹_›)) q
    | none => exact Cal.isi (b := false) rfl q
    | bool => exact Cal.isi (b := false) rfl q
    | int => exact Cal.isi (b := false) rfl q
    | str => exact Cal.isi (b := false) rfl q
end Mine
namespace Mine
variable {w : World} {s : Shared} {d : Nat}
end Mine

open PySem PySem.W PyProof.Rows
set_option maxRecDepth 100000
namespace Mine
variable {w : World} {s : Shared} {d : Nat} {X : QX} {Q : QE} {σ : Hp}
set_option maxHeartbeats 2000000

theorem Pt.sizes_len : ∀ st : List Pt, st.length ≤ Pt.sizes st
  | [] => by simp
  | a :: r => by have := Pt.size_pos a; have := Pt.sizes_len r; simp only [Pt.sizes, List.length_cons]; omega
/-- what rules_in has found, and what is waiting -/
inductive J04f (p : Pt) (σ : Hp) (n : Nat) (ρ' : Loc) (σ' : Hp) : Prop where
  | mk (ns : List Str) (st : List Pt) (junk : Hp) (q0 : n = Pt.sizes st) (q1 : ns.length + Pt.sizes st ≤ p.size) (q2 : ∀ n ∈ ns, p.Asks n) (q3 : ∀ t ∈ st, Pt.All Pt.few t ∧ ∀ n, t.Asks n → p.Asks n) (q4 : ∀ n, p.Asks n → n ∈ ns ∨ ∃ t ∈ st, t.Asks n)
      (q5 : σ' = σ ++ .list (ns.map .str) :: .list (st.map Pt.v) :: junk) (q6 : Has ρ' [("found", .ref σ.length), ("waiting", .ref (σ.length + 1))]) : J04f p σ n ρ' σ'
theorem Pt.asks_kids {t : Pt} {n : Str} (h : t.Asks n) : t = .rule n ∨ ∃ k ∈ t.kids, k.Asks n := by
  cases h with
  | here => exact .inl rfl
  | deep hm hk => exact .inr ⟨_, hm, hk⟩
theorem fn_rules_in (TO : TopOk (T04 w s)) {p : Pt} (hfew : Pt.All Pt.few p) (hs : p.size < 100000) (q : ∀ (ns : List Str) (junk : Hp), (∀ n, n ∈ ns ↔ p.Asks n) → ns.length ≤ p.size → Q (.ref σ.length) (σ ++ .list (ns.map .str) :: junk)) : CallOk (T04 w s) (d + 2) X (.glob "rules_in") [p.v] Q σ := by
  refine CallOk.go TO (v := _) rfl ⟨⟨_, _, _, rfl, rfl, rfl, rfl, rfl, rfl, rfl, rfl, rfl, fun vals h => ?_⟩, rfl, rfl, rfl, rfl, rfl⟩ (ps := ["part"]) rfl rfl ?_
  · obtain ⟨a, rfl⟩ := len1 h; rfl
  refine Stx.mk <| StOk.while (J04f p σ) p.size ⟨[], [p], [], by simp [Pt.sizes], by simp [Pt.sizes], by simp, fun t ht => by cases List.mem_singleton.mp ht; exact ⟨hfew, fun _ h => h⟩, fun n hn => .inr ⟨p, by simp, hn⟩, by simp, ⟨rfl, by simp [upd], trivial⟩⟩ ?_
  rintro n ρ' σ' ⟨ns, st, junk, hn, hsz, hns, hst, hall, hσ, hρ⟩
  subst hn hσ
  obtain ⟨r, rfl⟩ := hρ.use
  have hsl := Pt.sizes_len st
  refine vT_ok TO rfl 40 10 _ _ _ <| tvc.of (b := !(st.map Pt.v).isEmpty) ?_ ?_
  · simp only [truthV, get1]
    rw [if_pos (by simp; (clear q; omega))]
  rcases List.eq_nil_or_concat st with rfl | ⟨init, t, rfl⟩
  · rw [if_neg (by simp)]
    refine q ns _ (fun n => ⟨hns n, fun hn => (hall n hn).elim id fun ⟨t, ht, _⟩ => by simp at ht⟩) (by (clear hs q; omega))
  rw [if_pos (by simp)]
  rw [List.concat_eq_append] at hsz hst hall ⊢
  have hsz1 : Pt.sizes (init ++ [t]) = Pt.sizes init + t.size := by rw [Pt.sizes_append]; simp [Pt.sizes]
  have hil := Pt.sizes_len init
  obtain ⟨⟨hfk, hfc⟩, hta⟩ := hst t (by simp)
  have htp := Pt.size_pos t
  have hkl : t.kids.length < 1000 := hfk
  have hks := Pt.kids_size t
  refine vB_ok TO rfl 60 _ _ _ _ <| MethOk.pop get1 <| Cal.mk <| CallOk.pop (v := t.v) (vs := init.map Pt.v) (by rw [get1]; simp) (by simp only [List.length_map]; exact szo (by (clear hks hkl htp q; omega))) ?_
  rw [set1]
  have fin : ∀ {ns' : List Str}, (∀ n ∈ ns', p.Asks n) → ns'.length ≤ ns.length + 1 → (∀ n ∈ ns, n ∈ ns') → (∀ n, t = .rule n → n ∈ ns') → ∃ m, m < Pt.sizes (init ++ [t]) ∧ J04f p σ m (locs r [("found", .ref σ.length), ("waiting", .ref (σ.length + 1))] |> fun ρ => upd ρ "one" (some t.v)) (σ ++ .list (ns'.map .str) :: .list ((init ++ t.kids).map Pt.v) :: (junk ++ [.list (t.kids.map Pt.v)])) := fun {ns'} h1 h2 h3 h4 =>
    ⟨Pt.sizes (init ++ t.kids), by rw [hsz1, Pt.sizes_append]; (clear h1 h2 h3 h4 hkl hil htp hs q hsz hsz1; omega), ns', init ++ t.kids, _, rfl, by rw [Pt.sizes_append]; (clear h1 h3 h4 hkl hil htp hs q; omega), h1, fun u hu => (List.mem_append.mp hu).elim (fun hu => hst u (List.mem_append_left _ hu)) fun hu => ⟨hfc u hu, fun n hn => hta n (.deep hu hn)⟩,
      fun n hn => (hall n hn).elim (fun h => .inl (h3 n h)) fun ⟨u, hu, hn⟩ => (List.mem_append.mp hu).elim (fun hu => .inr ⟨u, List.mem_append_left _ hu, hn⟩) fun hu => by
        cases List.mem_singleton.mp hu
        exact (Pt.asks_kids hn).elim (fun h => .inl (h4 n h)) fun ⟨k, hk, hn⟩ => .inr ⟨k, List.mem_append_right _ hk, hn⟩, rfl, ⟨rfl, rfl, trivial⟩⟩
  have fin2 : ∀ {ns' : List Str} {K : QE}, (K .none (σ ++ .list (ns'.map .str) :: .list ((init ++ t.kids).map Pt.v) :: (junk ++ [.list (t.kids.map Pt.v)]))) → Cal (T04 w s) (d + 1) X (.bi "list.extend") [.ref (σ.length + 1), .ref (σ ++ .list (ns'.map .str) :: .list (init.map Pt.v) :: junk).length] K ((σ ++ .list (ns'.map .str) :: .list (init.map Pt.v) :: junk) ++ [.list (t.kids.map Pt.v)]) := fun {ns' K} k =>
    ⟨CallOk.extend (vs := init.map Pt.v) (us := t.kids.map Pt.v) (by rw [List.append_assoc]; exact get1) get_new (by simp only [List.length_map]; exact szo (by (clear k fin htp q hks; omega))) (by
      rw [List.append_assoc, List.cons_append, List.cons_append, set1, ← List.map_append]; exact k)⟩
  have wi : ∀ {σ' : Hp} {K : QE}, K (.ref σ'.length) (σ' ++ [.list (t.kids.map Pt.v)]) → Cal (T04 w s) (d + 1) X (.glob "within") [t.v] K σ' := fun {σ' K} k => ⟨fn_within TO (szo (by (clear k fin fin2 q hks; omega))) k⟩
  cases t with
  | rule n =>
    refine MethOk.append get0 <| Cal.mk <| CallOk.append (vs := ns.map .str) get0 (by simp only [List.length_map]; exact szo (by (clear fin fin2 wi q; omega))) ?_
    rw [set0, show ns.map V.str ++ [V.str n] = (ns ++ [n]).map V.str by simp]
    exact MethOk.extend get1 <| wi <| fin2 <| fin (fun m hm => (List.mem_append.mp hm).elim (hns m) fun h => by cases List.mem_singleton.mp h; exact hta _ .here) (by simp) (fun m hm => List.mem_append_left _ hm) fun m hm => by cases hm; simp
  | _ => exact MethOk.extend get1 <| wi <| fin2 <| fin hns (Nat.le_succ _) (fun _ h => h) fun n h => by cases h
end Mine

open PySem PySem.W PyProof.Rows
set_option maxRecDepth 100000
namespace Mine
variable {w : World} {s : Shared} {d : Nat} {X : QX} {Q : QE} {σ : Hp}
set_option maxHeartbeats 4000000

theorem map_at {α : Type} {f : α → V} {rs : List α} {i : Nat} {x : V} (h : (rs.map f)[i]? = some x) : ∃ r, rs[i]? = some r ∧ x = f r := by
  rw [List.getElem?_map, Option.map_eq_some_iff] at h
  obtain ⟨r, hr, rfl⟩ := h
  exact ⟨r, hr, rfl⟩
theorem Cmp.strs {neg b : Bool} {x y : Str} (h : strIn x y = b) (q : Q (.bool (neg != b)) σ) : Cmp (if neg then .NotIn else .In) (.str x) (.str y) Q σ := by
  subst h
  cases neg
  · exact ⟨q⟩
  · exact ⟨q⟩
/-- in a dict of texts -/
theorem Cmp.met {neg : Bool} {n : Str} {l : Nat} {ns : List Str} (hl : σ[l]? = some (.sdict (metKV ns))) (q : Q (.bool (neg != decide (n ∈ ns))) σ) : Cmp (if neg then .NotIn else .In) (.str n) (.ref l) Q σ := by
  cases neg
  · exact ⟨.inr ⟨_, _, hl, rfl, by rw [metKV_any]; exact q⟩⟩
  · exact ⟨.inr ⟨_, _, hl, rfl, by rw [metKV_any]; exact q⟩⟩
theorem letters_all : ((List.range 128).all fun c => strIn ⟨#[c]⟩ (Str.ofString "abcdefghijklmnopqrstuvwxyz") == isLetter c) = true := by decide +kernel
theorem letter_iff {c : Nat} (h : c < 128) : strIn ⟨#[c]⟩ (Str.ofString "abcdefghijklmnopqrstuvwxyz") = isLetter c := eq_of_beq (List.all_eq_true.mp letters_all c (by simpa using h))
theorem name_end {x : Str} (h1 : decide ((1 : Int) ≤ (x.length : Int)) = true) (h2 : decide ((x.length : Int) ≤ 12) = true) (xs : List Nat) (hx : xs = x.cps.toList) : ((((xs.filter fun c => !isLetter c).map fun c => V.str ⟨#[c]⟩).length : Int) == 0) = isName x := by
  subst hx
  have h1 := of_decide_eq_true h1
  have h2 := of_decide_eq_true h2
  rw [Bool.eq_iff_iff]
  simp only [isName, List.length_map, beq_iff_eq, Bool.and_eq_true, decide_eq_true_eq, List.all_eq_true]
  constructor
  · intro h
    refine ⟨⟨by omega, by omega⟩, fun c hc => ?_⟩
    have h' : (x.cps.toList.filter fun c => !isLetter c).length = 0 := by omega
    have := List.filter_eq_nil_iff.mp (List.length_eq_zero_iff.mp h') c hc
    simpa using this
  · intro ⟨_, h⟩
    rw [List.filter_eq_nil_iff.mpr fun c hc => by simp [h c hc]]; rfl
theorem fn_is_nameV (TO : TopOk (T04 w s)) {v : V} {n : Nat} (hk : Kd σ n v) (ha : asciiV v) (q : ∀ junk, Q (.bool (nameV v)) (σ ++ junk)) : CallOk (T04 w s) (d + 1) X (.glob "is_name") [v] Q σ := by
  have q0 : Q (.bool (nameV v)) σ := by simpa using q []
  refine CallOk.go TO (v := _) rfl ⟨⟨_, _, _, rfl, rfl, rfl, rfl, rfl, rfl, rfl, rfl, rfl, fun vals h => ?_⟩, rfl, rfl, rfl, rfl, rfl⟩ (ps := ["value"]) rfl rfl ?_
  · obtain ⟨a, rfl⟩ := len1 h; rfl
  refine Cal.isi (isi_str hk) ?_
  cases v with
  | str x =>
    have hx : x.length < 1000 := by cases hk; assumption
    have hxl : x.cps.toList.length < 1000 := by rw [Array.length_toList]; exact hx
    refine Cal.len rfl (by clear q q0; omega) <| Br.mk (fun h1 => Br.mk (fun h2 => ?_) fun h2 => ?_) fun h1 => ?_
    · have h2 : ¬ x.length ≤ 12 := by rw [Bool.not_eq_true'] at h2; have := of_decide_eq_false h2; clear q q0; omega
      rw [show nameV (.str x) = false by simp [nameV, isName, h2]] at q0
      exact q0
    · refine ⟨x.cps.toList.map fun c => .str ⟨#[c]⟩, fun i acc σ' => acc = ((x.cps.toList.take i).filter fun c => !isLetter c).map (fun c => V.str ⟨#[c]⟩) ∧ σ' = σ, ⟨by simp, rfl⟩, fun i acc σ' hJ => ⟨rfl, ?_⟩, fun acc σ' hJ => ?_, fun i y acc σ' hJ hy => ?_⟩
      · rw [hJ.1, List.length_map]
        have := List.length_filter_le (fun c => !isLetter c) (x.cps.toList.take i)
        rw [List.length_take] at this
        exact szo (by clear q q0 hJ; omega)
      · obtain ⟨rfl, rfl⟩ := hJ
        rw [List.length_map, List.take_length]
        refine Cal.len (n := ((x.cps.toList.filter fun c => !isLetter c).map fun c => V.str ⟨#[c]⟩).length) (by simp only [lenV, get_new]) ?_ ?_
        · rw [List.length_map]
          have := List.length_filter_le (fun c => !isLetter c) x.cps.toList
          clear q q0; omega
        · have := q [.list ((x.cps.toList.filter fun c => !isLetter c).map fun c => V.str ⟨#[c]⟩)]
          rw [show nameV (.str x) = isName x from rfl, ← name_end (x := x) h1 (by simpa using h2) _ rfl] at this
          exact this
      · obtain ⟨rfl, rfl⟩ := hJ
        obtain ⟨c, hc, rfl⟩ := map_at hy
        refine vT_ok TO rfl 40 10 _ _ _ <| Cmp.strs (neg := true) (letter_iff (ha c (List.mem_of_getElem? hc))) ?_
        cases hl : isLetter c
        · exact vE_ok TO rfl 40 _ _ _ ⟨by rw [take_next hc, List.filter_append, List.filter_cons]; simp [hl], rfl⟩
        · exact ⟨by rw [take_next hc, List.filter_append, List.filter_cons]; simp [hl], rfl⟩
    · have h1 : ¬ 1 ≤ x.length := by have := of_decide_eq_false h1; clear q q0; omega
      rw [show nameV (.str x) = false by simp [nameV, isName, h1]] at q0
      exact q0
  | _ => exact q0

theorem drop_h {α : Type} {l : List α} {i : Nat} {k : α} (hk : l[i]? = some k) : l.drop i = k :: l.drop (i + 1) := by
  obtain ⟨hi, e⟩ := List.getElem?_eq_some_iff.mp hk
  rw [← e]; exact List.drop_eq_getElem_cons hi
inductive J04b (l : Nat) (σ : Hp) (rs : List (V × V)) (i : Nat) (ρ' : Loc) (σ' : Hp) : Prop where
  | mk (ms : List Str) (q0 : Has ρ' [("rules", .ref l), ("met", .ref σ.length)]) (junk : Hp) (q1 : σ' = σ ++ .sdict (metKV ms) :: junk) (q2 : pass1 ms (rs.drop i) = false) (q3 : ms.length ≤ i) : J04b l σ rs i ρ' σ'
theorem fn_need_bad (TO : TopOk (T04 w s)) {l : Nat} {rs : List (V × V)} (hl : σ[l]? = some (.list (rs.map pV))) (hk : ∀ r ∈ rs, Kd σ 40 r.1 ∧ Kd σ 40 r.2 ∧ asciiV r.1) (hn : rs.length < 1000) (hb : 1 ≤ rs.length → rs.length ≤ 40 → pass1 [] rs = false) (q : ∀ junk, X "NoGrammar" (σ ++ junk)) :
    CallOk (T04 w s) (d + 16) X (.glob "need_rules") [.ref l] Q σ := by
  refine CallOk.go TO (v := _) rfl ⟨⟨_, _, _, rfl, rfl, rfl, rfl, rfl, rfl, rfl, rfl, rfl, fun vals h => ?_⟩, rfl, rfl, rfl, rfl, rfl⟩ (ps := ["rules"]) rfl rfl ?_
  · obtain ⟨a, rfl⟩ := len1 h; rfl
  have q0 : X "NoGrammar" σ := by simpa using q []
  refine Cal.isi (b := true) (by simp only [isiV, kindName, hl]; rfl) <| Cal.len (n := rs.length) (by simp only [lenV, hl, List.length_map]) (by (clear hl; omega)) <| Br.mk (fun h1 => Br.mk (fun h2 => ?_) fun h2 => ?_) fun h1 => ?_
  · exact Stx.mk <| StOk.raise TO rfl rfl rfl rfl rfl (by kernel_rfl) q0
  rotate_left
  · exact Stx.mk <| StOk.raise TO rfl rfl rfl rfl rfl (by kernel_rfl) q0
  have h1 : 1 ≤ rs.length := by have := of_decide_eq_true h1; (clear hl hb; omega)
  have h2 : rs.length ≤ 40 := by rw [Bool.not_eq_false'] at h2; have := of_decide_eq_true h2; (clear hl hb; omega)
  have hb := hb h1 h2
  refine ForOk.mk (rs.map pV) (J04b l σ rs) ⟨[], ⟨rfl, rfl, trivial⟩, [], by simp [metKV], hb, Nat.le_refl _⟩ (fun i ρ' σ' hJ => ?_) (fun ρ' σ' hJ => ?_) fun i x ρ' σ' hJ hx => ?_
  · obtain ⟨ms, _, junk, rfl, _⟩ := hJ
    simp only [iterV, get_up hl]
  · obtain ⟨ms, _, junk, _, h, _⟩ := hJ
    rw [List.length_map, List.drop_length] at h
    cases h
  · obtain ⟨ms, hρ, junk, rfl, hp, hml⟩ := hJ
    obtain ⟨r, hr, rfl⟩ := map_at hx
    obtain ⟨ρ₀, rfl⟩ := hρ.use
    obtain ⟨a, b⟩ := r
    obtain ⟨k1, k2, k3⟩ := hk (a, b) (List.mem_of_getElem? hr)
    have hi : i < rs.length := (List.getElem?_eq_some_iff.mp hr).1
    rw [drop_h hr] at hp
    refine ⟨_, rfl, vB_ok TO rfl 60 _ _ _ _ <| Cal.isi rfl <| Cal.lenT rfl <| Cal.mk <| fn_is_nameV TO k1.up k3 fun jk => ?_⟩
    rw [List.append_assoc]
    have bad : ∀ {Z : QS} {ρ : Loc} {sc : Scope} {st : Stmt} {jk : Hp}, (X "NoGrammar" (σ ++ jk) → Stx (T04 w s) (d + 15) sc ρ X st Z (σ ++ jk)) → Stx (T04 w s) (d + 15) sc ρ X st Z (σ ++ jk) := fun h => h (q _)
    have rz := fun (jk : Hp) => q jk
    cases a with
    | str x =>
      refine Br.mk (fun hnm => bad fun h => Stx.mk <| StOk.raise TO rfl rfl rfl rfl rfl (by kernel_rfl) h) fun hnm => ?_
      rw [List.cons_append]
      refine Cmp.met (neg := false) (ns := ms) get0 <| Br.mk (fun hin => bad fun h => Stx.mk <| StOk.raise TO rfl rfl rfl rfl rfl (by kernel_rfl) h) fun hin => Cal.mk <| fn_is_partV (d := d + 1) TO 12 b k2.up <| Br.mk (fun hpt => bad fun h => Stx.mk <| StOk.raise TO rfl rfl rfl rfl rfl (by kernel_rfl) h) fun hpt => ?_
      have hnm : isName x = true := by simpa [nameV] using hnm
      have hin : x ∉ ms := by simpa using hin
      have hpt : partB 12 b = true := by simpa using hpt
      have hp : (isName x && !(decide (x ∈ ms)) && partB 12 b && pass1 (ms ++ [x]) (rs.drop (i + 1))) = false := hp
      rw [hnm, hpt, decide_eq_false hin, Bool.not_false, Bool.true_and, Bool.true_and, Bool.true_and] at hp
      refine SetItemOk.mk _ _ _ rfl rfl get0 (by simp only [metKV, List.length_map]; exact szo (by (clear hl hr; omega))) ?_
      rw [set0, metKV_set hin]
      exact ⟨ms ++ [x], ⟨rfl, rfl, trivial⟩, junk ++ jk, rfl, hp, by simp; (clear hl hr; omega)⟩
    | _ => exact bad fun h => Stx.mk <| StOk.raise TO rfl rfl rfl rfl rfl (by kernel_rfl) h

inductive J04h (l : Nat) (σ : Hp) (ns : List Str) (P : Prop) (ρ' : Loc) (σ' : Hp) : Prop where
  | mk (q0 : Has ρ' [("rules", .ref l), ("met", .ref σ.length)]) (junk : Hp) (q2 : σ' = σ ++ .sdict (metKV ns) :: junk) (q3 : P) : J04h l σ ns P ρ' σ'
theorem fn_need_fine (TO : TopOk (T04 w s)) {l : Nat} {rs : List (Str × Pt)} (hl : σ[l]? = some (.list (rs.map ruleV))) (h1 : 1 ≤ rs.length) (hm : rs.length ≤ 40) (hnd : (rs.map (·.1)).Nodup) (hf : ∀ r ∈ rs, Fine r)
    (q : (∀ r ∈ rs, ∀ n, r.2.Asks n → n ∈ rs.map (·.1)) → ∀ junk, Q .none (σ ++ junk)) (qx : (∃ r ∈ rs, ∃ n, r.2.Asks n ∧ n ∉ rs.map (·.1)) → ∀ junk, X "NoRule" (σ ++ junk)) : CallOk (T04 w s) (d + 16) X (.glob "need_rules") [.ref l] Q σ := by
  refine CallOk.go TO (v := _) rfl ⟨⟨_, _, _, rfl, rfl, rfl, rfl, rfl, rfl, rfl, rfl, rfl, fun vals h => ?_⟩, rfl, rfl, rfl, rfl, rfl⟩ (ps := ["rules"]) rfl rfl ?_
  · obtain ⟨a, rfl⟩ := len1 h; rfl
  refine Cal.isi (b := true) (by simp only [isiV, kindName, hl]; rfl) <| Cal.len (n := rs.length) (by simp only [lenV, hl, List.length_map]) (by (clear hl; omega)) <| Br.t (decide_eq_true (by (clear hl; omega))) <| Br.f (by rw [decide_eq_true (by (clear hl; omega))]; rfl)
    ⟨rs.map ruleV, fun i => J04h l σ ((rs.take i).map (·.1)) True, ⟨⟨rfl, rfl, trivial⟩, [], by simp [metKV], trivial⟩, fun i ρ' σ' hJ => ?_, fun ρ' σ' hJ => ?_, fun i x ρ' σ' hJ hx => ?_⟩
  · obtain ⟨_, junk, rfl, _⟩ := hJ
    simp only [iterV, get_up hl]
  · obtain ⟨hρ, junk, rfl, _⟩ := hJ
    rw [List.length_map, List.take_length]
    obtain ⟨r, rfl⟩ := hρ.use
    refine ⟨rs.map ruleV, fun i => J04h l σ (rs.map (·.1)) (∀ r ∈ rs.take i, ∀ n, r.2.Asks n → n ∈ rs.map (·.1)), ⟨⟨rfl, rfl, trivial⟩, junk, rfl, by simp⟩, fun i ρ₂ σ₂ hJ => ?_, fun ρ₂ σ₂ hJ => ?_, fun i x ρ₂ σ₂ hJ hx => ?_⟩
    · obtain ⟨_, jk, rfl, _⟩ := hJ
      simp only [iterV, get_up hl]
    · obtain ⟨_, jk, rfl, h⟩ := hJ
      rw [List.length_map, List.take_length] at h
      exact q h _
    · obtain ⟨hρ, jk, rfl, hsf⟩ := hJ
      obtain ⟨r, hr, rfl⟩ := map_at hx
      obtain ⟨r', rfl⟩ := hρ.use
      have hrm := List.mem_of_getElem? hr
      have hG := hf r hrm
      refine ⟨_, rfl, vB_ok TO rfl 60 _ _ _ _ <| Cal.mk <| fn_rules_in (d := d + 13) TO hG.few hG.size fun ns jk2 hns hln => ⟨ns.map .str, fun j ρ₃ σ₃ => Has ρ₃ [("rules", .ref l), ("met", .ref σ.length)] ∧ σ₃ = (σ ++ .sdict (metKV (rs.map (·.1))) :: jk) ++ .list (ns.map .str) :: jk2 ∧ ∀ n ∈ ns.take j, n ∈ rs.map (·.1), ⟨⟨rfl, rfl, trivial⟩, rfl, by simp⟩, fun i ρ₃ σ₃ hJ => ?_, fun ρ₃ σ₃ hJ => ?_, fun i y ρ₃ σ₃ hJ hy => ?_⟩⟩
      · rw [hJ.2.1]; simp only [iterV, get0]
      · obtain ⟨h1, h2, h3⟩ := hJ
        rw [List.length_map, List.take_length] at h3
        refine ⟨h1, jk ++ .list (ns.map .str) :: jk2, by rw [h2, List.append_assoc, List.cons_append], fun r' hr' n hn => ?_⟩
        rw [take_next hr] at hr'
        rcases List.mem_append.mp hr' with g | g
        · exact hsf r' g n hn
        · cases List.mem_singleton.mp g
          exact h3 n ((hns n).mpr hn)
      · obtain ⟨hρ, rfl, h3⟩ := hJ
        obtain ⟨n, hn, rfl⟩ := map_at hy
        obtain ⟨r', rfl⟩ := hρ.use
        refine ⟨_, rfl, vB_ok TO rfl 60 _ _ _ _ <| Cmp.met (neg := true) (ns := rs.map (·.1)) (by rw [List.append_assoc, List.cons_append]; exact get0) <| Br.mk (fun hno => ?_) fun hin => ⟨⟨rfl, rfl, trivial⟩, rfl, fun m hm => ?_⟩⟩
        · have := qx ⟨r, hrm, n, (hns n).mp (List.mem_of_getElem? hn), by simpa using hno⟩ (.sdict (metKV (rs.map (·.1))) :: jk ++ .list (ns.map .str) :: jk2)
          rw [← List.append_assoc] at this
          exact Stx.mk <| StOk.raise TO rfl rfl rfl rfl rfl (by kernel_rfl) this
        · rw [take_next hn] at hm
          rcases List.mem_append.mp hm with g | g
          · exact h3 m g
          · cases List.mem_singleton.mp g; simpa using hin
  · obtain ⟨hρ, junk, rfl, _⟩ := hJ
    obtain ⟨r, hr, rfl⟩ := map_at hx
    obtain ⟨r', rfl⟩ := hρ.use
    have hG := hf r (List.mem_of_getElem? hr)
    have hnew : r.1 ∉ (rs.take i).map (·.1) := nodup_take hnd hr
    have hna := isName_ascii hG.name
    refine ⟨_, rfl, vB_ok TO rfl 60 _ _ _ _ <| Cal.isi rfl <| Cal.lenT rfl <| Cal.mk <| fn_is_nameV (n := 0) TO (.str hna.2 (sOk_name hG.name)) hna.1 fun jk => ?_⟩
    rw [show nameV (.str r.1) = true from hG.name, List.append_assoc, List.cons_append]
    refine Cmp.met (neg := false) (ns := (rs.take i).map (·.1)) get0 <| Br.f (by simpa using hnew) <| Cal.mk <| fn_is_partV (d := d + 1) TO 12 r.2.v (Pt.kd 12 r.2 hG.deep hG.ok) ?_
    rw [hG.part]
    refine SetItemOk.mk _ _ _ rfl rfl get0 (by simp [metKV]; exact szo (by (clear hr hl; omega))) ?_
    rw [set0, metKV_set hnew]
    refine ⟨⟨rfl, rfl, trivial⟩, junk ++ jk, ?_, trivial⟩
    rw [take_next hr, List.map_append]; rfl
theorem GoodRules.fine {rs : List (Str × Pt)} (hg : GoodRules rs) : ∀ r ∈ rs, Fine r := fun r hr => by
  have hG := hg.all r hr
  refine ⟨hG.name, Pt.ok_of 12 r.2 hG.deep hG.good hG.few fun m hm => ?_, hG.deep, hG.size⟩
  obtain ⟨r', hr', rfl⟩ := List.mem_map.mp (hG.asks m hm)
  exact ⟨(isName_ascii (hg.all r' hr').name).2, sOk_name (hg.all r' hr').name⟩
theorem fn_need_rules (TO : TopOk (T04 w s)) {l : Nat} {rs : List (Str × Pt)} (hl : σ[l]? = some (.list (rs.map ruleV))) (hg : GoodRules rs) (q : ∀ junk, Q .none (σ ++ junk)) : CallOk (T04 w s) (d + 16) X (.glob "need_rules") [.ref l] Q σ :=
  fn_need_fine TO hl hg.one hg.most hg.nodup hg.fine (fun _ => q) fun ⟨r, hr, n, h1, h2⟩ => absurd ((hg.all r hr).asks n h1) h2
end Mine

open PySem PySem.W PyProof.Rows
set_option maxRecDepth 100000
namespace Mine
variable {w : World} {s : Shared} {d : Nat}
set_option maxHeartbeats 4000000

theorem may_all {B : Str → Bool} {ps : List Pt} : Pt.may B (.row ps) = (ps.map (Pt.may B)).all id := by rw [Pt.may, Pt.mayAll_eq, List.all_map]; rfl
theorem may_any {B : Str → Bool} {ps : List Pt} : Pt.may B (.alt ps) = (ps.map (Pt.may B)).any id := by rw [Pt.may, Pt.mayAny_eq, List.any_map]; rfl
theorem Cmp.keys {n : Str} {l : Nat} {kvs : List (Str × V)} {Q : QE} {σ : Hp} (hl : σ[l]? = some (.sdict kvs)) (q : Q (.bool (hasK kvs n)) σ) : Cmp .In (.str n) (.ref l) Q σ := ⟨.inr ⟨_, _, hl, rfl, by rw [Bool.false_bne]; exact q⟩⟩
theorem fn_may (TO : TopOk (T04 w s)) {b : Nat} {kvs : List (Str × V)} : ∀ (n : Nat) (p : Pt) {X : QX} {Q : QE} {σ : Hp}, p.deep ≤ n → Pt.All Pt.few p → σ[b]? = some (.sdict kvs) → (∀ junk, Q (.bool (p.may (hasK kvs))) (σ ++ junk)) → CallOk (T04 w s) (d + n + 1) X (.glob "may_be_empty") [p.v, .ref b] Q σ := by
  intro n
  induction n with
  | zero => intro p X Q σ hn; exact absurd (Pt.deep_pos p) (by omega)
  | succ n ih =>
    intro p X Q σ hn hf hb q
    have q0 : Q (.bool (p.may (hasK kvs))) σ := by simpa using q []
    obtain ⟨hfk, hfc⟩ := hf
    have hkl : p.kids.length < 1000 := hfk
    refine CallOk.go TO (v := _) rfl ⟨⟨_, _, _, rfl, rfl, rfl, rfl, rfl, rfl, rfl, rfl, rfl, fun vals h => ?_⟩, rfl, rfl, rfl, rfl, rfl⟩ (ps := ["part", "bare"]) rfl rfl ?_
    · obtain ⟨a, b, rfl⟩ := len2 h; rfl
    have run : ∀ {sc : Scope} {scope : Scope} {ρ : Loc} {elt : Expr} {K : QE}, (∀ jk, K (.ref (σ ++ .list (p.kids.map Pt.v) :: jk).length) (σ ++ .list (p.kids.map Pt.v) :: jk ++ [.list (p.kids.map fun k => V.bool (k.may (hasK kvs)))])) →
        (∀ (k : Pt) {Z : QE} {σ' : Hp}, Cal (T04 w s) (d + n + 1) X (.glob "may_be_empty") [k.v, .ref b] Z σ' → EvOk (T04 w s) (d + n + 1) (relab scope sc) (upd (compLoc scope ρ) "one" (some k.v)) X elt Z σ') →
        CompOk (T04 w s) (d + n + 1) sc ρ X scope "one" [] elt K (.ref σ.length) (σ ++ [.list (p.kids.map Pt.v)]) := fun {sc scope ρ elt K} hK he =>
      ⟨p.kids.map Pt.v, fun i acc σ' => acc = (p.kids.take i).map (fun k => V.bool (k.may (hasK kvs))) ∧ ∃ junk, σ' = σ ++ .list (p.kids.map Pt.v) :: junk, ⟨by simp, [], rfl⟩, fun i acc σ' hJ => by
        obtain ⟨rfl, junk, rfl⟩ := hJ
        exact ⟨by simp only [iterV, get0], by simp only [List.length_map, List.length_take]; exact szo (by (clear hb ih hn q q0 hK he; omega))⟩, fun acc σ' hJ => by
        obtain ⟨rfl, junk, rfl⟩ := hJ
        rw [List.length_map, List.take_length]
        exact hK junk, fun i y acc σ' hJ hy => by
        obtain ⟨rfl, junk, rfl⟩ := hJ
        obtain ⟨k, hk, rfl⟩ := map_at hy
        have hm := List.mem_of_getElem? hk
        refine he k ⟨ih k (by have := Pt.kids_deep hm; (clear hk hkl hb ih q q0 hK he; omega)) (hfc k hm) (get_up hb) fun jk => ⟨?_, junk ++ jk, by simp⟩⟩
        rw [take_next hk, List.map_append]; rfl⟩
    have wi : ∀ {K : QE}, K (.ref σ.length) (σ ++ [.list (p.kids.map Pt.v)]) → Cal (T04 w s) (d + n + 1) X (.glob "within") [p.v] K σ := fun {K} k => ⟨fn_within (d := d + n) TO (szo (by (clear hb ih hn q q0 k run; omega))) k⟩
    have el : ∀ {ps : List Pt}, allB (ps.map fun k => V.bool (k.may (hasK kvs))) = some (ps.map (Pt.may (hasK kvs))) := allB_map _ _
    cases p with
    | many p => exact q0
    | nt p => exact q0
    | rule m => exact Cmp.keys hb q0
    | row ps =>
      refine wi <| run (fun jk => Cal.mk (CallOk.all get_new el ?_)) fun k Z σ' h => vE_ok TO rfl 40 _ _ _ h
      have := q (.list (ps.map Pt.v) :: jk ++ [.list (ps.map fun k => V.bool (k.may (hasK kvs)))])
      rw [may_all, ← List.append_assoc] at this
      exact this
    | alt ps =>
      refine wi <| run (fun jk => Cal.mk (CallOk.any get_new el ?_)) fun k Z σ' h => vE_ok TO rfl 40 _ _ _ h
      have := q (.list (ps.map Pt.v) :: jk ++ [.list (ps.map fun k => V.bool (k.may (hasK kvs)))])
      rw [may_any, ← List.append_assoc] at this
      exact this
    | sign c =>
      refine wi <| run (fun jk => ?_) fun k Z σ' h => vE_ok TO rfl 40 _ _ _ h
      have := q (.list [] :: jk ++ [.list []])
      rw [← List.append_assoc] at this
      exact this
    | span a b =>
      refine wi <| run (fun jk => ?_) fun k Z σ' h => vE_ok TO rfl 40 _ _ _ h
      have := q (.list [] :: jk ++ [.list []])
      rw [← List.append_assoc] at this
      exact this
    | any =>
      refine wi <| run (fun jk => ?_) fun k Z σ' h => vE_ok TO rfl 40 _ _ _ h
      have := q (.list [] :: jk ++ [.list []])
      rw [← List.append_assoc] at this
      exact this
end Mine

open PySem PySem.W PyProof.Rows
set_option maxRecDepth 100000
namespace Mine
variable {w : World} {s : Shared} {d : Nat}
set_option maxHeartbeats 4000000

theorem drop_at {α : Type} {l : List α} {i : Nat} {k : α} (hk : l[i]? = some k) : l.drop i = k :: l.drop (i + 1) := by
  obtain ⟨hi, e⟩ := List.getElem?_eq_some_iff.mp hk
  rw [← e]; exact List.drop_eq_getElem_cons hi
/-- what ahead has found so far -/
inductive J04j (p : Pt) (b : Nat) (σ : Hp) (B : Str → Bool) (i : Nat) (ρ' : Loc) (σ' : Hp) : Prop where
  | mk (r : Nat) (acc : List Str) (junk : Hp) (q0 : Has ρ' [("found", .ref r), ("part", .tup (.str p.word :: p.rest)), ("bare", .ref b)]) (q3 : σ.length ≤ r) (q4 : σ' = σ ++ junk) (q7 : σ'[σ.length + 1]? = some (.list (p.kids.map Pt.v))) (q5 : σ'[r]? = some (.list (acc.map V.str))) (q6 : acc ++ ahdK B (p.word == "row") (p.kids.drop i) = ahdK B (p.word == "row") p.kids) : J04j p b σ B i ρ' σ'
theorem fn_ahead (TO : TopOk (T04 w s)) {b : Nat} {kvs : List (Str × V)} : ∀ (n : Nat) (p : Pt) {X : QX} {Q : QE} {σ : Hp}, p.deep ≤ n → p.size < 100000 → Pt.All Pt.few p → σ[b]? = some (.sdict kvs) →
    (∀ r junk, σ.length ≤ r → (σ ++ junk)[r]? = some (.list ((p.ahd (hasK kvs)).map V.str)) → Q (.ref r) (σ ++ junk)) → CallOk (T04 w s) (d + n + 1) X (.glob "ahead") [p.v, .ref b] Q σ := by
  intro n
  induction n with
  | zero => intro p X Q σ hn; exact absurd (Pt.deep_pos p) (by omega)
  | succ n ih =>
    intro p X Q σ hn hsz hf hb q
    obtain ⟨hfk, hfc⟩ := hf
    have hkl : p.kids.length < 1000 := hfk
    rw [p.head]
    refine CallOk.go TO (v := _) rfl ⟨⟨_, _, _, rfl, rfl, rfl, rfl, rfl, rfl, rfl, rfl, rfl, fun vals h => ?_⟩, rfl, rfl, rfl, rfl, rfl⟩ (ps := ["part", "bare"]) rfl rfl ?_
    · obtain ⟨a, b, rfl⟩ := len2 h; rfl
    by_cases h3 : p.word = "rule"
    · obtain ⟨m, rfl⟩ := Pt.word_rule h3
      exact q _ _ (Nat.le_refl _) (by simp [Pt.ahd])
    have wi : ∀ {σ' : Hp} {K : QE}, K (.ref σ'.length) (σ' ++ [.list (p.kids.map Pt.v)]) → Cal (T04 w s) (d + n + 1) X (.glob "within") [.tup (.str p.word :: p.rest)] K σ' := fun {σ' K} k => ⟨by rw [← p.head]; exact fn_within (d := d + n) TO (szo (by (clear hb ih hn q k hsz; omega))) k⟩
    refine Br.f (by simpa using h3) <| wi ?_
    have htot : (ahdK (hasK kvs) (p.word == "row") p.kids).length ≤ p.size := by
      rw [← Pt.ahd_kids h3]; exact Pt.ahd_size _ _
    have done : ∀ {r : Nat} {acc : List Str} {jk : Hp}, σ.length ≤ r → (σ ++ jk)[r]? = some (.list (acc.map V.str)) → acc = ahdK (hasK kvs) (p.word == "row") p.kids → Q (.ref r) (σ ++ jk) := fun {r acc jk} h1 h2 h3' => by
      rw [h3', ← Pt.ahd_kids h3] at h2
      exact q r _ h1 h2
    refine ⟨p.kids.map Pt.v, J04j p b σ (hasK kvs), ⟨σ.length, [], [.list [], .list (p.kids.map Pt.v)], ⟨rfl, rfl, rfl, trivial⟩, Nat.le_refl _, by simp, by simp, by simp, by simp⟩, fun i ρ' σ' hJ => ?_, fun ρ' σ' hJ => ?_, fun i x ρ' σ' hJ hx => ?_⟩
    · obtain ⟨r, acc, junk, _, _, _, h7, _⟩ := hJ
      simp only [iterV, List.length_append, List.length_cons, List.length_nil, h7]
    · obtain ⟨r, acc, junk, a1, a4, rfl, a7, a5, a6⟩ := hJ
      obtain ⟨r', rfl⟩ := a1.use
      rw [List.length_map, List.drop_length, ahdK, List.append_nil] at a6
      exact done a4 a5 a6
    · obtain ⟨r, acc, junk, a1, a4, rfl, a7, a5, a6⟩ := hJ
      obtain ⟨r', rfl⟩ := a1.use
      obtain ⟨k, hk, rfl⟩ := map_at hx
      have hm := List.mem_of_getElem? hk
      have hkd := Pt.kids_deep hm
      rw [drop_at hk, ahdK] at a6
      have hlen : (acc ++ k.ahd (hasK kvs)).length ≤ p.size := by
        have := congrArg List.length a6
        simp only [List.length_append] at this ⊢
        (clear hkd a4 a5 a6 a7 hk ih hn hsz hb q hkl done; omega)
      refine ⟨_, rfl, vB_ok TO rfl 60 _ _ _ _ <| Cal.mk <| ih k (by (clear htot hlen hk a5 a6 a7 q hkl a4 hsz hb ih done; omega)) (by have := Pt.size_mem hm; (clear hlen htot a5 a6 a7 hk hkd q hkl a4 hb ih hn done; omega)) (hfc k hm) (get_up hb) fun r2 jk hr2 hl2 => Bin.lists (get_up a5) hl2 (by simp only [List.length_map]; simp only [List.length_append] at hlen; exact szo (by (clear hl2 hr2 a6 a7 hk hkd htot q hkl a4 a5 hb ih hn done; omega))) ?_⟩
      rw [← List.map_append]
      have hle : σ.length ≤ (σ ++ junk ++ jk).length := by simp only [List.length_append]; omega
      have hgn : ∀ {j3 : Hp}, (σ ++ junk ++ jk ++ [MObj.list ((acc ++ k.ahd (hasK kvs)).map V.str)] ++ j3)[(σ ++ junk ++ jk).length]? = some (.list ((acc ++ k.ahd (hasK kvs)).map V.str)) := by
        intro j3; exact get_up get_new
      have hap : ∀ {j3 : Hp}, σ ++ junk ++ jk ++ [MObj.list ((acc ++ k.ahd (hasK kvs)).map V.str)] ++ j3 = σ ++ (junk ++ (jk ++ ([MObj.list ((acc ++ k.ahd (hasK kvs)).map V.str)] ++ j3))) := by
        intro j3; simp only [List.append_assoc]
      have next : ∀ {j3 : Hp} {ρ : Loc}, Has ρ [("found", .ref (σ ++ junk ++ jk).length), ("part", .tup (.str p.word :: p.rest)), ("bare", .ref b)] → (acc ++ k.ahd (hasK kvs)) ++ ahdK (hasK kvs) (p.word == "row") (p.kids.drop (i + 1)) = ahdK (hasK kvs) (p.word == "row") p.kids → J04j p b σ (hasK kvs) (i + 1) ρ (σ ++ junk ++ jk ++ [MObj.list ((acc ++ k.ahd (hasK kvs)).map V.str)] ++ j3) := fun {j3 ρ} h1 h2 => ⟨_, acc ++ k.ahd (hasK kvs), _, h1, hle, hap, get_up (get_up (get_up a7)), hgn, h2⟩
      by_cases h4 : p.word = "row"
      · have e4 : (p.word == "row") = true := by simpa using h4
        rw [e4] at a6 done next
        refine Br.t e4 <| Cal.mk <| fn_may (d := d) TO n k (by (clear hlen hr2 hl2 htot a6 a7 hk q hkl a4 a5 hsz hb ih done hle hgn hap next; omega)) (hfc k hm) (get_up (get_up (get_up hb))) fun jk3 => Br.mk (fun hm => ?_) fun hm => ?_
        · rw [Bool.not_eq_true'] at hm
          have := hgn (j3 := jk3)
          rw [hap] at this ⊢
          exact done hle this (by rw [← a6, hm]; simp)
        · rw [Bool.not_eq_false'] at hm
          exact next ⟨rfl, rfl, rfl, trivial⟩ (by rw [← a6, hm]; simp)
      · have e4 : (p.word == "row") = false := by simpa using h4
        have := next (j3 := []) (ρ := upd (upd (locs r' [("found", .ref r), ("part", .tup (.str p.word :: p.rest)), ("bare", .ref b)]) "one" (some k.v)) "found" (some (.ref (σ ++ junk ++ jk).length))) ⟨rfl, rfl, rfl, trivial⟩ (by rw [e4] at a6 ⊢; rw [← a6]; simp)
        rw [List.append_nil] at this
        exact Br.f e4 this
end Mine

open PySem PySem.W PyProof.Rows
set_option maxRecDepth 100000
namespace Mine
variable {w : World} {s : Shared} {d : Nat} {X : QX} {Q : QE} {σ : Hp}
set_option maxHeartbeats 4000000

/-- a method that the class has, a field that it lets be -/
noncomputable def MetAt (T : Tp) (C : Addr) (x : Str) : Prop := ∃ fa, PySem.W.findIn T.K (.ref C) x = some (some (.ref fa)) ∧ PySem.W.typeIn T.K (.ref fa) = some (.type "function") ∧ PySem.W.keepIn T.K (.ref fa) = true
noncomputable def FldAt (T : Tp) (C : Addr) (x : Str) : Prop := PySem.W.findIn T.K (.ref C) x = some none ∧ PySem.W.takerIn T.K C x = some none
structure GrCls (T : Tp) (C : Addr) : Prop where
  cls : ClsAt T "Grammar" C
  pairs : FldAt T C "pairs"
  table : FldAt T C "table"
  bare : FldAt T C "bare"
  leads : FldAt T C "leads"
  comes_back : MetAt T C "comes_back"
  need : MetAt T C "need"
  names : MetAt T C "names"
  part : MetAt T C "part"
  asked : MetAt T C "asked"
theorem gr_cls : ∃ C, GrCls (T04 w s) C := ⟨_, ⟨rfl, rfl, rfl, rfl, rfl, rfl⟩, ⟨rfl, rfl⟩, ⟨rfl, rfl⟩, ⟨rfl, rfl⟩, ⟨rfl, rfl⟩, ⟨_, rfl, rfl, rfl⟩, ⟨_, rfl, rfl, rfl⟩, ⟨_, rfl, rfl, rfl⟩, ⟨_, rfl, rfl, rfl⟩, ⟨_, rfl, rfl, rfl⟩⟩

/-- an own method of an object -/
theorem MethOk.own {T : Tp} {l : Nat} {c name : Str} {gs : List (Str × V)} {C : Addr} {K : V → Prop} (h1 : σ[l]? = some (.inst c gs)) (h2 : gs.lookup name = none) (hc : ClsAt T c C) (hf : MetAt T C name) (k : K (.mth c name)) : MethOk T (.ref l) name σ K := by
  obtain ⟨fa, h3, h4, h5⟩ := hf
  exact ⟨_, .inl ⟨l, c, gs, C, fa, rfl, h1, h2, hc, rfl, h3, h4, h5⟩, k⟩
theorem AttrOk.of {T : Tp} {l : Nat} {c attr : Str} {gs : List (Str × V)} {C : Addr} {v : V} (h1 : σ[l]? = some (.inst c gs)) (h2 : gs.lookup attr = some v) (h3 : handV v = true) (hc : ClsAt T c C) (hf : FldAt T C attr) (q : Q v σ) : AttrOk T attr Q (.ref l) σ := ⟨l, c, gs, v, C, rfl, h1, h2, h3, hc, hf.1, q⟩
theorem SetAttrOk.of {T : Tp} {l : Nat} {c attr : Str} {gs : List (Str × V)} (gs' : List (Str × V)) {C : Addr} {v : V} {ρ : Loc} {K : QS} (h1 : σ[l]? = some (.inst c gs)) (hc : ClsAt T c C) (hf : FldAt T C attr) (h4 : gs.length < 1000) (e : setKV gs attr v = gs') (q : K .next ρ (σ.set l (.inst c gs'))) : SetAttrOk T attr ρ K v (.ref l) σ := ⟨l, c, gs, C, rfl, h1, hc, hf.2, h4, by rw [e]; exact q⟩
theorem SetItemOk.of {l : Nat} {k : Str} {kvs : List (Str × V)} {v : V} {ρ : Loc} {K : QS} (h1 : σ[l]? = some (.sdict kvs)) (h2 : kvs.length ≤ 1000000) (q : K .next ρ (σ.set l (.sdict (setKV kvs k v)))) : SetItemOk ρ K v (.ref l) (.str k) σ := ⟨l, k, kvs, rfl, rfl, h1, szo (by omega), q⟩
theorem Itm.dict {l : Nat} {k : Str} {kvs : List (Str × V)} {v : V} (h1 : σ[l]? = some (.sdict kvs)) (h2 : getKV kvs k = some v) (q : Q v σ) : Itm (.ref l) (.str k) Q σ := ⟨⟨kvs, v, h1, h2, q⟩⟩

inductive J04k (rs : List (Str × Pt)) (B : Str → Bool) (r : Str × Pt) (g : Nat) (σ : Hp) (n : Nat) (ρ' : Loc) (σ' : Hp) : Prop where
  | mk (ms : List Str) (ws : List Str) (q0 : n = (rs.length - ms.length) * 100001 + ws.length) (q1 : Seek rs B r.1 ms ws) (q2 : ws.length ≤ (ms.length + 1) * 100000) (q3 : Has ρ' [("self", .ref g), ("name", .str r.1), ("met", .ref σ.length), ("waiting", .ref (σ.length + 1))]) (q7 : σ' = σ ++ .sdict (metKV ms) :: [.list (ws.map V.str)]) : J04k rs B r g σ n ρ' σ'
theorem fn_comes_back (TO : TopOk (T04 w s)) {rs : List (Str × Pt)} {B : Str → Bool} (hg : GoodRules rs) {g e : Nat} {gs : List (Str × V)} {kl : List (Str × V)} (h1 : σ[g]? = some (.inst "Grammar" gs)) (h2 : gs.lookup (Str.ofString "leads") = some (.ref e)) (h3 : σ[e]? = some (.sdict kl)) {lo : Nat} (hL : LeadsAt rs B kl lo σ)
    {r : Str × Pt} (hr : r ∈ rs) (q : ∀ c junk, (c = true ↔ Rch rs B r.1 r.1) → Q (.bool c) (σ ++ junk)) : CallOk (T04 w s) (d + 1) X (.mth "Grammar" "comes_back") [.ref g, .str r.1] Q σ := by
  obtain ⟨C, hC⟩ := gr_cls (w := w) (s := s)
  refine CallOk.goM TO (v := _) rfl ⟨⟨_, _, _, rfl, rfl, rfl, rfl, rfl, rfl, rfl, rfl, rfl, fun vals h => ?_⟩, rfl, rfl, rfl, rfl, rfl⟩ (ps := ["self", "name"]) rfl rfl ?_
  · obtain ⟨a, b, rfl⟩ := len2 h; rfl
  obtain ⟨j, _, hj1, hj2⟩ := hL r hr
  have hm := hg.most
  have hsz : ∀ r ∈ rs, (r.2.ahd B).length < 100000 := fun r hr => Nat.lt_of_le_of_lt (Pt.ahd_size ..) (hg.all r hr).size
  refine AttrOk.of (get_up h1) h2 rfl hC.cls hC.leads <| Itm.dict (get_up h3) hj1 <| Cal.list (vs := (r.2.ahd B).map V.str) (by simp only [seqV, get_up hj2]) (by simp only [List.length_map]; have := hsz r hr; exact szo (by (clear q hsz hm h1 h3 hj2; omega))) <| Stx.mk <|
    StOk.while (J04k rs B r g σ) (rs.length * 100001 + (r.2.ahd B).length) ⟨[], r.2.ahd B, by simp, ⟨by simp, by simp, fun y hy => .one ⟨r, hr, rfl, hy⟩, fun y hy => .inr (Lead.uniq hg.nodup hr hy), by simp⟩, by have := hsz r hr; simp; (clear q hsz hm h1 h3 hj2; omega), ⟨rfl, rfl, rfl, by simp [upd], trivial⟩, by simp [metKV]⟩ ?_
  rintro n ρ' σ' ⟨ms, ws, hn, hS, hwl, hρ, hσ⟩
  subst hn hσ
  obtain ⟨ρ₀, rfl⟩ := hρ.use
  have hms : ms.length ≤ rs.length := by
    have := len_sub (ns := rs.map (·.1)) hS.nodup fun x hx => by
      obtain ⟨r', a, b⟩ := hg.lead (hS.mr x hx)
      exact List.mem_map.mpr ⟨r', a, b⟩
    simpa using this
  refine vT_ok TO rfl 40 10 _ _ _ <| tvc.of (b := !(ws.map V.str).isEmpty) ?_ ?_
  · simp only [truthV, get1]
    rw [if_pos (by simp; (clear q hsz hj2 h1 h3; omega))]
  rcases List.eq_nil_or_concat ws with rfl | ⟨init, y, rfl⟩
  · rw [if_neg (by simp)]
    refine Cmp.met (neg := false) (ns := ms) get0 (q _ _ ?_)
    rw [Bool.false_bne]; exact hS.end
  rw [if_pos (by simp)]
  rw [List.concat_eq_append] at hS hwl ⊢
  obtain ⟨r', hr', hy⟩ := hg.lead (hS.wr y (by simp))
  subst hy
  simp only [List.length_append, List.length_cons, List.length_nil] at hwl
  refine vB_ok TO rfl 60 _ _ _ _ <| MethOk.pop get1 <| Cal.mk <| CallOk.pop (v := .str r'.1) (vs := init.map V.str) (by rw [get1]; simp) (by simp only [List.length_map]; exact szo (by (clear q hsz hj2 h1 h3; omega))) ?_
  rw [set1]
  refine Cmp.met (neg := true) (ns := ms) get0 <| Br.mk (fun hin => ?_) fun hin => ?_
  · have hin : r'.1 ∉ ms := by simpa using hin
    obtain ⟨j', _, hj1', hj2'⟩ := hL r' hr'
    have := hsz r' hr'
    have hms' : ms.length + 1 ≤ rs.length := by
      have := len_sub (ms := ms ++ [r'.1]) (ns := rs.map (·.1)) (by rw [List.nodup_append]; exact ⟨hS.nodup, by simp, fun a ha b hb => by cases List.mem_singleton.mp hb; exact fun e => hin (e ▸ ha)⟩) fun x hx => by
        rcases List.mem_append.mp hx with g | g
        · obtain ⟨r', a, b⟩ := hg.lead (hS.mr x g)
          exact List.mem_map.mpr ⟨r', a, b⟩
        · cases List.mem_singleton.mp g; exact List.mem_map.mpr ⟨r', hr', rfl⟩
      simpa using this
    refine SetItemOk.of get0 (by simp only [metKV, List.length_map]; (clear q hsz hj2 h1 h3; omega)) ?_
    rw [set0, metKV_set hin]
    refine MethOk.extend get1 <| AttrOk.of (get_up h1) h2 rfl hC.cls hC.leads <| Itm.dict (get_up h3) hj1' <| Cal.mk <| CallOk.extend (vs := init.map V.str) (us := (r'.2.ahd B).map V.str) get1 (get_up hj2') (by simp only [List.length_map]; exact szo (by (clear q hsz hj2 h1 h3 hj2'; omega))) ?_
    rw [set1]
    refine ⟨_, ?_, ms ++ [r'.1], init ++ r'.2.ahd B, rfl, hS.new hg.nodup hr' hin, ?_, ⟨rfl, rfl, rfl, rfl, trivial⟩, by rw [List.map_append]⟩
    · simp only [List.length_append, List.length_cons, List.length_nil]
      have e : rs.length - ms.length = (rs.length - (ms.length + 1)) + 1 := by (clear q hsz hj2 h1 h3 hj2'; omega)
      rw [e, Nat.add_mul]; (clear q hsz hj2 h1 h3 hj2' e; omega)
    · simp only [List.length_append, List.length_cons, List.length_nil]; (clear q hsz hj2 h1 h3 hj2' hms'; omega)
  · have hin : r'.1 ∈ ms := by simpa using hin
    refine ⟨_, ?_, ms, init, rfl, hS.old hin, by (clear q hms hsz h1 h3 hj2 hm; omega), ⟨rfl, rfl, rfl, rfl, trivial⟩, rfl⟩
    simp only [List.length_append, List.length_cons, List.length_nil]; (clear q hsz hj2 h1 h3; omega)
end Mine

open PySem PySem.W PyProof.Rows
set_option maxRecDepth 100000
namespace Mine
variable {w : World} {s : Shared} {d : Nat} {X : QX} {Q : QE} {σ : Hp}
set_option maxHeartbeats 4000000

theorem Mk.has {σ σ' : Hp} {l : Nat} {fs : List (Str × V)} {ρ' : Loc} (h : Mk σ l fs ρ' σ') : Has ρ' [("self", .ref σ.length), ("rules", .ref l)] := ⟨h.self, h.ru, trivial⟩
theorem Mk.loc {σ σ' : Hp} {l : Nat} {fs : List (Str × V)} {ρ' ρ₂ : Loc} (h : Mk σ l fs ρ' σ') (hρ : Has ρ₂ [("self", .ref σ.length), ("rules", .ref l)]) : Mk σ l fs ρ₂ σ' := ⟨hρ.1, hρ.2.1, h.pre, h.obj⟩
/-- a grammar while it is made: pairs, table, bare -/
inductive Gm (rs : List (Str × Pt)) (σ : Hp) (l a b c : Nat) (bs : List Str) (ρ' : Loc) (σ' : Hp) : Prop where
  | mk (q1 : Mk σ l [("pairs", .ref a), ("table", .ref b), ("bare", .ref c)] ρ' σ') (q2 : σ'[a]? = some (.list (rs.map ruleV))) (q3 : σ'[b]? = some (.sdict (tabKV rs))) (q4 : σ'[c]? = some (.sdict (metKV bs))) : Gm rs σ l a b c bs ρ' σ'
theorem Gm.up {rs : List (Str × Pt)} {σ σ' : Hp} {l a b c : Nat} {bs : List Str} {ρ' : Loc} {jk : Hp} (h : Gm rs σ l a b c bs ρ' σ') : Gm rs σ l a b c bs ρ' (σ' ++ jk) := by
  obtain ⟨h1, h2, h3, h4⟩ := h
  exact ⟨h1.up, get_up h2, get_up h3, get_up h4⟩
theorem Gm.loc {rs : List (Str × Pt)} {σ σ' : Hp} {l a b c : Nat} {bs : List Str} {ρ' ρ₂ : Loc} (h : Gm rs σ l a b c bs ρ' σ') (hρ : Has ρ₂ [("self", .ref σ.length), ("rules", .ref l)]) : Gm rs σ l a b c bs ρ₂ σ' := by
  obtain ⟨h1, h2, h3, h4⟩ := h
  exact ⟨h1.loc hρ, h2, h3, h4⟩
theorem Gm.put {rs : List (Str × Pt)} {σ σ' : Hp} {l a b c : Nat} {bs bs' : List Str} {ρ' : Loc} (h : Gm rs σ l a b c bs ρ' σ') (ha : σ.length < a) (hb : a < b) (hc : b < c) : Gm rs σ l a b c bs' ρ' (σ'.set c (.sdict (metKV bs'))) := by
  obtain ⟨h1, h2, h3, h4⟩ := h
  exact ⟨h1.put (by clear h2 h3 h4; omega), by rw [get_set_ne (by clear h2 h3 h4; omega)]; exact h2, by rw [get_set_ne (by clear h2 h3 h4; omega)]; exact h3, get_set h4⟩
inductive J04l4 (σ : Hp) (l a b : Nat) (rs : List (Str × Pt)) (i : Nat) (ρ' : Loc) (σ' : Hp) : Prop where
  | mk (q0 : Mk σ l [("pairs", .ref a), ("table", .ref b)] ρ' σ') (q1 : σ'[a]? = some (.list (rs.map ruleV))) (q2 : σ'[b]? = some (.sdict (tabKV (rs.take i)))) : J04l4 σ l a b rs i ρ' σ'
inductive J04l7 (rs : List (Str × Pt)) (σ : Hp) (l a b c : Nat) (n : Nat) (ρ' : Loc) (σ' : Hp) : Prop where
  | mk (bs : List Str) (gr : Bool) (q0 : n = 2 * (rs.length - bs.length) + (if gr then 1 else 0)) (q1 : ρ' "growing" = some (.bool gr)) (q2 : Grow rs bs) (q3 : gr = false → ∀ r ∈ rs, r.2.may (inB bs) = true → r.1 ∈ bs) (q4 : Gm rs σ l a b c bs ρ' σ') : J04l7 rs σ l a b c n ρ' σ'
inductive J04l8 (rs : List (Str × Pt)) (bs : List Str) (σ : Hp) (l a b c : Nat) (i : Nat) (ρ₂ : Loc) (σ₂ : Hp) : Prop where
  | mk (bs' : List Str) (gr' : Bool) (q0 : ρ₂ "growing" = some (.bool gr')) (q1 : Grow rs bs') (q2 : gr' = true → bs.length < bs'.length) (q3 : gr' = false → bs' = bs ∧ ∀ r ∈ rs.take i, r.2.may (inB bs) = true → r.1 ∈ bs) (q4 : Gm rs σ l a b c bs' ρ₂ σ₂) : J04l8 rs bs σ l a b c i ρ₂ σ₂
/-- and leads -/
inductive J04l11 (σ : Hp) (l a b c e : Nat) (rs : List (Str × Pt)) (bs : List Str) (i : Nat) (ρ' : Loc) (σ' : Hp) : Prop where
  | mk (q0 : Mk σ l [("pairs", .ref a), ("table", .ref b), ("bare", .ref c), ("leads", .ref e)] ρ' σ') (q1 : σ'[a]? = some (.list (rs.map ruleV))) (q2 : σ'[b]? = some (.sdict (tabKV rs))) (q3 : σ'[c]? = some (.sdict (metKV bs))) (kl : List (Str × V)) (q4 : σ'[e]? = some (.sdict kl)) (q5 : kl.length ≤ i) (q6 : LeadsAt (rs.take i) (inB bs) kl σ.length σ') : J04l11 σ l a b c e rs bs i ρ' σ'
inductive J04l12 (σ σ₈ : Hp) (rs : List (Str × Pt)) (bs : List Str) (i : Nat) (ρ' : Loc) (σ' : Hp) : Prop where
  | mk (q0 : Has ρ' [("self", .ref σ.length)]) (jk : Hp) (q1 : σ' = σ₈ ++ jk) (q2 : ∀ r ∈ rs.take i, ¬ Rch rs (inB bs) r.1 r.1) : J04l12 σ σ₈ rs bs i ρ' σ'

theorem fn_init (TO : TopOk (T04 w s)) {rs : List (Str × Pt)} {l : Nat} (hl : σ[l]? = some (.list (rs.map ruleV))) (hg : GoodRules rs) (q : ∀ bs junk, Bare rs bs → (∀ r ∈ rs, ¬ Rch rs (inB bs) r.1 r.1) → GrAt rs bs σ.length (σ ++ junk) → Q (.ref σ.length) (σ ++ junk)) (qx : ∀ bs junk, Bare rs bs → (∃ r ∈ rs, Rch rs (inB bs) r.1 r.1) → X "Circling" (σ ++ junk)) : CallOk (T04 w s) (d + 18) X (.glob "Grammar") [.ref l] Q σ := by
  obtain ⟨C, hC⟩ := gr_cls (w := w) (s := s)
  have hm := hg.most
  refine CallOk.make TO rfl rfl rfl rfl <| CodeOk.goM TO (v := _) rfl ⟨⟨_, _, _, rfl, rfl, rfl, rfl, rfl, rfl, rfl, rfl, rfl, fun vals h => ?_⟩, rfl, rfl, rfl, rfl, rfl⟩ (ps := ["self", "rules"]) rfl rfl ?_
  · obtain ⟨a, b, rfl⟩ := len2 h; rfl
  refine Cal.mk <| fn_need_rules TO (get_up hl) hg fun junk => ?_
  have h1 : Mk σ l [] (bindLoc (fun _ => none) ["self", "rules"] [.ref σ.length, .ref l]) (σ ++ [.inst "Grammar" []] ++ junk) := ⟨rfl, rfl, ⟨[.inst "Grammar" []] ++ junk, by rw [List.append_assoc]⟩, get_up get_new⟩
  generalize (σ ++ [.inst "Grammar" []] ++ junk) = σ₁ at h1
  -- pairs
  refine Cal.list (vs := rs.map ruleV) (by simp only [seqV, h1.rules hl]) (by simp only [List.length_map]; exact szo (by (clear hl; omega))) <| SetAttrOk.of [("pairs", .ref σ₁.length)] (get_up h1.4) hC.cls hC.pairs (by decide) rfl ?_
  obtain ⟨h2, h2a, ha, _⟩ := h1.field (o := .list (rs.map ruleV)) (fs' := [("pairs", .ref σ₁.length)])
  generalize σ₁.length = a at h2 h2a ha
  generalize (σ₁ ++ [MObj.list (rs.map ruleV)]).set σ.length (.inst "Grammar" [("pairs", .ref a)]) = σ₂ at h2 h2a
  clear h1
  -- table
  refine SetAttrOk.of [("pairs", .ref a), ("table", .ref σ₂.length)] (get_up h2.4) hC.cls hC.table (by simp) rfl ?_
  obtain ⟨h3, h3b, _, f4⟩ := h2.field (o := .sdict []) (fs' := [("pairs", .ref a), ("table", .ref σ₂.length)])
  have h3a := f4 a _ (by (clear h2a h3b f4 hl; omega)) h2a
  have hb := get_lt h2a
  clear h2a f4
  generalize σ₂.length = b at h3 h3a h3b hb
  generalize (σ₂ ++ [MObj.sdict []]).set σ.length (.inst "Grammar" [("pairs", .ref a), ("table", .ref b)]) = σ₃ at h3 h3a h3b
  clear h2
  refine ForOk.mk (rs.map ruleV) (J04l4 σ l a b rs) ⟨h3, h3a, by simpa [tabKV] using h3b⟩ (fun i ρ' σ' hJ => ?_) (fun ρ' σ' hJ => ?_) fun i x ρ' σ' hJ hx => ?_
  · obtain ⟨j1, _, _⟩ := hJ
    simp only [iterV, j1.rules hl]
  rotate_left
  · obtain ⟨j1, j2, j3⟩ := hJ
    obtain ⟨r, hr, rfl⟩ := map_at hx
    obtain ⟨ρ₀, rfl⟩ := j1.has.use
    refine ⟨_, rfl, vB_ok TO rfl 60 _ _ _ _ <| AttrOk.of j1.4 rfl rfl hC.cls hC.table <| SetItemOk.of j3 (by simp only [tabKV, List.length_map, List.length_take]; (clear h3a h3b j2 j3 hr hl; omega)) ?_⟩
    refine ⟨(j1.put (by (clear h3a h3b j2 j3 hr hl; omega))).loc ⟨rfl, rfl, trivial⟩, ?_, ?_⟩
    · rw [get_set_ne (by (clear h3a h3b j2 j3 hr hl; omega))]; exact j2
    · rw [get_set j3, tabKV_set (nodup_take hg.nodup hr), take_next hr]
  clear h3 h3a h3b
  obtain ⟨h4, h4a, h4b⟩ := hJ
  rw [List.length_map, List.take_length] at h4b
  obtain ⟨ρ₀, rfl⟩ := h4.has.use
  generalize σ' = σ₄ at h4 h4a h4b
  -- bare
  refine SetAttrOk.of [("pairs", .ref a), ("table", .ref b), ("bare", .ref σ₄.length)] (get_up h4.4) hC.cls hC.bare (by simp) rfl ?_
  obtain ⟨h5, h5c, _, f4⟩ := h4.field (o := .sdict []) (fs' := [("pairs", .ref a), ("table", .ref b), ("bare", .ref σ₄.length)])
  have h5 : Gm rs σ l a b σ₄.length [] _ _ := ⟨h5, f4 a _ (by (clear h4a h4b h5c f4 hl; omega)) h4a, f4 b _ (by (clear h4a h4b h5c f4 hl; omega)) h4b, h5c⟩
  have hc := get_lt h4b
  clear h5c h4a h4b f4
  generalize (σ₄ ++ [MObj.sdict []]).set σ.length (.inst "Grammar" [("pairs", .ref a), ("table", .ref b), ("bare", .ref σ₄.length)]) = σ₅ at h5
  generalize σ₄.length = c at h5 hc
  clear h4
  refine Stx.mk <| StOk.while (J04l7 rs σ l a b c) (2 * rs.length + 1) ⟨[], true, by simp, rfl, .nil rs, by simp, h5.loc ⟨rfl, rfl, trivial⟩⟩ ?_
  clear h5
  rintro n ρ' σ' ⟨bs, gr, hn, k1, k2, k3, k4⟩
  subst hn
  obtain ⟨ρ₀, rfl⟩ := (show Has ρ' [("growing", .bool gr), ("self", .ref σ.length), ("rules", .ref l)] from ⟨k1, k4.1.1, k4.1.2, trivial⟩).use
  refine vT_ok TO rfl 40 10 _ _ _ ?_
  cases gr
  rotate_left
  · show ExOk _ _ _ _ _ _ _ _
    have hbl := k2.len
    refine vB_ok TO rfl 60 _ _ _ _ <| ForOk.mk (rs.map ruleV) (J04l8 rs bs σ l a b c) ⟨bs, false, rfl, k2, by simp, fun _ => ⟨rfl, by simp⟩, k4.loc ⟨rfl, rfl, trivial⟩⟩ (fun i ρ₂ σ₂ hJ => ?_) (fun ρ₂ σ₂ hJ => ?_) fun i x ρ₂ σ₂ hJ hx => ?_
    · obtain ⟨_, _, _, _, _, _, j1⟩ := hJ
      simp only [iterV, j1.1.rules hl]
    · obtain ⟨bs', gr', j1, j2, j3, j4, j5⟩ := hJ
      have hbl' := j2.len
      refine ⟨_, ?_, bs', gr', rfl, j1, j2, fun hf => ?_, j5⟩
      · cases gr'
        · rw [(j4 rfl).1]; simp
        · have := j3 rfl; simp; (clear hl j3 hbl; omega)
      · obtain ⟨e1, e2⟩ := j4 hf
        rw [List.length_map, List.take_length] at e2
        rw [e1]; exact e2
    · obtain ⟨bs', gr', j1, j2, j3, j4, j5⟩ := hJ
      obtain ⟨r, hr, rfl⟩ := map_at hx
      have hrm := List.mem_of_getElem? hr
      have hG := hg.all r hrm
      obtain ⟨ρ₀, rfl⟩ := (show Has ρ₂ [("growing", .bool gr'), ("self", .ref σ.length), ("rules", .ref l)] from ⟨j1, j5.1.1, j5.1.2, trivial⟩).use
      have keep : ∀ {ρ₃ : Loc} {jk : Hp}, Has ρ₃ [("growing", .bool gr'), ("self", .ref σ.length), ("rules", .ref l)] → (r.2.may (inB bs') = true → r.1 ∈ bs') → J04l8 rs bs σ l a b c (i + 1) ρ₃ (σ₂ ++ jk) := fun {ρ₃ jk} hρ hk => ⟨bs', gr', hρ.1, j2, j3, fun hf => ⟨(j4 hf).1, fun r' hr' hm' => by
        rw [take_next hr] at hr'
        rcases List.mem_append.mp hr' with g | g
        · exact (j4 hf).2 r' g hm'
        · cases List.mem_singleton.mp g
          rw [← (j4 hf).1] at hm' ⊢; exact hk hm'⟩, j5.up.loc hρ.2⟩
      refine ⟨_, rfl, vB_ok TO rfl 60 _ _ _ _ <| AttrOk.of j5.1.4 rfl rfl hC.cls hC.bare <| Cmp.met (neg := true) (ns := bs') j5.4 <| Br.mk (fun hin => AttrOk.of j5.1.4 rfl rfl hC.cls hC.bare <| Cal.mk <| fn_may (d := d + 3) TO 12 r.2 hG.deep hG.few j5.4 fun jk => ?_) fun hin => ?_⟩
      · rw [hasK_met]
        refine Br.mk (fun hmay => ?_) fun hmay => ?_
        · have hin : r.1 ∉ bs' := by simpa using hin
          refine AttrOk.of (get_up j5.1.4) rfl rfl hC.cls hC.bare <| SetItemOk.of (get_up j5.4) (by have := j2.len; simp only [metKV, List.length_map]; (clear hl j3 hbl j4 keep; omega)) ?_
          rw [metKV_set hin]
          refine ⟨bs' ++ [r.1], true, rfl, j2.add hrm hin hmay, fun _ => ?_, by simp, (j5.up.put ha hb hc).loc ⟨rfl, rfl, trivial⟩⟩
          cases gr'
          · rw [(j4 rfl).1]; simp
          · have := j3 rfl; simp; (clear hl j3 hbl j4 keep; omega)
        · exact keep ⟨rfl, rfl, rfl, trivial⟩ fun h => absurd (h.symm.trans hmay) (by decide)
      · have hin : r.1 ∈ bs' := by simpa using hin
        have := keep (jk := []) (ρ₃ := upd (locs ρ₀ [("growing", .bool gr'), ("self", .ref σ.length), ("rules", .ref l)]) "pair" (some (ruleV r))) ⟨rfl, rfl, rfl, trivial⟩ fun _ => hin
        rw [List.append_nil] at this
        exact this
  show vB _ _ _ _ _ _ _ _ _
  have hbare := k2.bare (k3 rfl)
  have k2l := k2.len
  clear k3 k2 k1
  obtain ⟨h6, h6a, h6b, h6c⟩ := k4
  generalize σ' = σ₆ at h6 h6a h6b h6c
  -- leads
  refine SetAttrOk.of [("pairs", .ref a), ("table", .ref b), ("bare", .ref c), ("leads", .ref σ₆.length)] (get_up h6.4) hC.cls hC.leads (by simp) rfl ?_
  obtain ⟨h7, h7e, _, f4⟩ := h6.field (o := .sdict []) (fs' := [("pairs", .ref a), ("table", .ref b), ("bare", .ref c), ("leads", .ref σ₆.length)])
  have he := get_lt h6c
  have h7 : J04l11 σ l a b c σ₆.length rs bs 0 _ _ := ⟨h7, f4 a _ (by (clear h6a h6b h6c h7e f4 hl; omega)) h6a, f4 b _ (by (clear h6a h6b h6c h7e f4 hl; omega)) h6b, f4 c _ (by (clear h6a h6b h6c h7e f4 hl; omega)) h6c, [], h7e, Nat.zero_le _, fun r hr => by simp at hr⟩
  clear h7e h6a h6b h6c f4
  generalize (σ₆ ++ [MObj.sdict []]).set σ.length (.inst "Grammar" [("pairs", .ref a), ("table", .ref b), ("bare", .ref c), ("leads", .ref σ₆.length)]) = σ₇ at h7
  generalize σ₆.length = e at h7 he
  clear h6
  refine ForOk.mk (rs.map ruleV) (J04l11 σ l a b c e rs bs) h7 (fun i ρ' σ' hJ => ?_) (fun ρ' σ' hJ => ?_) fun i x ρ' σ' hJ hx => ?_
  · obtain ⟨j1, _⟩ := hJ
    simp only [iterV, j1.rules hl]
  rotate_left
  · clear h7
    obtain ⟨j1, j2, j3, j4, kl, j5, j7, j6⟩ := hJ
    obtain ⟨r, hr, rfl⟩ := map_at hx
    have hG := hg.all r (List.mem_of_getElem? hr)
    have hi : i < rs.length := (List.getElem?_eq_some_iff.mp hr).1
    obtain ⟨ρ₀, rfl⟩ := j1.has.use
    refine ⟨_, rfl, vB_ok TO rfl 60 _ _ _ _ <| AttrOk.of j1.4 rfl rfl hC.cls hC.bare <| Cal.mk <| fn_ahead (d := d + 3) TO 12 r.2 hG.deep hG.size hG.few j4 fun j jk hj hjl => AttrOk.of (get_up j1.4) rfl rfl hC.cls hC.leads <| SetItemOk.of (get_up j5) (by (clear hj hjl hr j5 j3 j4 j2 hl; omega)) ?_⟩
    rw [hasK_met] at hjl
    have hek : ∀ (x : Nat) (vs : List V) (o : MObj), (σ' ++ jk)[x]? = some (.list vs) → ((σ' ++ jk).set e o)[x]? = some (.list vs) := fun x vs o hx => by
      rw [get_set_ne (fun h => ?_)]
      · exact hx
      · subst h; rw [get_up j5] at hx; cases hx
    refine ⟨(j1.up.put (by (clear j2 j3 j4 j5 hr hj hjl hek hl; omega))).loc ⟨rfl, rfl, trivial⟩, hek _ _ _ (get_up j2), ?_, ?_, _, get_set (get_up j5), ?_, ?_⟩
    · rw [get_set_ne (by (clear j2 j3 j4 j5 hr hj hjl hek hl; omega))]; exact get_up j3
    · rw [get_set_ne (by (clear j2 j3 j4 j5 hr hj hjl hek hl; omega))]; exact get_up j4
    · rw [setKV_length]; split <;> (clear j2 j3 j4 j5 hr hj hjl hek hl; omega)
    · rw [take_next hr]
      exact (j6.up (junk := jk)).snoc (nodup_take hg.nodup hr) (fun x vs hx => hek x vs _ hx) (by have := get_lt j1.4; (clear j2 j3 j4 j5 hr hjl hek hl; omega)) (hek _ _ _ hjl)
  clear h7
  obtain ⟨h8, h8a, h8b, h8c, kl, h8e, _, h8L⟩ := hJ
  rw [List.length_map, List.take_length] at h8L
  obtain ⟨ρ₀, rfl⟩ := h8.has.use
  generalize σ' = σ₈ at h8 h8a h8b h8c h8e h8L
  -- does a rule come back
  obtain ⟨junk, hj⟩ := h8.3
  refine ForOk.mk (rs.map ruleV) (J04l12 σ σ₈ rs bs) ⟨⟨rfl, trivial⟩, [], by simp, by simp⟩ (fun i ρ' σ' hJ => ?_) (fun ρ' σ' hJ => ?_) fun i x ρ' σ' hJ hx => ?_
  · obtain ⟨_, jk, rfl, _⟩ := hJ
    simp only [iterV, get_up (h8.rules hl)]
  · obtain ⟨_, jk, rfl, hnone⟩ := hJ
    rw [List.length_map, List.take_length] at hnone
    have hG : GrAt rs bs σ.length (σ₈ ++ jk) := GrAt.up ⟨a, b, c, e, kl, ha, hb, hc, he, h8.4, h8a, h8b, h8c, h8e, h8L⟩
    rw [hj, List.append_assoc] at hG ⊢
    exact ⟨rfl, q bs _ hbare hnone hG⟩
  · obtain ⟨hρ, jk, rfl, hnone⟩ := hJ
    obtain ⟨r, hr, rfl⟩ := map_at hx
    have hrm := List.mem_of_getElem? hr
    obtain ⟨ρ₀, rfl⟩ := hρ.use
    refine ⟨_, rfl, vB_ok TO rfl 60 _ _ _ _ <| MethOk.own (get_up h8.4) rfl hC.cls hC.comes_back <| Cal.mk <| fn_comes_back (d := d + 15) TO hg (get_up h8.4) rfl (get_up h8e) h8L.up hrm fun cb jk2 hcb => ?_⟩
    cases cb
    · refine ⟨⟨rfl, trivial⟩, jk ++ jk2, by rw [List.append_assoc], fun r' hr' => ?_⟩
      rw [take_next hr] at hr'
      rcases List.mem_append.mp hr' with g | g
      · exact hnone r' g
      · cases List.mem_singleton.mp g
        exact fun z => absurd (hcb.mpr z) (by decide)
    · refine Stx.mk <| StOk.raise TO rfl rfl rfl rfl rfl (by kernel_rfl) ?_
      rw [hj, List.append_assoc, List.append_assoc]
      exact qx bs _ hbare ⟨r, hrm, hcb.mp rfl⟩
end Mine

open PySem PySem.W PyProof.Rows
set_option maxRecDepth 100000
namespace Mine
variable {w : World} {s : Shared} {d : Nat} {X : QX} {Q : QE} {σ : Hp} {rs : List (Str × Pt)} {bs : List Str} {g : Nat}
set_option maxHeartbeats 4000000

theorem fn_names (TO : TopOk (T04 w s)) (hlen : rs.length ≤ 1000) (hG : GrAt rs bs g σ) (q : Q (.ref σ.length) (σ ++ [.list ((rs.map (·.1)).map V.str)])) : CallOk (T04 w s) (d + 1) X (.mth "Grammar" "names") [.ref g] Q σ := by
  obtain ⟨C, hC⟩ := gr_cls (w := w) (s := s)
  obtain ⟨a, b, c, e, kl, h1, h2, h3, h4, h5, h6, h7, h8, h9, h10⟩ := hG
  refine CallOk.goM TO (v := _) rfl ⟨⟨_, _, _, rfl, rfl, rfl, rfl, rfl, rfl, rfl, rfl, rfl, fun vals h => ?_⟩, rfl, rfl, rfl, rfl, rfl⟩ (ps := ["self"]) rfl rfl ?_
  · obtain ⟨a, rfl⟩ := len1 h; rfl
  refine AttrOk.of h5 rfl rfl hC.cls hC.pairs ⟨rs.map ruleV, fun i acc σ' => acc = ((rs.take i).map (·.1)).map V.str ∧ σ' = σ, ⟨by simp, rfl⟩, fun i acc σ' hJ => ?_, fun acc σ' hJ => ?_, fun i y acc σ' hJ hy => ?_⟩
  · obtain ⟨rfl, rfl⟩ := hJ
    exact ⟨by simp only [iterV, h6], by simp only [List.length_map, List.length_take]; exact szo (by (clear h5 h6 h7 h8 h9; omega))⟩
  · obtain ⟨rfl, rfl⟩ := hJ
    rw [List.length_map, List.take_length]; exact q
  · obtain ⟨rfl, rfl⟩ := hJ
    obtain ⟨r, hr, rfl⟩ := map_at hy
    refine vE_ok TO rfl 40 _ _ _ ⟨?_, rfl⟩
    rw [take_next hr]; simp
end Mine

open PySem PySem.W PyProof.Rows
set_option maxRecDepth 100000
namespace Mine
variable {w : World} {s : Shared} {d : Nat} {X : QX} {Q : QE} {σ : Hp}
set_option maxHeartbeats 4000000

theorem fmod_range {a b : Int} (hb : 0 < b) : 0 ≤ a.fmod b ∧ a.fmod b < b := ⟨Int.fmod_nonneg_of_pos a hb, Int.fmod_lt_of_pos a hb⟩
theorem idx_at {S : Str} {n : Nat} {P : Nat → Nat → Bool} (h : (List.range n).all (fun j => match S.cps[j]? with | some c => P j c | none => false) = true) (hl : S.length = n) {k : Int} (h0 : 0 ≤ k) (h1 : k < n) : ∃ c, P k.toNat c = true ∧ (seqIndex? k S.length).bind (S.cps[·]?) = some c := by
  have hj := List.all_eq_true.mp h k.toNat (by rw [List.mem_range]; (clear h hl; omega))
  have e : seqIndex? k S.length = some k.toNat := by
    have hk : ¬ k < 0 := by (clear h1 hj h hl; omega)
    unfold seqIndex?
    simp only [hk, if_false]
    rw [if_pos (by simp only [Bool.and_eq_true, decide_eq_true_eq]; (clear hj hk h; omega))]
  rw [e]
  split at hj
  · rename_i c hc
    exact ⟨c, hj, hc⟩
  · cases hj
theorem item_letter {k : Int} {Q : QE} {σ : Hp} (h0 : 0 ≤ k) (h1 : k < 26) (q : Q (.str (S [97 + k.toNat])) σ) : Itm (.str (Str.ofString "abcdefghijklmnopqrstuvwxyz")) (.int k) Q σ := by
  obtain ⟨c, hc, e⟩ := idx_at (S := Str.ofString "abcdefghijklmnopqrstuvwxyz") (n := 26) (P := fun j c => decide (c = 97 + j)) (by decide +kernel) (by decide +kernel) h0 h1
  rw [decide_eq_true_iff] at hc
  subst hc
  exact ⟨_, e, ⟨by (clear q e h1; omega), by (clear q e h0; omega)⟩, q⟩
theorem item_signC {S₀ : Str} {n : Nat} {k : Int} {Q : QE} {σ : Hp} (h0 : 0 ≤ k) (h1 : k < n) (hn : n < 1000) (q : ∀ c, isSignC c = true → Q (.str (S [c])) σ) (h : (List.range n).all (fun j => match S₀.cps[j]? with | some c => isSignC c | none => false) = true) (hl : S₀.length = n) : Itm (.str S₀) (.int k) Q σ := by
  obtain ⟨c, hc, e⟩ := idx_at (P := fun _ c => isSignC c) h hl h0 h1
  exact ⟨c, e, ⟨by (clear q h hl e h1 hn; omega), by (clear q h hl e h0; omega)⟩, q c hc⟩
theorem item_at {l : Nat} {vs : List V} {j : Nat} {v : V} {k : Int} {Q : QE} {σ : Hp} (hl : σ[l]? = some (.list vs)) (hk : k = j) (hj : vs[j]? = some v) (hb : vs.length < 2 ^ 62) (q : Q v σ) : itemVC (.ref l) (.int k) Q σ := by
  obtain ⟨h1, _⟩ := List.getElem?_eq_some_iff.mp hj
  subst hk
  refine ⟨vs, j, v, hl, ?_, hj, ⟨by (clear hb hl hj; omega), by (clear hl hj; omega)⟩, q⟩
  unfold seqIndex?
  simp only [show ¬ ((j : Int) < 0) by (clear hb hl hj; omega), if_false]
  rw [if_pos (by simp only [Bool.and_eq_true, decide_eq_true_eq]; (clear hb hl hj; omega))]
  simp
theorem rng_at {n i : Nat} {y : V} (h : ((List.range n).map fun (k : Nat) => V.int k)[i]? = some y) : i < n ∧ y = .int i := by
  rw [List.getElem?_map, Option.map_eq_some_iff] at h
  obtain ⟨j, hj, rfl⟩ := h
  obtain ⟨h1, h2⟩ := List.getElem?_eq_some_iff.mp hj
  rw [List.getElem_range] at h2
  subst h2
  exact ⟨by simpa using h1, rfl⟩
theorem rng_iter {n : Int} {σ : Hp} (h0 : 0 ≤ n) (h : n < 2 ^ 62) : iterV σ (.rng n) = some ((List.range n.toNat).map fun (k : Nat) => V.int k) := by
  simp only [iterV]; rw [if_pos ⟨by (clear h; omega), h⟩]
theorem getD_lt {xs : List Int} {k : Int} (h0 : 0 ≤ k) (h : k < xs.length) : xs[k.toNat]? = some (xs.getD k.toNat 0) := by
  have : k.toNat < xs.length := by omega
  simp [List.getD_eq_getElem?_getD, this]
theorem getD_ge {xs : List Int} {k : Int} (h : ¬ k < xs.length) : xs.getD k.toNat 0 = 0 := by
  rw [List.getD_eq_getElem?_getD, List.getElem?_eq_none (by omega)]; rfl

theorem fn_cell_at (TO : TopOk (T04 w s)) {xs : List Int} {k : Int} (h0 : 0 ≤ k) (hk : k < 2 ^ 62) (hx : xs.length < 2 ^ 62) (q : Q (.int (xs.getD k.toNat 0)) σ) : CallOk (T04 w s) (d + 1) X (.glob "_law_cell_at") [.scr xs, .int k] Q σ := by
  refine CallOk.go TO (v := _) rfl ⟨⟨_, _, _, rfl, rfl, rfl, rfl, rfl, rfl, rfl, rfl, rfl, fun vals h => ?_⟩, rfl, rfl, rfl, rfl, rfl⟩ (ps := ["_law_script", "_law_k"]) rfl rfl ?_
  · obtain ⟨a, b, rfl⟩ := len2 h; rfl
  refine Cal.len rfl hx (Br.mk (fun h => Itm.mk ⟨_, h0, Int.lt_trans hk (by decide), getD_lt h0 (of_decide_eq_true h), q⟩) fun h => ?_)
  rw [getD_ge (of_decide_eq_false h)] at q
  exact q
theorem fn_sign_by (TO : TopOk (T04 w s)) {k : Int} (q : ∀ c, isSignC c = true → Q (.str (S [c])) σ) : CallOk (T04 w s) (d + 1) X (.glob "_law_sign_by") [.int k] Q σ := by
  refine CallOk.go TO (v := _) rfl ⟨⟨_, _, _, rfl, rfl, rfl, rfl, rfl, rfl, rfl, rfl, rfl, fun vals h => ?_⟩, rfl, rfl, rfl, rfl, rfl⟩ (ps := ["_law_cell"]) rfl rfl ?_
  · obtain ⟨a, rfl⟩ := len1 h; rfl
  have r := fmod_range (a := k) (b := 96) (by decide)
  exact Bin.cat (by decide +kernel) (item_signC (n := 96) r.1 r.2 (by decide) q (by decide +kernel) (by decide +kernel))
end Mine

open PySem PySem.W PyProof.Rows
set_option maxRecDepth 100000
namespace Mine
variable {w : World} {s : Shared} {d : Nat} {X : QX} {Q : QE} {σ : Hp}
set_option maxHeartbeats 4000000

theorem nat_lt {a : Int} {n : Nat} (h : 0 ≤ a ∧ a < n) : ∃ k : Nat, a = k ∧ k < n := by
  obtain ⟨k, rfl⟩ := Int.eq_ofNat_of_zero_le h.1
  exact ⟨k, rfl, by omega⟩
theorem fmod_nat (i n : Nat) : (i : Int).fmod n = ((i % n : Nat) : Int) := by
  rw [Int.fmod_eq_emod_of_nonneg _ (by omega)]; omega
theorem deep_at (p : Pt) (i : Nat) : ([V.tup [.str "not", (deepP p i).v], .tup [.str "many", (deepP p i).v], .tup [.str "row", .tup [.tup [.str "any"], (deepP p i).v]], .tup [.str "or", .tup [(deepP p i).v, .tup [.str "any"]]]])[i % 4]? = some (deepP p (i + 1)).v := by
  have h4 : i % 4 = 0 ∨ i % 4 = 1 ∨ i % 4 = 2 ∨ i % 4 = 3 := by omega
  rcases h4 with h | h | h | h <;> simp [deepP, h, Pt.v, Pt.vs]
theorem fn_deep (TO : TopOk (T04 w s)) {p : Pt} {m : Nat} (hm : m ≤ 20) (q : ∀ junk, Q (deepP p m).v (σ ++ junk)) : CallOk (T04 w s) (d + 1) X (.glob "_law_deep") [p.v, .int m] Q σ := by
  refine CallOk.go TO (v := _) rfl ⟨⟨_, _, _, rfl, rfl, rfl, rfl, rfl, rfl, rfl, rfl, rfl, fun vals h => ?_⟩, rfl, rfl, rfl, rfl, rfl⟩ (ps := ["_law_part", "_law_many"]) rfl rfl ?_
  · obtain ⟨a, b, rfl⟩ := len2 h; rfl
  refine Cal.range ⟨_, fun i ρ' σ' => Has ρ' [("_law_part", (deepP p i).v)] ∧ ∃ junk, σ' = σ ++ junk, ⟨⟨rfl, trivial⟩, [], by simp⟩, fun i ρ' σ' _ => rng_iter (by omega) (by omega), fun ρ' σ' hJ => ?_, fun i y ρ' σ' hJ hy => ?_⟩
  · obtain ⟨hρ, junk, rfl⟩ := hJ
    obtain ⟨r, rfl⟩ := hρ.use
    have := q junk
    rw [List.length_map, List.length_range, Int.toNat_natCast]
    exact this
  · obtain ⟨hρ, junk, rfl⟩ := hJ
    obtain ⟨hi, rfl⟩ := rng_at hy
    obtain ⟨r, rfl⟩ := hρ.use
    exact ⟨_, rfl, vB_ok TO rfl 60 _ _ _ _ <| Itm.mk <| item_at (j := i % 4) get_new (fmod_nat i 4) (deep_at p i) (by simp) ⟨⟨rfl, trivial⟩, _, by rw [List.append_assoc]⟩⟩

theorem fn_wrapped (TO : TopOk (T04 w s)) {v : V} {cell : Int} (q : ∀ k r junk, k ≤ 3 → Wrp k v r → Q r (σ ++ junk)) : CallOk (T04 w s) (d + 1) X (.glob "_law_wrapped") [v, .int cell] Q σ := by
  refine CallOk.go TO (v := _) rfl ⟨⟨_, _, _, rfl, rfl, rfl, rfl, rfl, rfl, rfl, rfl, rfl, fun vals h => ?_⟩, rfl, rfl, rfl, rfl, rfl⟩ (ps := ["_law_part", "_law_cell"]) rfl rfl ?_
  · obtain ⟨a, b, rfl⟩ := len2 h; rfl
  have r4 := fmod_range (a := cell) (b := 4) (by decide)
  refine Cal.range ⟨_, fun i ρ' σ' => ∃ r junk, Has ρ' [("_law_part", r), ("_law_cell", .int cell)] ∧ Wrp i v r ∧ σ' = σ ++ junk, ⟨v, [], ⟨rfl, rfl, trivial⟩, .here, by simp⟩, fun i ρ' σ' _ => rng_iter r4.1 (by clear q; omega), fun ρ' σ' hJ => ?_, fun i y ρ' σ' hJ hy => ?_⟩
  · obtain ⟨r, junk, hρ, hw, rfl⟩ := hJ
    obtain ⟨ρ₀, rfl⟩ := hρ.use
    rw [List.length_map, List.length_range] at hw
    exact q _ r junk (by clear q; omega) hw
  · obtain ⟨r, junk, hρ, hw, rfl⟩ := hJ
    obtain ⟨hi, rfl⟩ := rng_at hy
    obtain ⟨ρ₀, rfl⟩ := hρ.use
    obtain ⟨k, hk, hk5⟩ := nat_lt (n := 5) (fmod_range (a := cell.fdiv 4 + (i : Int)) (b := 5) (by decide))
    have done : ∀ {ρ : Loc} {u : V} {jk : Hp}, Has ρ [("_law_part", u), ("_law_cell", .int cell)] → Wr1 r u → ∃ r' junk', Has ρ [("_law_part", r'), ("_law_cell", .int cell)] ∧ Wrp (i + 1) v r' ∧ σ ++ junk ++ jk = σ ++ junk' := fun {ρ u jk} h1 h2 => ⟨u, junk ++ jk, h1, .more hw h2, by rw [List.append_assoc]⟩
    have done0 : ∀ {ρ : Loc} {u : V}, Has ρ [("_law_part", u), ("_law_cell", .int cell)] → Wr1 r u → ∃ r' junk', Has ρ [("_law_part", r'), ("_law_cell", .int cell)] ∧ Wrp (i + 1) v r' ∧ σ ++ junk = σ ++ junk' := fun {ρ u} h1 h2 => ⟨u, junk, h1, .more hw h2, rfl⟩
    refine ⟨_, rfl, vB_ok TO rfl 60 _ _ _ _ <| Br.mk (fun h => ?_) fun h => Br.mk (fun h' => done0 ⟨rfl, rfl, trivial⟩ .o) fun h' => ?_⟩
    · have h := of_decide_eq_true h
      have e : k = 0 ∨ k = 1 := by clear q done done0; omega
      rcases e with rfl | rfl
      · exact Itm.mk <| item_at (j := 0) get_new hk rfl (by simp) (done ⟨rfl, rfl, trivial⟩ .r0)
      · exact Itm.mk <| item_at (j := 1) get_new hk rfl (by simp) (done ⟨rfl, rfl, trivial⟩ .r1)
    · have h := of_decide_eq_false h
      have h' := ne_of_beq_false h'
      have e : k = 3 ∨ k = 4 := by clear q done done0; omega
      rcases e with rfl | rfl
      · exact Itm.mk <| item_at (j := 0) get_new (by rw [hk]; rfl) rfl (by simp) (done ⟨rfl, rfl, trivial⟩ .m)
      · exact Itm.mk <| item_at (j := 1) get_new (by rw [hk]; rfl) rfl (by simp) (done ⟨rfl, rfl, trivial⟩ .n)

theorem fn_wrong (TO : TopOk (T04 w s)) {kind : Int} {c : Nat} (hc : isSignC c = true) (q : ∀ v junk, (∀ n ≤ 12, partB n v = false) → Kd (σ ++ junk) 26 v → Q v (σ ++ junk)) : CallOk (T04 w s) (d + 2) X (.glob "_law_wrong") [.int kind, .str ⟨#[c]⟩] Q σ := by
  refine CallOk.go TO (v := _) rfl ⟨⟨_, _, _, rfl, rfl, rfl, rfl, rfl, rfl, rfl, rfl, rfl, fun vals h => ?_⟩, rfl, rfl, rfl, rfl, rfl⟩ (ps := ["_law_kind", "_law_sign"]) rfl rfl ?_
  · obtain ⟨a, b, rfl⟩ := len2 h; rfl
  obtain ⟨k, hk, hk24⟩ := nat_lt (n := 24) (fmod_range (a := kind) (b := 24) (by decide))
  refine Bin.cat (sz _ rfl) <| Bin.lists (get_up get_new) get_new (sz _ rfl) <| Bin.lists (get_up (get_up get_new)) get_new (sz _ rfl) ?_
  refine Cal.mk <| fn_deep (p := .any) (m := 12) TO (by decide) fun jk => Bin.lists (get_up (get_up (get_up get_new))) get_new (sz _ rfl) ?_
  have fin : ∀ {τ : Hp} {l1 l2 m : Nat}, τ[l1]? = some (.list [V.tup [.str "any"]]) → τ[l2]? = some (.list [V.str (Str.ofString "any")]) → (∃ junk, τ = σ ++ junk) → τ[m]? = some (.list (wrongL c l1 l2)) → itemVC (.ref m) (.int (kind.fmod 24)) (fun v σ' => Q v σ') τ := fun {τ l1 l2 m} h1 h2 hτ hm => by
    have hlt : k < (wrongL c l1 l2).length := hk24
    have hv := List.getElem_mem hlt
    obtain ⟨junk, rfl⟩ := hτ
    exact item_at (v := (wrongL c l1 l2)[k]) hm hk (List.getElem?_eq_getElem hlt) (by show 24 < 2 ^ 62; decide) (q _ _ (wrongL_bad hc _ hv) (wrongL_kd hc h1 h2 _ hv))
  exact Itm.mk (fin (get_up (get_up (get_up (get_up (get_up (get_up get_new)))))) (get_up (get_up (get_up get_new))) ⟨_, by simp only [List.append_assoc]; rfl⟩ get_new)

noncomputable def nameL : List V := [.str (Str.ofString "xbad"), .str (Str.ofString ""), .str (Str.ofString "abcdefghijklm"), .str (Str.ofString "a1"), .str (Str.ofString "aB"), .str (Str.ofString "a b"), .int 5, .none, .str (Str.ofString "xgood")]
theorem fn_name (TO : TopOk (T04 w s)) {kind : Int} (q : ∀ v ∈ nameL, ∀ junk, Q v (σ ++ junk)) : CallOk (T04 w s) (d + 1) X (.glob "_law_name") [.int kind] Q σ := by
  refine CallOk.go TO (v := _) rfl ⟨⟨_, _, _, rfl, rfl, rfl, rfl, rfl, rfl, rfl, rfl, rfl, fun vals h => ?_⟩, rfl, rfl, rfl, rfl, rfl⟩ (ps := ["_law_kind"]) rfl rfl ?_
  · obtain ⟨a, rfl⟩ := len1 h; rfl
  obtain ⟨k, hk, hk9⟩ := nat_lt (n := 9) (fmod_range (a := kind) (b := 9) (by decide))
  have hlt : k < nameL.length := hk9
  exact Itm.mk (item_at (vs := nameL) (v := nameL[k]) get_new hk (List.getElem?_eq_getElem hlt) (by decide) (q _ (List.getElem_mem hlt) _))

theorem fn_put_in (TO : TopOk (T04 w s)) {l : Nat} {us : List V} {u : V} {cell : Int} (hl : σ[l]? = some (.list us)) (hn : us.length < 100) (q : ∀ k m junk, k ≤ us.length → (σ ++ junk)[m]? = some (.list (us.take k ++ [u] ++ us.drop k)) → Q (.ref m) (σ ++ junk)) : CallOk (T04 w s) (d + 1) X (.glob "_law_put_in") [.ref l, u, .int cell] Q σ := by
  refine CallOk.go TO (v := _) rfl ⟨⟨_, _, _, rfl, rfl, rfl, rfl, rfl, rfl, rfl, rfl, rfl, fun vals h => ?_⟩, rfl, rfl, rfl, rfl, rfl⟩ (ps := ["_law_rules", "_law_rule", "_law_cell"]) rfl rfl ?_
  · obtain ⟨a, b, c, rfl⟩ := len3 h; rfl
  obtain ⟨k, hk, hkl⟩ := nat_lt (n := us.length + 1) (fmod_range (a := cell) (b := (us.length : Int) + 1) (by omega))
  have hs : us.length ≤ sizeLine := szo (by omega)
  refine Cal.len (n := us.length) (by simp only [lenV, hl]) (by omega) <| Evx.mk <| EvOk.sliceTo <| vE_ok TO rfl 40 _ _ _ <| vE_ok TO rfl 40 _ _ _ <| Slc.mk l us k rfl (by rw [hk]) hl hs <| Bin.lists (get_up get_new) get_new (by simp only [List.length_take, List.length_cons, List.length_nil]; exact szo (by clear hk; omega)) <| Evx.mk <| EvOk.sliceFrom <| vE_ok TO rfl 40 _ _ _ <| vE_ok TO rfl 40 _ _ _ <| Slc.mk l us k rfl (by rw [hk]) (get_up (get_up (get_up hl))) hs <| Bin.lists (get_up get_new) get_new (by simp only [List.length_append, List.length_take, List.length_drop, List.length_cons, List.length_nil]; exact szo (by clear hk; omega)) ?_
  simp only [List.append_assoc]
  refine q k _ _ (by clear hk; omega) ?_
  simp only [← List.append_assoc]
  exact get_new
end Mine

open PySem PySem.W PyProof.Rows
set_option maxRecDepth 100000
namespace Mine
variable {w : World} {s : Shared} {d : Nat} {X : QX} {Q : QE} {σ : Hp}
set_option maxHeartbeats 4000000

theorem item_abcd {k : Int} {Q : QE} {σ : Hp} (h0 : 0 ≤ k) (h1 : k < 4) (q : Q (.str (S [97 + k.toNat])) σ) : Itm (.str (Str.ofString "abcd")) (.int k) Q σ := by
  obtain ⟨c, hc, e⟩ := idx_at (S := Str.ofString "abcd") (n := 4) (P := fun j c => decide (c = 97 + j)) (by decide +kernel) (by decide +kernel) h0 h1
  rw [decide_eq_true_iff] at hc
  subst hc
  exact ⟨_, e, ⟨by (clear q e h1; omega), by (clear q e h0; omega)⟩, q⟩
/-- what the names hold while the rules are made -/
inductive J04p (xs : List Int) (f : Int) (σ : Hp) (b0 b1 b2 : Bool) (ρ' : Loc) (σ' : Hp) : Prop where
  | mk (c : Nat) (gs : List (V × V)) (m : Nat) (junk : Hp) (hc : isSignC c = true) (q0 : Has ρ' [("_law_script", .scr xs), ("_law_faults", .int f), ("_law_sign", .str ⟨#[c]⟩), ("_law_rules", .ref m)]) (q1 : Out4 b0 b1 b2 σ' gs) (q2 : σ' = σ ++ junk) (q3 : σ'[m]? = some (.list (gs.map pV))) : J04p xs f σ b0 b1 b2 ρ' σ'
theorem baseR_next {c i : Nat} {t : Int} : ((baseR c (i + 1) t).map emb).map pV = ((baseR c i t).map emb).map pV ++ [.tup [.str (S [97 + i]), .tup [.str "row", .tup [.tup [.str "sign", .str ⟨#[c]⟩], .tup [.str "rule", .str (S [97 + (t.fmod (i + 1)).toNat])]]]]] := by
  rw [baseR, List.range_succ, List.map_append]; simp [baseR, emb, Pt.v, Pt.vs]

theorem fn_rules_by (TO : TopOk (T04 w s)) {xs : List Int} {f : Int} (hx : xs.length < 2 ^ 62) (q : ∀ gs m junk, Out4 (f.fmod 2 == 1) ((f.fdiv 2).fmod 2 == 1) ((f.fdiv 4).fmod 2 == 1) (σ ++ junk) gs → (σ ++ junk)[m]? = some (.list (gs.map pV)) → Q (.ref m) (σ ++ junk)) : CallOk (T04 w s) (d + 3) X (.glob "_law_rules_by") [.scr xs, .int f] Q σ := by
  refine CallOk.fn TO (FnV.glob (v := _) rfl ⟨⟨_, _, _, rfl, rfl, rfl, rfl, rfl, rfl, rfl, rfl, rfl, fun vals h => ?_⟩, rfl, rfl, rfl, rfl, rfl⟩) (ps := ["_law_script", "_law_faults"]) rfl ?_
  · obtain ⟨a, b, rfl⟩ := len2 h; rfl
  have cell : ∀ {k : Int} {K : QE} {τ : Hp}, decide (0 ≤ k ∧ k < 2 ^ 62) = true → K (.int (xs.getD k.toNat 0)) τ → Cal (T04 w s) (d + 2) X (.glob "_law_cell_at") [.scr xs, .int k] K τ := fun hk h => ⟨fn_cell_at (d := d + 1) TO (of_decide_eq_true hk).1 (of_decide_eq_true hk).2 hx h⟩
  -- the good ones
  refine ExOk.cutAt 3 (J04p xs f σ false false false) (vB_ok TO rfl 60 _ _ _ _ ?_) fun ρ₁ σ₁ hJ => ?_
  · refine cell rfl <| Cal.mk <| fn_sign_by (d := d + 1) TO fun c hc => Cal.mk <| fn_deep (d := d + 1) (p := .sign c) (m := 11) TO (by decide) fun jk => cell rfl ?_
    obtain ⟨n, hn, hn4⟩ := nat_lt (n := 4) (fmod_range (a := xs.getD (2 : Int).toNat 0) (b := 4) (by decide))
    refine Cal.range ⟨_, fun i ρ' σ' => i ≤ 3 ∧ ∃ junk, Has ρ' [("_law_script", .scr xs), ("_law_faults", .int f), ("_law_sign", .str ⟨#[c]⟩), ("_law_rules", .ref (σ ++ jk).length)] ∧ σ' = σ ++ jk ++ [.list (((baseR c i (xs.getD (3 : Int).toNat 0)).map emb).map pV)] ∧ junk = jk, ⟨by decide, jk, ⟨rfl, rfl, rfl, rfl, trivial⟩, rfl, rfl⟩, fun i ρ' σ' _ => rng_iter (by rw [hn]; omega) (by rw [hn]; omega), fun ρ' σ' hJ => ?_, fun i y ρ' σ' hJ hy => ?_⟩
    · obtain ⟨hi, _, hρ, rfl, _⟩ := hJ
      exact ⟨c, (baseR c _ (xs.getD (3 : Int).toNat 0)).map emb, _, _, hc, hρ, base_out hc hi, by rw [List.append_assoc], get_new⟩
    · obtain ⟨hi3, _, hρ, rfl, _⟩ := hJ
      obtain ⟨hi, rfl⟩ := rng_at hy
      rw [hn, Int.toNat_natCast] at hi
      obtain ⟨ρ₀, rfl⟩ := hρ.use
      have r := fmod_range (a := xs.getD (3 : Int).toNat 0) (b := (i : Int) + 1) (by omega)
      refine ⟨_, rfl, vB_ok TO rfl 60 _ _ _ _ <| MethOk.append get_new <| item_abcd (by omega) (by omega) <| cell rfl <| item_abcd r.1 (by omega) <| Cal.mk <| CallOk.append get_new (by simp only [List.length_map, baseR, List.length_cons, List.length_range]; exact szo (by omega)) ?_⟩
      refine ⟨by omega, jk, ⟨rfl, rfl, rfl, rfl, trivial⟩, ?_, rfl⟩
      rw [set0, baseR_next]; rfl
  -- a bad one
  refine ExOk.cutAt 1 (J04p xs f σ (f.fmod 2 == 1) false false) (vB_ok TO rfl 60 _ _ _ _ ?_) fun ρ₂ σ₂ hJ₂ => ?_
  · obtain ⟨c, gs, m, junk, hc, hρ, hO, rfl, hm⟩ := hJ
    obtain ⟨ρ₀, rfl⟩ := hρ.use
    refine Br.mk (fun h => ?_) fun h => ?_
    rotate_left
    · rw [h]; exact ⟨c, gs, m, junk, hc, ⟨rfl, rfl, rfl, rfl, trivial⟩, hO, rfl, hm⟩
    rw [h]
    have put : ∀ {a b : V} {τ : Hp} {K : QE} {cl : Int}, (∃ jk, τ = σ ++ junk ++ jk) → Kd τ 36 a → Kd τ 36 b → asciiV a → (nameV a = false ∨ partB 12 b = false ∨ a = .str (Str.ofString "xgood")) → (∀ gs' m' j', Out4 true false false (σ ++ j') gs' → (σ ++ j')[m']? = some (.list (gs'.map pV)) → K (.ref m') (σ ++ j')) →
        Cal (T04 w s) (d + 2) X (.glob "_law_put_in") [.ref m, .tup [a, b], .int cl] K τ := fun {a b τ K cl} hτ ha hb hc hr k => by
      obtain ⟨jk, rfl⟩ := hτ
      exact ⟨fn_put_in (d := d + 1) TO (get_up hm) (by rw [List.length_map]; have := hO.len; omega) fun i m' j' hi hm' => by
        have e : (gs.map pV).take i ++ [.tup [a, b]] ++ (gs.map pV).drop i = (ins gs i (a, b)).map pV := (ins_map pV gs i (a, b)).symm
        rw [e] at hm'
        have hO' := (hO.up (jk := jk)).bad_in i ha hb hc hr |>.up (jk := j')
        simp only [List.append_assoc] at hO' hm' ⊢
        exact k _ _ _ hO' hm'⟩
    have asc : ∀ {x : Str}, (x.cps.toList.all fun c => decide (c < 128)) = true → asciiV (.str x) := fun h c hc => of_decide_eq_true (List.all_eq_true.mp h c hc)
    have lit : ∀ {τ : Hp} {x : Str}, (Nat.blt x.length 1000 && PyData.strOk x) = true → Kd τ 36 (.str x) := fun h => kd_lit h
    have any : ∀ {τ : Hp}, Kd τ 36 (.tup [.str "any"]) := kd1 (kd_lit (by decide +kernel))
    have fin : ∀ {ρ : Loc} {gs' : List (V × V)} {m' : Nat} {j' : Hp}, Has ρ [("_law_script", .scr xs), ("_law_faults", .int f), ("_law_sign", .str ⟨#[c]⟩), ("_law_rules", .ref m')] → Out4 true false false (σ ++ j') gs' → (σ ++ j')[m']? = some (.list (gs'.map pV)) → J04p xs f σ true false false ρ (σ ++ j') := fun h1 h2 h3 => ⟨c, _, _, _, hc, h1, h2, rfl, h3⟩
    have wrong : ∀ {K : QE} {kd : Int} {τ : Hp}, (∀ v j', (∀ n ≤ 12, partB n v = false) → Kd (τ ++ j') 26 v → K v (τ ++ j')) → Cal (T04 w s) (d + 2) X (.glob "_law_wrong") [.int kd, .str ⟨#[c]⟩] K τ := fun k => ⟨fn_wrong (d := d) TO hc k⟩
    have wrap : ∀ {K : QE} {v : V} {cl : Int} {τ : Hp}, (∀ n ≤ 12, partB n v = false) → Kd τ 26 v → (∀ r j', partB 12 r = false → Kd (τ ++ j') 36 r → K r (τ ++ j')) → Cal (T04 w s) (d + 2) X (.glob "_law_wrapped") [v, .int cl] K τ := fun hb hk k => ⟨fn_wrapped (d := d + 1) TO fun i r j' hi hw => k r j' (hw.bad hb 12 (Nat.le_refl _)) ((hw.kd hk.up).le (by omega))⟩
    have ne5 : ∀ {K : QE} {τ : Hp}, K (.bool false) τ → Cmp .Eq (.int 5) (.str (Str.ofString "xbad")) K τ := fun k => Cmp.mk ⟨.int 5, .str (Str.ofString "xbad"), by unfold Deep; rfl, by unfold Deep; exact ⟨rfl, by decide +kernel⟩, by decide, k⟩
    have neN : ∀ {K : QE} {τ : Hp}, K (.bool false) τ → Cmp .Eq .none (.str (Str.ofString "xbad")) K τ := fun k => Cmp.mk ⟨.none, .str (Str.ofString "xbad"), by unfold Deep; rfl, by unfold Deep; exact ⟨rfl, by decide +kernel⟩, by decide, k⟩
    refine cell rfl <| Br.mk (fun h2 => cell rfl <| Cal.mk <| fn_name (d := d + 1) TO fun v hv jn => ?_) fun h2 => cell rfl <| Br.mk (fun h1 => Cal.mk <| fn_deep (d := d + 1) (p := .sign c) (m := 12) TO (by decide) fun jd => cell rfl <| put ⟨jd, rfl⟩ (lit (by decide +kernel)) ((Pt.kd 13 _ (by rw [deepP_deep _ (by simp [Pt.deep])]; exact Nat.le_refl _) (deepP_ok _ (by simpa [Pt.ok] using hc) _)).le (by decide)) (asc (by decide +kernel)) (.inr (.inl (by rw [partB_pt, deepP_deep _ (by simp [Pt.deep]), decide_eq_false (by decide), Bool.and_false]))) fun gs' m' j' g1 g2 => fin ⟨rfl, rfl, rfl, rfl, trivial⟩ g1 g2)
      fun h1 => cell rfl <| wrong fun v j1 hb hk => cell rfl <| wrap hb hk fun r j2 hb2 hk2 => cell rfl <| put ⟨j1 ++ j2, by simp only [List.append_assoc]⟩ (lit (by decide +kernel)) hk2 (asc (by decide +kernel)) (.inr (.inl hb2)) fun gs' m' j' g1 g2 => fin ⟨rfl, rfl, rfl, rfl, trivial⟩ g1 g2
    have hno1 : ((xs.getD (11 : Int).toNat 0).fmod 3 == 1) = false := by
      have := eq_of_beq h2
      rw [this]; rfl
    simp only [nameL, List.mem_cons, List.not_mem_nil, or_false] at hv
    rcases hv with rfl | rfl | rfl | rfl | rfl | rfl | rfl | rfl | rfl
    · exact cell rfl <| Br.f hno1 <| cell rfl <| wrong fun v j1 hb hk => cell rfl <| wrap hb hk fun r j2 hb2 hk2 => cell rfl <| put ⟨jn ++ (j1 ++ j2), by simp only [List.append_assoc]⟩ (lit (by decide +kernel)) hk2 (asc (by decide +kernel)) (.inr (.inl hb2)) fun gs' m' j' g1 g2 => fin ⟨rfl, rfl, rfl, rfl, trivial⟩ g1 g2
    · exact cell rfl <| put ⟨jn, rfl⟩ (lit (by decide +kernel)) any (asc (by decide +kernel)) (.inl (by decide +kernel)) fun gs' m' j' g1 g2 => fin ⟨rfl, rfl, rfl, rfl, trivial⟩ g1 g2
    · exact cell rfl <| put ⟨jn, rfl⟩ (lit (by decide +kernel)) any (asc (by decide +kernel)) (.inl (by decide +kernel)) fun gs' m' j' g1 g2 => fin ⟨rfl, rfl, rfl, rfl, trivial⟩ g1 g2
    · exact cell rfl <| put ⟨jn, rfl⟩ (lit (by decide +kernel)) any (asc (by decide +kernel)) (.inl (by decide +kernel)) fun gs' m' j' g1 g2 => fin ⟨rfl, rfl, rfl, rfl, trivial⟩ g1 g2
    · exact cell rfl <| put ⟨jn, rfl⟩ (lit (by decide +kernel)) any (asc (by decide +kernel)) (.inl (by decide +kernel)) fun gs' m' j' g1 g2 => fin ⟨rfl, rfl, rfl, rfl, trivial⟩ g1 g2
    · exact cell rfl <| put ⟨jn, rfl⟩ (lit (by decide +kernel)) any (asc (by decide +kernel)) (.inl (by decide +kernel)) fun gs' m' j' g1 g2 => fin ⟨rfl, rfl, rfl, rfl, trivial⟩ g1 g2
    · exact ne5 <| ne5 <| cell rfl <| put ⟨jn, rfl⟩ (.int 5) any trivial (.inl rfl) fun gs' m' j' g1 g2 => fin ⟨rfl, rfl, rfl, rfl, trivial⟩ g1 g2
    · exact neN <| neN <| cell rfl <| put ⟨jn, rfl⟩ .none any trivial (.inl rfl) fun gs' m' j' g1 g2 => fin ⟨rfl, rfl, rfl, rfl, trivial⟩ g1 g2
    · exact cell rfl <| put ⟨jn, rfl⟩ (lit (by decide +kernel)) any (asc (by decide +kernel)) (.inr (.inr rfl)) fun gs' m' j' g1 g2 => fin ⟨rfl, rfl, rfl, rfl, trivial⟩ g1 g2
  -- a lost one
  clear hJ
  generalize (f.fmod 2 == 1) = b0 at hJ₂ q
  refine ExOk.cutAt 1 (J04p xs f σ b0 ((f.fdiv 2).fmod 2 == 1) false) (vB_ok TO rfl 60 _ _ _ _ ?_) fun ρ₃ σ₃ hJ₃ => ?_
  · obtain ⟨c, gs, m, junk, hc, hρ, hO, rfl, hm⟩ := hJ₂
    obtain ⟨ρ₀, rfl⟩ := hρ.use
    refine Br.mk (fun h => ?_) fun h => ?_
    rotate_left
    · rw [h]; exact ⟨c, gs, m, junk, hc, ⟨rfl, rfl, rfl, rfl, trivial⟩, hO, rfl, hm⟩
    rw [h]
    have go : ∀ {n : Str} {τ : Hp} {cl : Int} {K : QE}, n ∈ strangers → (∃ jk, τ = σ ++ junk ++ jk) → (∀ r τ', (∃ jk, τ' = σ ++ junk ++ jk) → (∃ p : Pt, r = p.v ∧ Fine (Str.ofString "xlost", p) ∧ p.Asks n) → K r τ') → Cal (T04 w s) (d + 2) X (.glob "_law_wrapped") [.tup [.str "rule", .str n], .int cl] K τ := fun {n τ cl K} hn hτ k => ⟨fn_wrapped (d := d + 1) TO fun i r j' hi hw => by
      obtain ⟨jk, rfl⟩ := hτ
      have hnn : n.length < 1000 ∧ sOk n := by
        simp only [strangers, List.mem_cons, List.not_mem_nil, or_false] at hn
        rcases hn with rfl | rfl | rfl <;> exact ⟨by decide +kernel, by unfold sOk; decide +kernel⟩
      obtain ⟨p', e, h1, h2, h3, h4⟩ := hw.pt (P := fun m => m.length < 1000 ∧ sOk m) (p := .rule n) (by rw [Pt.v]) (by simpa [Pt.ok] using hnn)
      simp only [Pt.deep, Pt.size] at h2 h3
      exact k r _ ⟨jk ++ j', by simp only [List.append_assoc]⟩ ⟨p', e, ⟨show isName (Str.ofString "xlost") = true by decide +kernel, h1, by show p'.deep ≤ 12; omega, by show p'.size < 100000; omega⟩, h4 n .here⟩⟩
    have put : ∀ {r : V} {n : Str} {τ : Hp} {K : QE} {cl : Int}, n ∈ strangers → (∃ jk, τ = σ ++ junk ++ jk) → (∃ p : Pt, r = p.v ∧ Fine (Str.ofString "xlost", p) ∧ p.Asks n) → (∀ gs' m' j', Out4 b0 true false (σ ++ j') gs' → (σ ++ j')[m']? = some (.list (gs'.map pV)) → K (.ref m') (σ ++ j')) →
        Cal (T04 w s) (d + 2) X (.glob "_law_put_in") [.ref m, .tup [.str "xlost", r], .int cl] K τ := fun {r n τ K cl} hn hτ hr k => by
      obtain ⟨jk, rfl⟩ := hτ
      obtain ⟨p, rfl, hf, ha⟩ := hr
      exact ⟨fn_put_in (d := d + 1) TO (get_up hm) (by rw [List.length_map]; have := hO.len; omega) fun i m' j' hi hm' => by
        have e : (gs.map pV).take i ++ [.tup [.str "xlost", p.v]] ++ (gs.map pV).drop i = (ins gs i (emb (Str.ofString "xlost", p))).map pV := (ins_map pV gs i (emb (Str.ofString "xlost", p))).symm
        rw [e] at hm'
        have hO' := (hO.up (jk := jk)).lost_in i hf hn ha |>.up (jk := j')
        simp only [List.append_assoc] at hO' hm' ⊢
        exact k _ _ _ hO' hm'⟩
    obtain ⟨k, hk, hk3⟩ := nat_lt (n := 3) (fmod_range (a := xs.getD (7 : Int).toNat 0) (b := 3) (by decide))
    have hlt : k < strangers.length := hk3
    have hmem := List.getElem_mem hlt
    refine cell rfl <| Itm.mk <| item_at (vs := strangers.map V.str) (j := k) (v := .str strangers[k]) get_new hk (by rw [List.getElem?_map, List.getElem?_eq_getElem hlt]; rfl) (by decide) <| cell rfl <| go hmem ⟨_, rfl⟩ fun r τ' hτ' hr => cell rfl <| put hmem hτ' hr fun gs' m' j' g1 g2 => ⟨c, _, _, _, hc, ⟨rfl, rfl, rfl, rfl, trivial⟩, g1, rfl, g2⟩
  -- a ring
  clear hJ₂
  generalize ((f.fdiv 2).fmod 2 == 1) = b1 at hJ₃ q
  refine ExOk.cutAt 1 (J04p xs f σ b0 b1 ((f.fdiv 4).fmod 2 == 1)) (vB_ok TO rfl 60 _ _ _ _ ?_) fun ρ₄ σ₄ hJ₄ => vB_ok TO rfl 60 _ _ _ _ ?_
  · obtain ⟨c, gs, m, junk, hc, hρ, hO, rfl, hm⟩ := hJ₃
    obtain ⟨ρ₀, rfl⟩ := hρ.use
    refine Br.mk (fun h => ?_) fun h => ?_
    rotate_left
    · rw [h]; exact ⟨c, gs, m, junk, hc, ⟨rfl, rfl, rfl, rfl, trivial⟩, hO, rfl, hm⟩
    rw [h]
    obtain ⟨k, hk, hk4⟩ := nat_lt (n := 4) (fmod_range (a := xs.getD (9 : Int).toNat 0) (b := 4) (by decide))
    refine cell rfl <| Itm.mk <| item_at (j := k) (v := (ringP k).v) get_new hk ?_ (by simp) <| cell rfl <| Cal.mk <| fn_put_in (d := d + 1) TO (get_up hm) (by rw [List.length_map]; have := hO.len; omega) fun i m' j' hi hm' => ?_
    · match k, hk4 with
      | 0, _ => rfl
      | 1, _ => rfl
      | 2, _ => rfl
      | 3, _ => rfl
    · obtain ⟨hf, ha, hr⟩ := ring_ok k
      have hO' := fun (jk : Hp) => ((hO.up (jk := jk)).ring_in i hf ha hr).up (jk := j')
      have e : (gs.map pV).take i ++ [.tup [.str "xring", (Pt.row [.nt .any, ringP k]).v]] ++ (gs.map pV).drop i = (ins gs i (emb (Str.ofString "xring", .row [.nt .any, ringP k]))).map pV := (ins_map pV gs i (emb (Str.ofString "xring", .row [.nt .any, ringP k]))).symm
      refine ⟨c, _, m', _, hc, ⟨rfl, rfl, rfl, rfl, trivial⟩, hO' _, by simp only [List.append_assoc]; rfl, ?_⟩
      rw [← e]; exact hm'
  obtain ⟨c, gs, m, junk, hc, hρ, hO, rfl, hm⟩ := hJ₄
  obtain ⟨ρ₀, rfl⟩ := hρ.use
  exact q gs m junk hO hm
end Mine

open PySem PySem.W PyProof.Rows
set_option maxRecDepth 100000
namespace Mine
variable {w : World} {s : Shared} {d : Nat} {X : QX} {Q : QE} {σ : Hp}
set_option maxHeartbeats 4000000
noncomputable abbrev U04 (w : World) (s : Shared) : Tp := (T04 w s).at true
theorem Cal.isiX {T : Tp} {c x : Str} {C D : Addr} {b : Bool} (TO : TopOk T) (hc : T.c c = some C) (hx : T.g x = some (.ref D)) (ek : excK T.K C = true) (e : kitOne T.K (.ref C) (.ref D) = some b) (q : Q (.bool b) σ) : Cal T d X (.bi "isinstance") [.exc c, .glob x] Q σ := ⟨CallOk.isiX TO hc hx ek e q⟩
noncomputable def markB (p : Nat) : List Bool := (List.range 8).map fun k => decide (k = p) || decide (5 < k)
theorem bools_deep (σ : Hp) : ∀ l : List Bool, Deeps σ (l.map PyData.bool) (l.map V.bool)
  | [] => by unfold Deeps; rfl
  | b :: r => by unfold Deeps; exact ⟨_, _, rfl, by unfold Deep; rfl, bools_deep σ r⟩
theorem markB_at {p i : Nat} (h : i < 8) : (markB p)[i]? = some (decide (i = p) || decide (5 < i)) := by simp [markB, h]

theorem fn_marks0 (TO : TopOk (U04 w s)) (q : Q (.ref (σ.length + 4)) (σ ++ [.list [.bool true, .bool false, .bool false], .list [.bool false, .bool false, .bool false], .list [.bool true, .bool false, .bool false, .bool false, .bool false, .bool false], .list [.bool true, .bool true], .list [.bool true, .bool false, .bool false, .bool false, .bool false, .bool false, .bool true, .bool true]])) : CallOk (U04 w s) (d + 1) X (.glob "_law_marks") [.exc "NoGrammar"] Q σ := by
  refine CallOk.go TO (v := _) rfl ⟨⟨_, _, _, rfl, rfl, rfl, rfl, rfl, rfl, rfl, rfl, rfl, fun vals h => ?_⟩, rfl, rfl, rfl, rfl, rfl⟩ (ps := ["_law_error"]) rfl rfl ?_
  · obtain ⟨a, rfl⟩ := len1 h; rfl
  refine Cal.isiX (b := true) TO rfl rfl rfl rfl <| Cal.isiX (b := false) TO rfl rfl rfl rfl <| Cal.isiX (b := false) TO rfl rfl rfl rfl <| Cal.isiX (b := false) TO rfl rfl rfl rfl <| Cal.isiX (b := false) TO rfl rfl rfl rfl <| Cal.isiX (b := false) TO rfl rfl rfl rfl <| Bin.lists (get_up get_new) get_new (sz _ rfl) <| Cal.isiX (b := true) TO rfl rfl rfl rfl <| Cal.mk <| CallOk.isiXT (b := true) TO rfl rfl rfl <| Bin.lists (get_up get_new) get_new (sz _ rfl) ?_
  simp only [List.append_assoc, List.cons_append, List.nil_append, List.length_append, List.length_cons, List.length_nil]
  exact q
theorem fn_alone0 (TO : TopOk (U04 w s)) (q : ∀ junk, Q (.bool true) (σ ++ junk)) : CallOk (U04 w s) (d + 2) X (.glob "_law_alone") [.exc "NoGrammar", .int 0] Q σ := by
  refine CallOk.go TO (v := _) rfl ⟨⟨_, _, _, rfl, rfl, rfl, rfl, rfl, rfl, rfl, rfl, rfl, fun vals h => ?_⟩, rfl, rfl, rfl, rfl, rfl⟩ (ps := ["_law_error", "_law_place"]) rfl rfl ?_
  · obtain ⟨a, b, rfl⟩ := len2 h; rfl
  refine Cal.mk <| fn_marks0 TO ?_
  generalize hσ : σ ++ [MObj.list [.bool true, .bool false, .bool false], .list [.bool false, .bool false, .bool false], .list [.bool true, .bool false, .bool false, .bool false, .bool false, .bool false], .list [.bool true, .bool true], .list [.bool true, .bool false, .bool false, .bool false, .bool false, .bool false, .bool true, .bool true]] = σ₁
  have h4 : σ₁[σ.length + 4]? = some (.list ((markB 0).map V.bool)) := by rw [← hσ, List.getElem?_append_right (by omega)]; simp; rfl
  refine Evx.mk <| EvOk.compR rfl rfl rfl <| vE_ok TO rfl 40 _ _ _ <| Cal.range ⟨.inr ⟨_, rfl⟩, _, fun i acc σ' => acc = ((markB 0).take i).map V.bool ∧ i ≤ 8 ∧ σ' = σ₁, ⟨rfl, by omega, rfl⟩, fun i acc σ' hJ => ⟨rng_iter (by decide) (by decide), ?_⟩, fun acc σ' hJ => ?_, fun i y acc σ' hJ hy => ?_⟩
  · rw [hJ.1, List.length_map, List.length_take]; exact szo (by have := hJ.2.1; clear h4 hJ; omega)
  · obtain ⟨rfl, _, rfl⟩ := hJ
    refine Cmp.mk ⟨.list ((markB 0).map PyData.bool), .list ((markB 0).map PyData.bool), ?_, ?_, by decide, ?_⟩
    · unfold Deep; exact ⟨_, _, rfl, get_up h4, bools_deep _ _⟩
    · unfold Deep; exact ⟨_, _, rfl, get_new, bools_deep _ (markB 0)⟩
    · rw [show PyData.eqv (.list ((markB 0).map PyData.bool)) (.list ((markB 0).map PyData.bool)) = true by decide, ← hσ, List.append_assoc]
      exact q _
  · obtain ⟨rfl, hi, rfl⟩ := hJ
    obtain ⟨hi, rfl⟩ := rng_at hy
    have hi : i < 8 := hi
    have next : ∀ {b : Bool}, b = (decide (i = 0) || decide (5 < i)) → ((markB 0).take i).map V.bool ++ [.bool b] = ((markB 0).take (i + 1)).map V.bool ∧ i + 1 ≤ 8 ∧ σ' = σ' := fun {b} e => by
      refine ⟨?_, hi, rfl⟩
      rw [take_next (markB_at hi), List.map_append, e]; rfl
    refine vE_ok TO rfl 40 _ _ _ <| Br.mk (fun h => next ?_) fun h => next ?_
    · rw [Bool.eq_iff_iff]; simp at h ⊢; omega
    · rw [Bool.eq_iff_iff]; simp at h ⊢; omega

theorem fn_marks1 (TO : TopOk (U04 w s)) (q : Q (.ref (σ.length + 4)) (σ ++ [.list [.bool false, .bool true, .bool false], .list [.bool false, .bool false, .bool false], .list [.bool false, .bool true, .bool false, .bool false, .bool false, .bool false], .list [.bool true, .bool true], .list [.bool false, .bool true, .bool false, .bool false, .bool false, .bool false, .bool true, .bool true]])) : CallOk (U04 w s) (d + 1) X (.glob "_law_marks") [.exc "NoRule"] Q σ := by
  refine CallOk.go TO (v := _) rfl ⟨⟨_, _, _, rfl, rfl, rfl, rfl, rfl, rfl, rfl, rfl, rfl, fun vals h => ?_⟩, rfl, rfl, rfl, rfl, rfl⟩ (ps := ["_law_error"]) rfl rfl ?_
  · obtain ⟨a, rfl⟩ := len1 h; rfl
  refine Cal.isiX (b := false) TO rfl rfl rfl rfl <| Cal.isiX (b := true) TO rfl rfl rfl rfl <| Cal.isiX (b := false) TO rfl rfl rfl rfl <| Cal.isiX (b := false) TO rfl rfl rfl rfl <| Cal.isiX (b := false) TO rfl rfl rfl rfl <| Cal.isiX (b := false) TO rfl rfl rfl rfl <| Bin.lists (get_up get_new) get_new (sz _ rfl) <| Cal.isiX (b := true) TO rfl rfl rfl rfl <| Cal.mk <| CallOk.isiXT (b := true) TO rfl rfl rfl <| Bin.lists (get_up get_new) get_new (sz _ rfl) ?_
  simp only [List.append_assoc, List.cons_append, List.nil_append, List.length_append, List.length_cons, List.length_nil]
  exact q
theorem fn_alone1 (TO : TopOk (U04 w s)) (q : ∀ junk, Q (.bool true) (σ ++ junk)) : CallOk (U04 w s) (d + 2) X (.glob "_law_alone") [.exc "NoRule", .int 1] Q σ := by
  refine CallOk.go TO (v := _) rfl ⟨⟨_, _, _, rfl, rfl, rfl, rfl, rfl, rfl, rfl, rfl, rfl, fun vals h => ?_⟩, rfl, rfl, rfl, rfl, rfl⟩ (ps := ["_law_error", "_law_place"]) rfl rfl ?_
  · obtain ⟨a, b, rfl⟩ := len2 h; rfl
  refine Cal.mk <| fn_marks1 TO ?_
  generalize hσ : σ ++ [MObj.list [.bool false, .bool true, .bool false], .list [.bool false, .bool false, .bool false], .list [.bool false, .bool true, .bool false, .bool false, .bool false, .bool false], .list [.bool true, .bool true], .list [.bool false, .bool true, .bool false, .bool false, .bool false, .bool false, .bool true, .bool true]] = σ₁
  have h4 : σ₁[σ.length + 4]? = some (.list ((markB 1).map V.bool)) := by rw [← hσ, List.getElem?_append_right (by omega)]; simp; rfl
  refine Evx.mk <| EvOk.compR rfl rfl rfl <| vE_ok TO rfl 40 _ _ _ <| Cal.range ⟨.inr ⟨_, rfl⟩, _, fun i acc σ' => acc = ((markB 1).take i).map V.bool ∧ i ≤ 8 ∧ σ' = σ₁, ⟨rfl, by omega, rfl⟩, fun i acc σ' hJ => ⟨rng_iter (by decide) (by decide), ?_⟩, fun acc σ' hJ => ?_, fun i y acc σ' hJ hy => ?_⟩
  · rw [hJ.1, List.length_map, List.length_take]; exact szo (by have := hJ.2.1; clear h4 hJ; omega)
  · obtain ⟨rfl, _, rfl⟩ := hJ
    refine Cmp.mk ⟨.list ((markB 1).map PyData.bool), .list ((markB 1).map PyData.bool), ?_, ?_, by decide, ?_⟩
    · unfold Deep; exact ⟨_, _, rfl, get_up h4, bools_deep _ _⟩
    · unfold Deep; exact ⟨_, _, rfl, get_new, bools_deep _ (markB 1)⟩
    · rw [show PyData.eqv (.list ((markB 1).map PyData.bool)) (.list ((markB 1).map PyData.bool)) = true by decide, ← hσ, List.append_assoc]
      exact q _
  · obtain ⟨rfl, hi, rfl⟩ := hJ
    obtain ⟨hi, rfl⟩ := rng_at hy
    have hi : i < 8 := hi
    have next : ∀ {b : Bool}, b = (decide (i = 1) || decide (5 < i)) → ((markB 1).take i).map V.bool ++ [.bool b] = ((markB 1).take (i + 1)).map V.bool ∧ i + 1 ≤ 8 ∧ σ' = σ' := fun {b} e => by
      refine ⟨?_, hi, rfl⟩
      rw [take_next (markB_at hi), List.map_append, e]; rfl
    refine vE_ok TO rfl 40 _ _ _ <| Br.mk (fun h => next ?_) fun h => next ?_
    · rw [Bool.eq_iff_iff]; simp at h ⊢; omega
    · rw [Bool.eq_iff_iff]; simp at h ⊢; omega

theorem fn_marks2 (TO : TopOk (U04 w s)) (q : Q (.ref (σ.length + 4)) (σ ++ [.list [.bool false, .bool false, .bool true], .list [.bool false, .bool false, .bool false], .list [.bool false, .bool false, .bool true, .bool false, .bool false, .bool false], .list [.bool true, .bool true], .list [.bool false, .bool false, .bool true, .bool false, .bool false, .bool false, .bool true, .bool true]])) : CallOk (U04 w s) (d + 1) X (.glob "_law_marks") [.exc "Circling"] Q σ := by
  refine CallOk.go TO (v := _) rfl ⟨⟨_, _, _, rfl, rfl, rfl, rfl, rfl, rfl, rfl, rfl, rfl, fun vals h => ?_⟩, rfl, rfl, rfl, rfl, rfl⟩ (ps := ["_law_error"]) rfl rfl ?_
  · obtain ⟨a, rfl⟩ := len1 h; rfl
  refine Cal.isiX (b := false) TO rfl rfl rfl rfl <| Cal.isiX (b := false) TO rfl rfl rfl rfl <| Cal.isiX (b := true) TO rfl rfl rfl rfl <| Cal.isiX (b := false) TO rfl rfl rfl rfl <| Cal.isiX (b := false) TO rfl rfl rfl rfl <| Cal.isiX (b := false) TO rfl rfl rfl rfl <| Bin.lists (get_up get_new) get_new (sz _ rfl) <| Cal.isiX (b := true) TO rfl rfl rfl rfl <| Cal.mk <| CallOk.isiXT (b := true) TO rfl rfl rfl <| Bin.lists (get_up get_new) get_new (sz _ rfl) ?_
  simp only [List.append_assoc, List.cons_append, List.nil_append, List.length_append, List.length_cons, List.length_nil]
  exact q
theorem fn_alone2 (TO : TopOk (U04 w s)) (q : ∀ junk, Q (.bool true) (σ ++ junk)) : CallOk (U04 w s) (d + 2) X (.glob "_law_alone") [.exc "Circling", .int 2] Q σ := by
  refine CallOk.go TO (v := _) rfl ⟨⟨_, _, _, rfl, rfl, rfl, rfl, rfl, rfl, rfl, rfl, rfl, fun vals h => ?_⟩, rfl, rfl, rfl, rfl, rfl⟩ (ps := ["_law_error", "_law_place"]) rfl rfl ?_
  · obtain ⟨a, b, rfl⟩ := len2 h; rfl
  refine Cal.mk <| fn_marks2 TO ?_
  generalize hσ : σ ++ [MObj.list [.bool false, .bool false, .bool true], .list [.bool false, .bool false, .bool false], .list [.bool false, .bool false, .bool true, .bool false, .bool false, .bool false], .list [.bool true, .bool true], .list [.bool false, .bool false, .bool true, .bool false, .bool false, .bool false, .bool true, .bool true]] = σ₁
  have h4 : σ₁[σ.length + 4]? = some (.list ((markB 2).map V.bool)) := by rw [← hσ, List.getElem?_append_right (by omega)]; simp; rfl
  refine Evx.mk <| EvOk.compR rfl rfl rfl <| vE_ok TO rfl 40 _ _ _ <| Cal.range ⟨.inr ⟨_, rfl⟩, _, fun i acc σ' => acc = ((markB 2).take i).map V.bool ∧ i ≤ 8 ∧ σ' = σ₁, ⟨rfl, by omega, rfl⟩, fun i acc σ' hJ => ⟨rng_iter (by decide) (by decide), ?_⟩, fun acc σ' hJ => ?_, fun i y acc σ' hJ hy => ?_⟩
  · rw [hJ.1, List.length_map, List.length_take]; exact szo (by have := hJ.2.1; clear h4 hJ; omega)
  · obtain ⟨rfl, _, rfl⟩ := hJ
    refine Cmp.mk ⟨.list ((markB 2).map PyData.bool), .list ((markB 2).map PyData.bool), ?_, ?_, by decide, ?_⟩
    · unfold Deep; exact ⟨_, _, rfl, get_up h4, bools_deep _ _⟩
    · unfold Deep; exact ⟨_, _, rfl, get_new, bools_deep _ (markB 2)⟩
    · rw [show PyData.eqv (.list ((markB 2).map PyData.bool)) (.list ((markB 2).map PyData.bool)) = true by decide, ← hσ, List.append_assoc]
      exact q _
  · obtain ⟨rfl, hi, rfl⟩ := hJ
    obtain ⟨hi, rfl⟩ := rng_at hy
    have hi : i < 8 := hi
    have next : ∀ {b : Bool}, b = (decide (i = 2) || decide (5 < i)) → ((markB 2).take i).map V.bool ++ [.bool b] = ((markB 2).take (i + 1)).map V.bool ∧ i + 1 ≤ 8 ∧ σ' = σ' := fun {b} e => by
      refine ⟨?_, hi, rfl⟩
      rw [take_next (markB_at hi), List.map_append, e]; rfl
    refine vE_ok TO rfl 40 _ _ _ <| Br.mk (fun h => next ?_) fun h => next ?_
    · rw [Bool.eq_iff_iff]; simp at h ⊢; omega
    · rw [Bool.eq_iff_iff]; simp at h ⊢; omega
end Mine

open PySem PySem.W PyProof.Rows
set_option maxRecDepth 100000
namespace Mine
variable {w : World} {s : Shared} {d : Nat} {X : QX} {Q : QE} {σ : Hp}
set_option maxHeartbeats 4000000

theorem yRules_next (i : Nat) : (yRules (i + 1)).map ruleV = (yRules i).map ruleV ++ [.tup [.str (S ([121] ++ [97 + i % 26] ++ [97 + i / 26])), .tup [.str "any"]]] := by
  rw [yRules, List.range_succ, List.map_append]; simp [yRules, yName, shortBy, Pt.v]
theorem cat_S {a b : List Nat} {Q : QE} {σ : Hp} (h : a.length + b.length ≤ 1000) (q : Q (.str (S (a ++ b))) σ) : Bin .Add (.str (S a)) (.str (S b)) Q σ := .cat (by rw [S_length, S_length]; exact szo (by omega)) (by rw [S_app]; exact q)
theorem str_y : (Str.ofString "y" : Str) = S [121] := by decide +kernel
theorem fn_more (TO : TopOk (T04 w s)) {l many : Nat} {us : List V} (hl : σ[l]? = some (.list us)) (hn : us.length ≤ 7) (hm : 7 ≤ many) (hm41 : many ≤ 41) (q : ∀ m junk, (σ ++ junk)[m]? = some (.list (us ++ (yRules (many - us.length)).map ruleV)) → Q (.ref m) (σ ++ junk)) : CallOk (T04 w s) (d + 1) X (.glob "_law_more") [.ref l, .int many] Q σ := by
  refine CallOk.go TO (v := _) rfl ⟨⟨_, _, _, rfl, rfl, rfl, rfl, rfl, rfl, rfl, rfl, rfl, fun vals h => ?_⟩, rfl, rfl, rfl, rfl, rfl⟩ (ps := ["_law_rules", "_law_many"]) rfl rfl ?_
  · obtain ⟨a, b, rfl⟩ := len2 h; rfl
  have e : ((many : Int) - (us.length : Int)).toNat = many - us.length := by omega
  have yl : ∀ n, (yRules n).length = n := fun n => by simp [yRules]
  refine Cal.len (n := us.length) (by simp only [lenV, hl]) (by omega) <| Cal.range ⟨_, fun i acc σ' => i ≤ 41 ∧ acc = (yRules i).map ruleV ∧ σ' = σ, ⟨by omega, rfl, rfl⟩, fun i acc σ' hJ => ⟨rng_iter (by omega) (by omega), ?_⟩, fun acc σ' hJ => ?_, fun i y acc σ' hJ hy => ?_⟩
  · rw [hJ.2.1, List.length_map, yl]; exact szo (by have := hJ.1; clear q; omega)
  · obtain ⟨_, rfl, rfl⟩ := hJ
    rw [List.length_map, List.length_range, e]
    exact Bin.lists (get_up hl) get_new (by rw [List.length_map, yl]; exact szo (by clear q; omega)) (by rw [List.append_assoc]; exact q _ _ (by rw [← List.append_assoc]; exact get_new))
  · obtain ⟨hi41, rfl, rfl⟩ := hJ
    obtain ⟨hi, rfl⟩ := rng_at hy
    rw [e] at hi
    have hk1 := fmod_range (a := (i : Int)) (b := 26) (by decide)
    have hk2 : 0 ≤ (i : Int).fdiv 26 ∧ (i : Int).fdiv 26 < 26 := by rw [Int.fdiv_eq_ediv_of_nonneg _ (by decide)]; (clear q hk1; omega)
    have ek1 : ((i : Int).fmod 26).toNat = i % 26 := by rw [Int.fmod_eq_emod_of_nonneg _ (by decide)]; (clear q; omega)
    have ek2 : ((i : Int).fdiv 26).toNat = i / 26 := by rw [Int.fdiv_eq_ediv_of_nonneg _ (by decide)]; (clear q; omega)
    refine vE_ok TO rfl 40 _ _ _ <| item_letter hk1.1 hk1.2 <| Bin.cat (s := Str.ofString "y") (sz _ rfl) ?_
    rw [str_y, S_app]
    refine item_letter hk2.1 hk2.2 <| cat_S (by simp) ?_
    refine ⟨by clear q; omega, ?_, rfl⟩
    rw [yRules_next, ek1, ek2]

/-- Grammar, where need_rules refuses -/
theorem fn_init_no (TO : TopOk (T04 w s)) {l : Nat} (h : CallOk (T04 w s) (d + 16) X (.glob "need_rules") [.ref l] (fun _ _ => False) (σ ++ [.inst "Grammar" []])) : CallOk (T04 w s) (d + 18) X (.glob "Grammar") [.ref l] Q σ := by
  refine CallOk.make TO rfl rfl rfl rfl <| CodeOk.goM TO (v := _) rfl ⟨⟨_, _, _, rfl, rfl, rfl, rfl, rfl, rfl, rfl, rfl, rfl, fun vals h => ?_⟩, rfl, rfl, rfl, rfl, rfl⟩ (ps := ["self", "rules"]) rfl rfl ?_
  · obtain ⟨a, b, rfl⟩ := len2 h; rfl
  exact Cal.mk <| h.mono (fun _ _ h => h.elim) fun _ _ h => h

theorem fn_refusal (TO : TopOk (T04 w s)) {l : Nat} {Qg : QE} {Xg : QX} (hc : CallOk (T04 w s) (d + 18) Xg (.glob "Grammar") [.ref l] Qg σ)
    (q0 : ∀ v σ', Qg v σ' → ∃ rs bs g, v = .ref g ∧ rs.length ≤ 1000 ∧ GrAt rs bs g σ' ∧ ∀ junk m n, (σ' ++ junk)[m]? = some (.list [.int 0, .ref n]) → (σ' ++ junk)[n]? = some (.list ((rs.map (·.1)).map V.str)) → Q (.ref m) (σ' ++ junk))
    (qx : ∀ c σ', Xg c σ' → ∃ k : Nat, (c = "NoGrammar" ∧ k = 1 ∨ c = "NoRule" ∧ k = 2 ∨ c = "Circling" ∧ k = 3) ∧ ∀ junk m, (σ' ++ junk)[m]? = some (.list [.int k, .bool true]) → Q (.ref m) (σ' ++ junk)) : CallOk (T04 w s) (d + 19) X (.glob "_law_refusal") [.ref l] Q σ := by
  obtain ⟨C, hC⟩ := gr_cls (w := w) (s := s)
  refine CallOk.go TO (v := _) rfl ⟨⟨_, _, _, rfl, rfl, rfl, rfl, rfl, rfl, rfl, rfl, rfl, fun vals h => ?_⟩, rfl, rfl, rfl, rfl, rfl⟩ (ps := ["_law_rules"]) rfl rfl ?_
  · obtain ⟨a, rfl⟩ := len1 h; rfl
  refine Stx.mk <| StOk.try <| vB_ok TO rfl 60 _ _ _ _ <| Cal.mk <| hc.mono (fun v σ' hv => ?_) fun c σ' hx => ?_
  · obtain ⟨rs, bs, g, rfl, hlen, hG, k⟩ := q0 v σ' hv
    have hgr : ∃ gs, σ'[g]? = some (.inst "Grammar" gs) ∧ gs.lookup (Str.ofString "names") = none := by
      have hG' := hG
      obtain ⟨_, _, _, _, _, _, _, _, _, hgr, _⟩ := hG'
      exact ⟨_, hgr, rfl⟩
    obtain ⟨gs, g1, g2⟩ := hgr
    refine MethOk.own g1 g2 hC.cls hC.names <| Cal.mk <| fn_names (d := d + 17) TO hlen hG ?_
    have := k ([MObj.list ((rs.map (·.1)).map V.str)] ++ [MObj.list [.int 0, .ref σ'.length]]) (σ' ++ [MObj.list ((rs.map (·.1)).map V.str)]).length σ'.length (by rw [← List.append_assoc]; exact get_new) (by rw [← List.append_assoc]; exact get_up get_new)
    rw [← List.append_assoc] at this
    exact this
  · obtain ⟨k, hk, kq⟩ := qx c σ' hx
    have fin : ∀ {jk : Hp}, Q (.ref (σ' ++ jk).length) (σ' ++ jk ++ [.list [.int k, .bool true]]) := fun {jk} => by
      rw [List.append_assoc]; exact kq _ _ (by rw [← List.append_assoc]; exact get_new)
    rcases hk with ⟨rfl, rfl⟩ | ⟨rfl, rfl⟩ | ⟨rfl, rfl⟩
    · exact HandOk.hit TO rfl rfl rfl rfl rfl rfl rfl fun ρ => vB_ok TO.at rfl 60 _ _ _ _ <| Cal.mk <| fn_alone0 (d := d + 16) TO.at fun jk ρ' => fin
    · exact HandOk.miss TO rfl rfl rfl rfl rfl rfl <| HandOk.hit TO rfl rfl rfl rfl rfl rfl rfl fun ρ => vB_ok TO.at rfl 60 _ _ _ _ <| Cal.mk <| fn_alone1 (d := d + 16) TO.at fun jk ρ' => fin
    · exact HandOk.miss TO rfl rfl rfl rfl rfl rfl <| HandOk.miss TO rfl rfl rfl rfl rfl rfl <| HandOk.hit TO rfl rfl rfl rfl rfl rfl rfl fun ρ => vB_ok TO.at rfl 60 _ _ _ _ <| Cal.mk <| fn_alone2 (d := d + 16) TO.at fun jk ρ' => fin
end Mine

open PySem PySem.W PyProof.Rows
set_option maxRecDepth 100000
namespace Mine
variable {w : World} {s : Shared} {d : Nat}
set_option maxHeartbeats 4000000

/-- the rules of the law, all made -/
structure Fin4 (f : Nat) (σ : Hp) (gs : List (V × V)) : Prop where
  kd : ∀ g ∈ gs, Kd σ 36 g.1 ∧ Kd σ 36 g.2 ∧ asciiV g.1
  len : gs.length < 100
  odd : f % 2 = 1 → 1 ≤ gs.length → gs.length ≤ 40 → pass1 [] gs = false
  even : f % 2 = 0 → ∃ rs, gs = rs.map emb ∧ FineL (decide (f / 2 % 2 = 1)) (decide (f / 4 % 2 = 1)) rs ∧ 1 ≤ rs.length ∧ rs.length ≤ 40
theorem yRules_kd {σ : Hp} {n : Nat} (h : n ≤ 41) : ∀ g ∈ (yRules n).map emb, Kd σ 36 g.1 ∧ Kd σ 36 g.2 ∧ asciiV g.1 := fun g hg => by
  obtain ⟨r, hr, rfl⟩ := List.mem_map.mp hg
  obtain ⟨k, hk, rfl⟩ := List.mem_map.mp hr
  have hk := List.mem_range.mp hk
  have hn : isName (yName k) = true := by
    have : (List.range 41).all (fun k => isName (yName k)) = true := by decide +kernel
    exact List.all_eq_true.mp this k (by simp; omega)
  exact ⟨.str (isName_ascii hn).2 (sOk_name hn), Kd.le (kd1 (kd_lit (by decide +kernel)) : Kd σ 1 _) (by decide), (isName_ascii hn).1⟩
theorem bits (f : Nat) : (((f : Int).fmod 2 == 1) = decide (f % 2 = 1)) ∧ ((((f : Int).fdiv 2).fmod 2 == 1) = decide (f / 2 % 2 = 1)) ∧ ((((f : Int).fdiv 4).fmod 2 == 1) = decide (f / 4 % 2 = 1)) := by
  refine ⟨?_, ?_, ?_⟩
  · rw [Int.fmod_eq_emod_of_nonneg _ (by decide), Bool.eq_iff_iff]; simp; omega
  · rw [Int.fdiv_eq_ediv_of_nonneg _ (by decide), Int.fmod_eq_emod_of_nonneg _ (by decide), Bool.eq_iff_iff]; simp; omega
  · rw [Int.fdiv_eq_ediv_of_nonneg _ (by decide), Int.fmod_eq_emod_of_nonneg _ (by decide), Bool.eq_iff_iff]; simp; omega
theorem fin_plain {f : Nat} {σ : Hp} {gs : List (V × V)} (h : Out4 (decide (f % 2 = 1)) (decide (f / 2 % 2 = 1)) (decide (f / 4 % 2 = 1)) σ gs) : Fin4 f σ gs :=
  ⟨h.kd, by have := h.len; omega, fun ho _ _ => (h.bad (by simpa using ho)).pass, fun he => by
    obtain ⟨rs, rfl, h1, h2⟩ := h.fine (by simp; omega)
    have := h.l1; have := h.len
    rw [List.length_map] at *
    exact ⟨rs, rfl, h1, by omega, by omega⟩⟩
theorem more_map {gs : List (V × V)} {n : Nat} : gs.map pV ++ (yRules n).map ruleV = (gs ++ (yRules n).map emb).map pV := by
  rw [List.map_append, List.map_map]; rfl
theorem fin_41 {f f' : Nat} {σ : Hp} {gs : List (V × V)} (h : Out4 (decide (f' % 2 = 1)) (decide (f' / 2 % 2 = 1)) (decide (f' / 4 % 2 = 1)) σ gs) (hf : f % 2 = 1) : Fin4 f σ (gs ++ (yRules (41 - gs.length)).map emb) := by
  have hl := h.len
  have h1 := h.l1
  have hy : ((yRules (41 - gs.length)).map emb).length = 41 - gs.length := by simp [yRules]
  refine ⟨fun g hg => (List.mem_append.mp hg).elim (h.kd g) (yRules_kd (by omega) g), by rw [List.length_append, hy]; omega, fun _ _ h40 => ?_, fun he => by omega⟩
  rw [List.length_append, hy] at h40; omega
theorem fin_40 {f : Nat} {σ : Hp} {gs : List (V × V)} (h : Out4 (decide (f % 2 = 1)) (decide (f / 2 % 2 = 1)) (decide (f / 4 % 2 = 1)) σ gs) (hf : f % 2 = 0) : Fin4 f σ (gs ++ (yRules (40 - gs.length)).map emb) := by
  have hl := h.len
  have h1 := h.l1
  have hy : ((yRules (40 - gs.length)).map emb).length = 40 - gs.length := by simp [yRules]
  refine ⟨fun g hg => (List.mem_append.mp hg).elim (h.kd g) (yRules_kd (by omega) g), by rw [List.length_append, hy]; omega, fun ho => by omega, fun _ => ?_⟩
  obtain ⟨rs, rfl, g1, g2⟩ := h.fine (by simp; omega)
  refine ⟨rs ++ yRules (40 - (rs.map emb).length), by rw [List.map_append], g1.more g2 (by omega), ?_, ?_⟩
  · rw [List.length_map] at h1; rw [List.length_append]; omega
  · rw [List.length_map] at hl ⊢; rw [List.length_append]; simp [yRules]; omega

inductive J04x (f : Nat) (ρ' : Loc) (σ' : Hp) : Prop where
  | mk (gs : List (V × V)) (m : Nat) (q0 : Has ρ' [("_law_faults", .int f), ("_law_rules", .ref m)]) (q1 : Fin4 f σ' gs) (q2 : σ'[m]? = some (.list (gs.map pV))) : J04x f ρ' σ'
inductive J04y (k : Nat) (ρ' : Loc) (σ' : Hp) : Prop where
  | mk (gs : List (V × V)) (m hd fo : Nat) (v : V) (q0 : Has ρ' [("_law_rules", .ref m), ("_law_due", .int k), ("_law_handed", .ref hd), ("_law_found", .ref fo)]) (q1 : ∀ g ∈ gs, Kd σ' 36 g.1 ∧ Kd σ' 36 g.2 ∧ asciiV g.1) (q2 : gs.length < 100) (q3 : σ'[m]? = some (.list (gs.map pV))) (q4 : σ'[hd]? = some (.list (gs.map pV))) (q5 : σ'[fo]? = some (.list [.int k, v])) (q6 : 1 ≤ k → v = .bool true)
      (q7 : k = 0 → ∃ (n : Nat) (rs : List (Str × Pt)), v = .ref n ∧ gs = rs.map emb ∧ (∀ r ∈ rs, sOk r.1) ∧ σ'[n]? = some (.list ((rs.map (·.1)).map V.str))) : J04y k ρ' σ'
noncomputable def dueN : Nat → Nat
  | 0 => 0 | 1 => 1 | 2 => 2 | 3 => 1 | 4 => 3 | 5 => 1 | 6 => 2 | _ => 1

theorem due_at : ∀ f, f < 8 → ([0, 1, 2, 1, 3, 1, 2, 1] : List Nat)[f]? = some (dueN f) := by decide
theorem due_odd : ∀ f, f < 8 → f % 2 = 1 → dueN f = 1 := by decide
theorem law04 (TO : TopOk (T04 w s)) (xs : List Int) (hx : xs.length ≤ 63) : CallOk (T04 w s) 690 (fun _ _ => False) (.glob "law") [.scr xs] (fun v _ => v = .bool true) [] := by
  refine CallOk.fn (d := 689) TO (FnV.glob (v := _) rfl ⟨⟨_, _, _, rfl, rfl, rfl, rfl, rfl, rfl, rfl, rfl, rfl, fun vals h => ?_⟩, rfl, rfl, rfl, rfl, rfl⟩) (ps := ["_law_script"]) rfl ?_
  · obtain ⟨a, rfl⟩ := len1 h; rfl
  obtain ⟨f, hf, hf8⟩ := nat_lt (n := 8) (fmod_range (a := xs.getD (0 : Int).toNat 0) (b := 8) (by decide))
  obtain ⟨c, hc, hc5⟩ := nat_lt (n := 5) (fmod_range (a := xs.getD (10 : Int).toNat 0) (b := 5) (by decide))
  have hx62 : xs.length < 2 ^ 62 := by omega
  have cell : ∀ {k : Int} {K : QE} {τ : Hp}, decide (0 ≤ k ∧ k < 2 ^ 62) = true → K (.int (xs.getD k.toNat 0)) τ → Cal (T04 w s) 689 (fun _ _ => False) (.glob "_law_cell_at") [.scr xs, .int k] K τ := fun hk h => ⟨fn_cell_at (d := 688) TO (of_decide_eq_true hk).1 (of_decide_eq_true hk).2 hx62 h⟩
  have by_ : ∀ {g : Nat} {x : Int} {K : QE}, x = g → (∀ gs m junk, Out4 (decide (g % 2 = 1)) (decide (g / 2 % 2 = 1)) (decide (g / 4 % 2 = 1)) ([] ++ junk) gs → ([] ++ junk : Hp)[m]? = some (.list (gs.map pV)) → K (.ref m) ([] ++ junk)) → Cal (T04 w s) 689 (fun _ _ => False) (.glob "_law_rules_by") [.scr xs, .int x] K [] := fun {g x K} e k => by
    subst e
    obtain ⟨b1, b2, b3⟩ := bits g
    exact ⟨fn_rules_by (d := 686) TO hx62 fun gs m junk h1 h2 => k gs m junk (by rw [b1, b2, b3] at h1; exact h1) h2⟩
  have more : ∀ {gs : List (V × V)} {m n : Nat} {τ : Hp} {K : QE}, τ[m]? = some (.list (gs.map pV)) → gs.length ≤ 7 → 7 ≤ n → n ≤ 41 → (∀ m' j', (τ ++ j')[m']? = some (.list ((gs ++ (yRules (n - gs.length)).map emb).map pV)) → K (.ref m') (τ ++ j')) → Cal (T04 w s) 689 (fun _ _ => False) (.glob "_law_more") [.ref m, .int n] K τ := fun {gs m n τ K} hm h7 hn hn41 k => ⟨fn_more (d := 688) TO hm (by rw [List.length_map]; exact h7) hn hn41 fun m' j' h => k m' j' (by rw [← more_map]; rw [List.length_map] at h; exact h)⟩
  refine ExOk.cutAt 3 (J04x f) (vB_ok TO rfl 60 _ _ _ _ ?_) fun ρ₁ σ₁ hJ => ?_
  · have hodd : ((xs.getD (0 : Int).toNat 0).fmod 8).fmod 2 = ((f % 2 : Nat) : Int) := by rw [hf]; exact fmod_nat f 2
    have o1 : f % 2 = 1 → (((xs.getD (0 : Int).toNat 0).fmod 8).fmod 2 == 1) = true ∧ (((xs.getD (0 : Int).toNat 0).fmod 8).fmod 2 == 0) = false := fun h => by rw [hodd, h]; exact ⟨rfl, rfl⟩
    have o0 : f % 2 = 0 → (((xs.getD (0 : Int).toNat 0).fmod 8).fmod 2 == 1) = false ∧ (((xs.getD (0 : Int).toNat 0).fmod 8).fmod 2 == 0) = true := fun h => by rw [hodd, h]; exact ⟨rfl, rfl⟩
    have fin : ∀ {ρ : Loc} {τ : Hp} {gs : List (V × V)} {m : Nat}, Has ρ [("_law_faults", .int ((xs.getD (0 : Int).toNat 0).fmod 8)), ("_law_rules", .ref m)] → Fin4 f τ gs → τ[m]? = some (.list (gs.map pV)) → J04x f ρ τ := fun h1 h2 h3 => ⟨_, _, by rw [hf] at h1; exact h1, h2, h3⟩
    refine cell rfl <| cell rfl ?_
    by_cases h2 : f % 2 = 1
    · obtain ⟨a1, a2⟩ := o1 h2
      refine Br.t a1 <| Br.mk (fun hc1 => fin (gs := []) ⟨rfl, rfl, trivial⟩ ⟨by simp, by simp, fun _ h => by simp at h, fun he => by omega⟩ get_new) fun hc1 => Br.f rfl <| Br.t a1 <| Br.mk (fun hc2 => ?_) fun hc2 => Br.f rfl <| Br.f a2 <| ?_
      · refine by_ (g := f - 1) (by rw [hf]; omega) fun gs m junk h1 h2' => more (n := 41) h2' h1.len (by decide) (by decide) fun m' j' hm' => fin ⟨rfl, rfl, trivial⟩ (fin_41 h1.up h2) hm'
      · exact by_ (g := f) hf fun gs m junk h1 h2' => fin ⟨rfl, rfl, trivial⟩ (fin_plain h1) h2'
    · have h2 : f % 2 = 0 := by omega
      obtain ⟨a1, a2⟩ := o0 h2
      refine Br.f a1 <| Br.f rfl <| Br.f a1 <| Br.f rfl <| Br.t a2 <| Br.mk (fun hc3 => ?_) fun hc3 => ?_
      · exact by_ (g := f) hf fun gs m junk h1 h2' => more (n := 40) h2' h1.len (by decide) (by decide) fun m' j' hm' => fin ⟨rfl, rfl, trivial⟩ (fin_40 h1.up h2) hm'
      · exact by_ (g := f) hf fun gs m junk h1 h2' => fin ⟨rfl, rfl, trivial⟩ (fin_plain h1) h2'
  obtain ⟨gs, m, hρ, hF, hm⟩ := hJ
  obtain ⟨ρ₀, rfl⟩ := hρ.use
  have hlen := hF.len
  -- what is due, and the answer
  refine ExOk.cutAt 3 (J04y (dueN f)) (vB_ok TO rfl 60 _ _ _ _ ?_) fun ρ₂ σ₂ hJ => vB_ok TO rfl 60 _ _ _ _ ?_
  · refine Itm.mk <| item_at (j := f) (v := .int (dueN f)) get_new rfl ?_ (by simp) ?_
    · show (([0, 1, 2, 1, 3, 1, 2, 1] : List Nat).map fun n : Nat => V.int n)[f]? = _
      rw [List.getElem?_map, due_at f hf8]; rfl
    have hm2 : (σ₁ ++ [MObj.list [V.int 0, V.int 1, V.int 2, V.int 1, V.int 3, V.int 1, V.int 2, V.int 1]])[m]? = some (.list (gs.map pV)) := get_up hm
    have hk2 : ∀ g ∈ gs, Kd (σ₁ ++ [MObj.list [V.int 0, V.int 1, V.int 2, V.int 1, V.int 3, V.int 1, V.int 2, V.int 1]]) 36 g.1 ∧ Kd (σ₁ ++ [MObj.list [V.int 0, V.int 1, V.int 2, V.int 1, V.int 3, V.int 1, V.int 2, V.int 1]]) 36 g.2 ∧ asciiV g.1 := fun g hg => by
      obtain ⟨a, b, c⟩ := hF.kd g hg
      exact ⟨a.up, b.up, c⟩
    generalize σ₁ ++ [MObj.list [V.int 0, V.int 1, V.int 2, V.int 1, V.int 3, V.int 1, V.int 2, V.int 1]] = σ₂ at hm2 hk2
    refine Cal.list (vs := gs.map pV) (by simp only [seqV, hm2]) (by rw [List.length_map]; exact szo (by omega)) ?_
    have hh : (σ₂ ++ [.list (gs.map pV)])[σ₂.length]? = some (.list (gs.map pV)) := get_new
    have hm3 : (σ₂ ++ [.list (gs.map pV)])[m]? = some (.list (gs.map pV)) := get_up hm2
    have hk3 : ∀ {jk : Hp}, ∀ g ∈ gs, Kd (σ₂ ++ [.list (gs.map pV)] ++ jk) 36 g.1 ∧ Kd (σ₂ ++ [.list (gs.map pV)] ++ jk) 36 g.2 ∧ asciiV g.1 := fun g hg => by
      obtain ⟨a, b, c⟩ := hk2 g hg
      exact ⟨a.up.up, b.up.up, c⟩
    generalize σ₂.length = hd at hh
    generalize (σ₂ ++ [.list (gs.map pV)]) = σ₃ at hh hm3 hk3
    clear hm2 hk2
    have odd : f % 2 = 1 → dueN f = 1 := fun h => by
      exact due_odd f hf8 h
    by_cases h2 : f % 2 = 1
    · rw [odd h2]
      refine Cal.mk <| fn_refusal (d := 670) TO (Qg := fun _ _ => False) (Xg := fun c σ' => c = "NoGrammar" ∧ ∃ junk, σ' = σ₃ ++ junk) (fn_init_no TO (fn_need_bad TO (get_up hh) (fun g hg => ⟨(hk3 g hg).1.le (by decide), (hk3 g hg).2.1.le (by decide), (hk3 (jk := []) g hg).2.2⟩) (by omega) (hF.odd h2) fun junk => ⟨rfl, _, by rw [List.append_assoc]⟩)) (fun _ _ h => h.elim) fun c σ' h => ⟨1, .inl ⟨h.1, rfl⟩, fun j fo hfo => ?_⟩
      obtain ⟨_, junk, rfl⟩ := h
      rw [List.append_assoc] at hfo ⊢
      exact ⟨gs, m, hd, fo, _, ⟨rfl, rfl, rfl, rfl, trivial⟩, hk3, hlen, get_up hm3, get_up hh, hfo, fun _ => rfl, fun h => by cases h⟩
    obtain ⟨rs, rfl, hFL, l1, l40⟩ := hF.even (by omega)
    have e : (rs.map emb).map pV = rs.map ruleV := by rw [List.map_map]; rfl
    have hh' := hh
    rw [e] at hh'
    have key : ∀ {b1 b2 : Bool}, FineL b1 b2 rs → (b1 = true → dueN f = 2) → (b1 = false → b2 = true → dueN f = 3) → (b1 = false → b2 = false → dueN f = 0) → CallOk (T04 w s) 689 (fun _ _ => False) (.glob "_law_refusal") [.ref hd] (fun v σ' => ∃ fo jk u, v = .ref fo ∧ σ' = σ₃ ++ jk ∧ σ'[fo]? = some (.list [.int (dueN f), u]) ∧ (1 ≤ dueN f → u = .bool true) ∧ (dueN f = 0 → ∃ n, u = .ref n ∧ σ'[n]? = some (.list ((rs.map (·.1)).map V.str)))) σ₃ := fun {b1 b2} hFL d2 d3 d0 => by
      cases b1 with
      | true =>
        rw [d2 rfl]
        refine fn_refusal (d := 670) TO (Qg := fun _ _ => False) (Xg := fun c σ' => c = "NoRule" ∧ ∃ junk, σ' = σ₃ ++ junk) (fn_init_no TO (fn_need_fine TO (get_up hh') l1 l40 hFL.nodup hFL.all (fun h => by
          obtain ⟨r, hr, n, h1, h2⟩ := hFL.far rfl
          exact absurd (h r hr n h1) h2) fun _ junk => ⟨rfl, _, by rw [List.append_assoc]⟩)) (fun _ _ h => h.elim) fun c σ' h => ⟨2, .inr (.inl ⟨h.1, rfl⟩), fun j fo hfo => ?_⟩
        obtain ⟨_, junk, rfl⟩ := h
        rw [List.append_assoc] at hfo ⊢
        exact ⟨fo, _, _, rfl, rfl, hfo, fun _ => rfl, fun h => by cases h⟩
      | false =>
        have hg := hFL.good l1 l40
        cases b2 with
        | true =>
          rw [d3 rfl rfl]
          refine fn_refusal (d := 670) TO (Qg := fun _ _ => False) (Xg := fun c σ' => c = "Circling" ∧ ∃ junk, σ' = σ₃ ++ junk) (fn_init TO hh' hg (fun bs junk _ hno _ => by
            obtain ⟨r, hr, h⟩ := hFL.ring rfl
            exact hno r hr (.one ⟨r, hr, rfl, h _⟩)) fun bs junk _ _ => ⟨rfl, _, rfl⟩) (fun _ _ h => h.elim) fun c σ' h => ⟨3, .inr (.inr ⟨h.1, rfl⟩), fun j fo hfo => ?_⟩
          obtain ⟨_, junk, rfl⟩ := h
          rw [List.append_assoc] at hfo ⊢
          exact ⟨fo, _, _, rfl, rfl, hfo, fun _ => rfl, fun h => by cases h⟩
        | false =>
          rw [d0 rfl rfl]
          refine fn_refusal (d := 670) TO (Qg := fun v σ' => ∃ bs junk, v = .ref σ₃.length ∧ GrAt rs bs σ₃.length σ' ∧ σ' = σ₃ ++ junk) (Xg := fun _ _ => False) (fn_init TO hh' hg (fun bs junk _ _ hG => ⟨bs, junk, rfl, hG, rfl⟩) fun bs junk _ hex => by
            obtain ⟨r, hr, h⟩ := hex
            exact hFL.lone h) (fun v σ' h => ?_) fun _ _ h => h.elim
          obtain ⟨bs, junk, rfl, hG, rfl⟩ := h
          refine ⟨rs, bs, _, rfl, by omega, hG, fun j fo n hfo hn => ?_⟩
          rw [List.append_assoc] at hfo hn ⊢
          exact ⟨fo, _, _, rfl, rfl, hfo, fun h => by omega, fun _ => ⟨n, rfl, hn⟩⟩
    refine Cal.mk <| (key hFL ?_ ?_ ?_).mono (fun v σ' h => ?_) fun _ _ h => h
    · intro h
      have h := of_decide_eq_true h
      have e : f = 2 ∨ f = 6 := by clear hh hh' hm3 hlen hm; omega
      rcases e with rfl | rfl <;> rfl
    · intro h h'
      have h := of_decide_eq_false h
      have h' := of_decide_eq_true h'
      have e : f = 4 := by clear hh hh' hm3 hlen hm; omega
      subst e; rfl
    · intro h h'
      have h := of_decide_eq_false h
      have h' := of_decide_eq_false h'
      have e : f = 0 := by clear hh hh' hm3 hlen hm; omega
      subst e; rfl
    · obtain ⟨fo, jk, u, rfl, rfl, g1, g2, g3⟩ := h
      exact ⟨rs.map emb, m, hd, fo, u, ⟨rfl, rfl, rfl, rfl, trivial⟩, hk3, hlen, get_up hm3, get_up hh, g1, g2, fun h => let ⟨n, e1, e2⟩ := g3 h; ⟨n, rs, e1, rfl, fun r hr => sOk_name (hFL.all r hr).name, e2⟩⟩
  · obtain ⟨gs, m, hd, fo, v, hρ, hk, hl, hm, hh, hfo, h1, h0⟩ := hJ
    obtain ⟨ρ₁, rfl⟩ := hρ.use
    have same : ∀ {K : QE}, K (.bool false) σ₂ → Cmp .NotEq (.ref hd) (.ref m) K σ₂ := fun {K} k => by
      obtain ⟨ds, h1, h2⟩ := deeps_of (σ := σ₂) (n := 37) (vs := gs.map pV) fun v hv => by
        obtain ⟨g, hg, rfl⟩ := List.mem_map.mp hv
        obtain ⟨a, b, _⟩ := hk g hg
        exact (kd2 a b).deep
      have d1 : Deep σ₂ (.list ds) (.ref hd) := by unfold Deep; exact ⟨_, _, rfl, hh, h1⟩
      have d2 : Deep σ₂ (.list ds) (.ref m) := by unfold Deep; exact ⟨_, _, rfl, hm, h1⟩
      refine Cmp.mk ⟨.list ds, .list ds, d1, d2, by unfold PyData.depth; omega, ?_⟩
      rw [PySem.SeqAt.eqv_refl _ d1.lay]; exact k
    refine same <| Itm.list hfo rfl rfl ⟨by decide, by decide⟩ <| Br.f (by simp) ?_
    cases hdu : dueN f with
    | succ k => 
      rw [hdu] at hfo h1
      exact Br.t (decide_eq_true (by omega)) <| Itm.list hfo rfl rfl ⟨by decide, by decide⟩ (h1 (by omega))
    | zero =>
      rw [hdu] at hfo
      obtain ⟨n, rs, rfl, rfl, hs, hn⟩ := h0 hdu
      refine Itm.list hfo rfl rfl ⟨by decide, by decide⟩ <| Cal.isi (b := true) (by simp only [isiV, kindName, hn]; rfl) <| Itm.list hfo rfl rfl ⟨by decide, by decide⟩ <| CompOk.mk ((rs.map emb).map pV) (fun i acc σ' => acc = ((rs.take i).map (·.1)).map V.str ∧ σ' = σ₂) ⟨by simp, rfl⟩ (fun i acc σ' hJ => ?_) (fun acc σ' hJ => ?_) fun i y acc σ' hJ hy => ?_
      · obtain ⟨rfl, rfl⟩ := hJ
        rw [List.length_map] at hl
        exact ⟨by simp only [iterV, hm], by simp only [List.length_map, List.length_take]; exact szo (by omega)⟩
      · obtain ⟨rfl, rfl⟩ := hJ
        rw [List.length_map, List.length_map, List.take_length]
        have hsr : ∀ x ∈ rs.map (·.1), sOk x := fun x hx => by
          obtain ⟨r, hr, rfl⟩ := List.mem_map.mp hx
          exact hs r hr
        have d1 : Deep (σ' ++ [.list ((rs.map (·.1)).map V.str)]) (.list ((rs.map (·.1)).map PyData.str)) (.ref n) := by unfold Deep; exact ⟨_, _, rfl, get_up hn, strs_deep _ _ hsr⟩
        have d2 : Deep (σ' ++ [.list ((rs.map (·.1)).map V.str)]) (.list ((rs.map (·.1)).map PyData.str)) (.ref σ'.length) := by unfold Deep; exact ⟨_, _, rfl, get_new, strs_deep _ _ hsr⟩
        refine Cmp.mk ⟨_, _, d1, d2, by unfold PyData.depth; have := strs_depth (rs.map (·.1)); omega, ?_⟩
        rw [PySem.SeqAt.eqv_refl _ d1.lay]; rfl
      · obtain ⟨rfl, rfl⟩ := hJ
        rw [List.map_map] at hy
        obtain ⟨r, hr, rfl⟩ := map_at hy
        exact vE_ok TO rfl 40 _ _ _ ⟨by rw [take_next hr]; simp [emb], rfl⟩
end Mine
end

open PySem PySem.W PyProof.Rows in
set_option maxRecDepth 100000 in
set_option maxHeartbeats 8000000 in
theorem PySem.Challenge.cw_uf010010_04_holds : PySem.Challenge.rw_uf010010_04.Holds := by
  refine Mine.hd04 ?_
  intro w s₀ s₁ mg mb G Y fa o pm cd doc dV kV ho hd hcd hD hmg hg args vals as hpre hlay hrd hwl hlo
  have KX := kIn_of Y
  refine Ground.open G ?_
  intro T B D TE TW
  have TR := topRead_of T
  clear hd hcd hD
  wrow_args hpre hlay hrd hwl hlo
  rename_i xs _ _ _ _ _ _ _ la vs _ hL _ _ _ hI _ hn _
  obtain ⟨l, hl, hxs⟩ := Mine.ints_pairs hI
  obtain ⟨ol, h1, h2, n, h3⟩ := hL
  exact Mine.finish (fun _ => rfl) (by wrow_post) (Mine.start TR KX hg ⟨56, _, rfl, by decide⟩ hmg (by rfl) h1 h2 h3 (by simpa using hl) hxs (Mine.law04 (Mine.topOk_of TR KX) xs (by omega)))
