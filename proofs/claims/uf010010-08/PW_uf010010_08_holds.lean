import PyProof.Rows.All
import Wide.All
import OpenK.AllK
import Wide.FinOn
import PySem.Challenge.RW_uf010010_08
section
open PySem.W.S
name_quick tw17325292765534557485 for modZ by modZ_eq
name_quick tw10567224546818110817 for modZ by modZ_eq
name_quick tw1795505472913327344 for modZ by modZ_eq
name_quick tw11849438417250647359 for modZ by modZ_eq
name_quick tw6517600110777973031 for modZ by modZ_eq
name_quick tw2055287473759858204 for modZ by modZ_eq
name_quick tw11454317045618653078 for modZ by modZ_eq
name_quick tw1811144303294348408 for modZ by modZ_eq
name_quick tw10504106379747680154 for modZ by modZ_eq
name_quick tw8020376607669711764 for modZ by modZ_eq
name_quick tw7781327351135315354 for modZ by modZ_eq
name_quick tw9444958586605551123 for modZ by modZ_eq
name_quick tw12038847392169129578 for modZ by modZ_eq
name_quick tw14850590190329933345 for modZ by modZ_eq
name_quick tw5901723576815345066 for modZ by modZ_eq
name_quick tw8160900021867401238 for modZ by modZ_eq
name_quick tw16000167651832806338 for modZ by modZ_eq
name_quick tw13999126135978202802 for modZ by modZ_eq
name_quick tw9248376833351894591 for modZ by modZ_eq
name_quick tw6041356517076903751 for modZ by modZ_eq
name_quick tw16509604998596328480 for modZ by modZ_eq
name_quick tw18359897088229654358 for modZ by modZ_eq
name_quick tw5111691697537448010 for modZ by modZ_eq
name_quick tw17362760234954739158 for modZ by modZ_eq
name_quick tw697956177211949917 for modZ by modZ_eq
name_quick tw10551624270411848197 for modZ by modZ_eq
name_quick tw14338224393920945847 for modZ by modZ_eq
name_quick tw11469564389715863281 for modZ by modZ_eq
name_quick tw6515595978185721709 for modZ by modZ_eq
name_quick tw1532396991005655777 for modZ by modZ_eq
name_quick tw7681464168471368026 for modZ by modZ_eq
name_quick tw9855571539507376618 for modZ by modZ_eq
name_quick tw3315468604451472769 for modZ by modZ_eq
name_quick tw15201544586157498787 for modZ by modZ_eq
name_quick tw2353755433368602458 for modZ by modZ_eq
name_quick tw15011494125117138643 for modZ by modZ_eq
name_quick tw3549750978301443113 for modZ by modZ_eq
name_quick tw17992680811124593691 for modZ by modZ_eq
name_quick tw9727252333578986001 for modZ by modZ_eq
name_quick tw13994431695507411343 for modZ by modZ_eq
name_quick tw14273242293843694656 for modZ by modZ_eq
name_quick tw2489520204416955737 for modZ by modZ_eq
name_quick tw7817342797768704132 for modZ by modZ_eq
name_quick tw3390488903137966360 for modZ by modZ_eq
name_quick tw5670779939077426755 for modZ by modZ_eq
name_quick tw6531253913011338861 for modZ by modZ_eq
name_quick tw6800299527176063795 for modZ by modZ_eq
name_quick tw10945304152006133901 for modZ by modZ_eq
name_quick tw16102577747089414864 for modZ by modZ_eq
name_quick tw7308723047763148633 for modZ by modZ_eq
name_quick tw3655052051458345812 for modZ by modZ_eq
name_quick tw8178712991550249816 for modZ by modZ_eq
name_quick tw11386687643879461379 for modZ by modZ_eq
name_quick tw16420880034169182171 for modZ by modZ_eq
name_quick tw7898505018321061573 for modZ by modZ_eq
name_quick tw2237759279560873948 for modZ by modZ_eq
name_quick tw4978883989359992999 for modZ by modZ_eq
name_quick tw8834792039538523949 for modZ by modZ_eq
name_quick tw16586904129153205429 for modZ by modZ_eq
name_quick tw10612444237095465595 for modZ by modZ_eq
name_quick tw7478573502481574883 for modZ by modZ_eq
name_quick tw15758797956425416417 for modZ by modZ_eq
name_quick tw196998907521374928 for modZ by modZ_eq
name_quick tw627583521426819905 for modZ by modZ_eq
name_quick tw14007656901268979766 for modZ by modZ_eq
name_quick tw8794215198597241165 for modZ by modZ_eq
name_quick tw10402087924537977591 for modZ by modZ_eq
name_quick tw8273565224306560051 for modZ by modZ_eq
name_quick tw8798487725583553383 for modZ by modZ_eq
name_quick tw6079661768258198677 for modZ by modZ_eq
name_quick tw17592674101153685953 for modZ by modZ_eq
name_quick tw1932107293934051335 for modZ by modZ_eq
name_quick tw4171535454142574932 for modZ by modZ_eq
name_quick tw16743485623746190645 for modZ by modZ_eq
name_quick tw11085948038563297118 for modZ by modZ_eq
name_quick tw14551128922492946493 for modZ by modZ_eq
name_quick tw3324737392942833780 for modZ by modZ_eq
name_quick tw1251626659433586252 for modZ by modZ_eq
name_quick tw15944024317557052291 for modZ by modZ_eq
name_quick tw12742980993931646305 for modZ by modZ_eq
name_quick tw12007287677781707504 for modZ by modZ_eq
name_quick tw13972087543883734065 for modZ by modZ_eq
name_quick tw17564724457065750744 for modZ by modZ_eq
name_quick tw5228650280288027533 for modZ by modZ_eq
name_quick tw13259008235307040665 for modZ by modZ_eq
name_quick tw13642449657097400868 for modZ by modZ_eq
name_quick tw1200939730438895064 for modZ by modZ_eq
name_quick tw4785720472539769784 for modZ by modZ_eq
name_quick tw14573626203328213943 for modZ by modZ_eq
name_quick tw8119768091211511238 for modZ by modZ_eq
name_quick tw2343106379172731810 for modZ by modZ_eq
name_quick tw9076668189743587259 for modZ by modZ_eq
name_quick tw11592354678982677900 for modZ by modZ_eq
name_quick tw10128663456793347408 for modZ by modZ_eq
name_quick tw3175741020451947050 for modZ by modZ_eq
name_quick tw17926872780643731302 for modZ by modZ_eq
name_quick tw18372117791932425533 for modZ by modZ_eq
name_quick tw69262510591167303 for modZ by modZ_eq
name_quick tw14565348041621928876 for modZ by modZ_eq
name_quick tw919006379728570699 for modZ by modZ_eq
name_quick tw12295338528382620724 for modZ by modZ_eq
name_quick tw9677260642792568375 for modZ by modZ_eq
name_quick tw14440764890331168136 for modZ by modZ_eq
name_quick tw4524424105213038312 for modZ by modZ_eq
name_quick tw121271064040617167 for modZ by modZ_eq
name_quick tw11373071154286510471 for modZ by modZ_eq
name_quick tw11266943978749703031 for modZ by modZ_eq
name_quick tw14084232237210203479 for modZ by modZ_eq
name_quick tw15184685350410729098 for modZ by modZ_eq
name_quick tw9810317042592816271 for modZ by modZ_eq
name_quick tw11956815221927200572 for modZ by modZ_eq
name_quick tw12618792597770504232 for modZ by modZ_eq
name_quick tw5523494126483334226 for modZ by modZ_eq
name_quick tw1473151404175548915 for modZ by modZ_eq
name_quick tw15292175722516023932 for modZ by modZ_eq
name_quick tw5722900058635558530 for modZ by modZ_eq
name_quick tw15087574305888942632 for modZ by modZ_eq
name_quick tw13671224904760141134 for modZ by modZ_eq
name_quick tw2486210833946972109 for modZ by modZ_eq
name_quick tw13194901858465762278 for modZ by modZ_eq
name_quick tw10478569700967205580 for modZ by modZ_eq
name_quick tw13211943642325397398 for modZ by modZ_eq
name_quick tw17660595293318731638 for modZ by modZ_eq
name_quick tw14129430187782334897 for modZ by modZ_eq
name_quick tw13208349612240162077 for modZ by modZ_eq
name_quick tw14318499651209079324 for modZ by modZ_eq
name_quick tw11453554820180837777 for modZ by modZ_eq
name_quick tw6772123836409640140 for modZ by modZ_eq
name_quick tw1321758285670680090 for modZ by modZ_eq
name_quick tw18102551367233567293 for modZ by modZ_eq
name_quick tw957524458736630533 for modZ by modZ_eq
name_quick tw15058781915755135355 for modZ by modZ_eq
name_quick tw10130461576797379899 for modZ by modZ_eq
name_quick tw3892898980004328158 for modZ by modZ_eq
name_quick tw2703658757401375899 for modZ by modZ_eq
name_quick tw16780052214919668275 for modZ by modZ_eq
name_quick tw12808556649506961170 for modZ by modZ_eq
name_quick tw12305637087810451629 for modZ by modZ_eq
name_quick tw17832739815319805442 for modZ by modZ_eq
name_quick tw3210574021582153001 for modZ by modZ_eq
name_quick tw4090238037106540197 for modZ by modZ_eq
name_quick tw16667126569392056285 for modZ by modZ_eq
name_quick tw932678266180660811 for modZ by modZ_eq
name_quick tw7662995093705028929 for modZ by modZ_eq
name_quick tw183926604852322823 for modZ by modZ_eq
name_quick tw14367075999736257996 for modZ by modZ_eq
name_quick tw9788251818253090233 for modZ by modZ_eq
name_quick tw17678597858667479131 for modZ by modZ_eq
name_quick tw242591848589560538 for modZ by modZ_eq
name_quick tw18094901470526339094 for modZ by modZ_eq
name_quick tw16249750105141018052 for modZ by modZ_eq
name_quick tw13867096810819914580 for modZ by modZ_eq
name_quick tw18104175947338712699 for modZ by modZ_eq
name_quick tw16912050959454247923 for modZ by modZ_eq
name_quick tw939313572541870049 for modZ by modZ_eq
name_quick tw15247032817177424653 for modZ by modZ_eq
name_quick tw2066169703208821132 for modZ by modZ_eq
name_quick tw10270566227636982000 for modZ by modZ_eq
name_quick tw15423670150041767998 for modZ by modZ_eq
name_quick tw3600127886967907148 for modZ by modZ_eq
name_quick tw13530517634169088540 for modZ by modZ_eq
name_quick tw678211528622376458 for modZ by modZ_eq
name_quick tw9700579152262756086 for modZ by modZ_eq
name_quick tw8960991181228272994 for modZ by modZ_eq
name_quick tw14199001657582661333 for modZ by modZ_eq
name_quick tw16631278909469491673 for modZ by modZ_eq
name_quick tw3139185290186134367 for modZ by modZ_eq
name_quick tw1679422383162357063 for modZ by modZ_eq
name_quick tw4844973508390361311 for modZ by modZ_eq
name_quick tw4332684827347207789 for modZ by modZ_eq
name_quick tw18431684598594003004 for modZ by modZ_eq
name_quick tw10692833773855962877 for modZ by modZ_eq
name_quick tw7607768629456786993 for modZ by modZ_eq
name_quick tw17534061773575933092 for modZ by modZ_eq
name_quick tw7033355757679038567 for modZ by modZ_eq
name_quick tw17997885075121614112 for modZ by modZ_eq
name_quick tw8542966373729105881 for modZ by modZ_eq
name_quick tw6858046994013477928 for modZ by modZ_eq
name_quick tw11667301008555789432 for modZ by modZ_eq
name_quick tw3524267745508459132 for modZ by modZ_eq
name_quick tw10375186111244125922 for modZ by modZ_eq
name_quick tw3733184487530326345 for modZ by modZ_eq
name_quick tw10445343398236481644 for modZ by modZ_eq
name_quick tw3072750453231953192 for modZ by modZ_eq
name_quick tw15294219920501600478 for modZ by modZ_eq
name_quick tw637173868934852753 for modZ by modZ_eq
name_quick tw15387900715000639269 for modZ by modZ_eq
name_quick tw10889174746940427419 for modZ by modZ_eq
name_quick tw15499573572913963572 for modZ by modZ_eq
name_quick tw17094061530556338868 for modZ by modZ_eq
name_quick tw10370400411208223681 for modZ by modZ_eq
name_quick tw7821765291132150714 for modZ by modZ_eq
name_quick tw4690662716111578388 for modZ by modZ_eq
name_quick tw3241985250506275684 for modZ by modZ_eq
name_quick tw18082791813109667906 for modZ by modZ_eq
name_quick tw12193954318442745013 for modZ by modZ_eq
name_quick tw12416755746183670062 for modZ by modZ_eq
name_quick tw13742929661779267840 for modZ by modZ_eq
name_quick tw10314199460231058169 for modZ by modZ_eq
name_quick tw16280675049128742058 for modZ by modZ_eq
name_quick tw10259365331751678659 for modZ by modZ_eq
name_quick tw6365565355979625996 for modZ by modZ_eq
name_quick tw10862487349080282147 for modZ by modZ_eq
name_quick tw7435375175679030541 for modZ by modZ_eq
name_quick tw777456300267551559 for modZ by modZ_eq
name_quick tw6257510720659437421 for modZ by modZ_eq
name_quick tw9180144682174980077 for modZ by modZ_eq
name_quick tw3483433976169534290 for modZ by modZ_eq
name_quick tw9988429347733796798 for modZ by modZ_eq
name_quick tw8096232549819518270 for modZ by modZ_eq
name_quick tw1782355692098767300 for modZ by modZ_eq
name_quick tw9153427893731113108 for modZ by modZ_eq
name_quick tw5695866073163627451 for modZ by modZ_eq
name_quick tw4498265094293182798 for modZ by modZ_eq
name_quick tw14648602118162880530 for modZ by modZ_eq
name_quick tw15701464117984448187 for modZ by modZ_eq
name_quick tw6337592936431535416 for modZ by modZ_eq
name_quick tw11104684270262662367 for modZ by modZ_eq
name_quick tw4907194852492455581 for modZ by modZ_eq
name_quick tw2507214210844530590 for modZ by modZ_eq
name_quick tw1113864996321379786 for modZ by modZ_eq
name_quick tw9066218009213095106 for modZ by modZ_eq
name_quick tw8153366064816753100 for modZ by modZ_eq
name_quick tw6835787891750179128 for modZ by modZ_eq
name_quick tw2423819005524397761 for modZ by modZ_eq
name_quick tw1915853999882610772 for modZ by modZ_eq
name_quick tw2159781618959878533 for modZ by modZ_eq
name_quick tw9902588466397883260 for modZ by modZ_eq
name_quick tw7346942308937019713 for modZ by modZ_eq
name_quick tw6032545389945537901 for modZ by modZ_eq
name_quick tw4096934627006678968 for modZ by modZ_eq
name_quick tw11130288930371536790 for modZ by modZ_eq
name_quick tw13020248794821384148 for modZ by modZ_eq
name_quick tw9927551408007440782 for modZ by modZ_eq
name_quick tw5403496604666623067 for modZ by modZ_eq
name_quick tw5724012557580140398 for modZ by modZ_eq
name_quick tw5119888953047116091 for modZ by modZ_eq
name_quick tw16242423690589745277 for modZ by modZ_eq
name_quick tw11928492527911732076 for modZ by modZ_eq
name_quick tw15623172876487501665 for modZ by modZ_eq
name_quick tw11775975495200650237 for modZ by modZ_eq
name_quick tw17398975877115144495 for modZ by modZ_eq
name_quick tw8013678253227356864 for modZ by modZ_eq
name_quick tw12124827071819201339 for modZ by modZ_eq
name_quick tw11945457169673596930 for modZ by modZ_eq
name_quick tw9524581172861129366 for modZ by modZ_eq
name_quick tw4594722363701211535 for modZ by modZ_eq
name_quick tw1295177340724373022 for modZ by modZ_eq
name_quick tw12677455486593222587 for modZ by modZ_eq
name_quick tw10038638152344498109 for modZ by modZ_eq
name_quick tw9471058924388573921 for modZ by modZ_eq
name_quick tw16632386359071662929 for modZ by modZ_eq
name_quick tw14944073272279551578 for modZ by modZ_eq
name_quick tw8561507087618036172 for modZ by modZ_eq
name_quick tw7588062031887279621 for modZ by modZ_eq
name_quick tw374454668510417983 for modZ by modZ_eq
name_quick tw17636286914605292317 for modZ by modZ_eq
name_quick tw16089904257331155476 for modZ by modZ_eq
name_quick tw16939615296452169386 for modZ by modZ_eq
name_quick tw8465895573599911672 for modZ by modZ_eq
name_quick tw14332780588267559692 for modZ by modZ_eq
name_quick tw12789513910234443844 for modZ by modZ_eq
name_quick tw1156704187846313239 for modZ by modZ_eq
name_quick tw16113889189588021716 for modZ by modZ_eq
name_quick tw15904291552939823167 for modZ by modZ_eq
name_quick tw5598509769320335614 for modZ by modZ_eq
name_quick tw554997868667203756 for modZ by modZ_eq
name_quick tw13982738826998099276 for modZ by modZ_eq
name_quick tw898382801418933523 for modZ by modZ_eq
name_quick tw791529931210849232 for modZ by modZ_eq
name_quick tw4449747419681743236 for modZ by modZ_eq
name_quick tw4925653679101827925 for modZ by modZ_eq
name_quick tw3207883224320351483 for modZ by modZ_eq
name_quick tw8838529892868421425 for modZ by modZ_eq
name_quick tw13247690807564313890 for modZ by modZ_eq
name_quick tw748525615830464912 for modZ by modZ_eq
name_quick tw6684994320059292422 for modZ by modZ_eq
name_quick tw4001970083280425388 for modZ by modZ_eq
name_quick tw18007687282964190398 for modZ by modZ_eq
name_quick tw16722092388502738081 for modZ by modZ_eq
name_quick tw16172215657187863712 for modZ by modZ_eq
name_quick tw13766095303835767456 for modZ by modZ_eq
name_quick tw15775010449047608115 for modZ by modZ_eq
name_quick tw12564030226174255767 for modZ by modZ_eq
name_quick tw15071882926484064262 for modZ by modZ_eq
name_quick tw5155335348704711477 for modZ by modZ_eq
name_quick tw9373904205170729246 for modZ by modZ_eq
name_quick tw2693569887283975719 for modZ by modZ_eq
name_quick tw15243077526796617829 for modZ by modZ_eq
name_quick tw1900005640007161851 for modZ by modZ_eq
name_quick tw12416023859110588981 for modZ by modZ_eq
name_quick tw5882096196721428180 for modZ by modZ_eq
name_quick tw4879959322181866313 for modZ by modZ_eq
name_quick tw14762435857287439397 for modZ by modZ_eq
name_quick tw12366034312715014867 for modZ by modZ_eq
name_quick tw12328726543298551070 for modZ by modZ_eq
name_quick tw11143162985230489234 for modZ by modZ_eq
name_quick tw1109417651705434805 for modZ by modZ_eq
name_quick tw2182331210264494590 for modZ by modZ_eq
name_quick tw7428486297537813412 for modZ by modZ_eq
name_quick tw14726878911753321452 for modZ by modZ_eq
name_quick tw11314030267536038170 for modZ by modZ_eq
name_quick tw10875891945774622195 for modZ by modZ_eq
name_quick tw331357122379557356 for modZ by modZ_eq
name_quick tw1224241931990301595 for modZ by modZ_eq
name_quick tw9591638890389784509 for modZ by modZ_eq
name_quick tw13514268544291479159 for modZ by modZ_eq
end
set_option Elab.async false
set_option tactic.hygienic false
set_option linter.unusedVariables false
set_option maxRecDepth 100000
set_option maxHeartbeats 8000000
namespace Mine
open PySem PySem.W PyProof.Rows
open_top hd08 for PySem.Challenge.rw_uf010010_08
end Mine
namespace Mine
open PySem PySem.Calls PyProof.Rows PySem.SeqAt
theorem Za:type_of% @Nat.le_trans:=@Nat.le_trans
theorem Zb:type_of% @List.getElem?_eq_some_iff:=@List.getElem?_eq_some_iff
theorem Zc:type_of% @List.length_map:=@List.length_map
theorem Zd:type_of% @List.mem_cons_of_mem:=@List.mem_cons_of_mem
theorem Ze:type_of% @List.append_assoc:=@List.append_assoc
theorem Zf:type_of% @List.length_append:=@List.length_append
theorem Zg:type_of% @List.mem_cons:=@List.mem_cons
theorem Zh:type_of% @Exists.elim:=@Exists.elim
theorem Zi:type_of% @List.getElem?_set_ne:=@List.getElem?_set_ne
theorem Zj:type_of% @List.mem_singleton:=@List.mem_singleton
theorem Zk:type_of% @Nat.lt_of_le_of_lt:=@Nat.lt_of_le_of_lt
theorem Zl:type_of% @Nat.le_refl:=@Nat.le_refl
theorem Zm:type_of% @List.mem_append:=@List.mem_append
theorem Zn:type_of% @List.mem_of_getElem?:=@List.mem_of_getElem?
theorem Zo:type_of% @Nat.not_lt:=@Nat.not_lt
theorem Zp:type_of% @List.getElem?_eq_getElem:=@List.getElem?_eq_getElem
theorem Zq:type_of% @Nat.le_of_lt:=@Nat.le_of_lt
theorem Zr:type_of% @Nat.le_of_eq:=@Nat.le_of_eq
theorem Zs:type_of% @Nat.lt_succ_self:=@Nat.lt_succ_self
theorem Zt:type_of% @List.mem_cons_self:=@List.mem_cons_self
theorem Zu:type_of% @Heap.lt_size:=@Heap.lt_size
theorem Zv:type_of% @Bool.false_ne_true:=@Bool.false_ne_true
theorem Zw:type_of% @List.getElem?_set_self:=@List.getElem?_set_self
theorem Zx:type_of% @Heap.get?_push_of_some:=@Heap.get?_push_of_some
theorem Zy:type_of% @Nat.le_add_right:=@Nat.le_add_right
theorem Zz:type_of% @Nat.lt_of_lt_of_le:=@Nat.lt_of_lt_of_le
theorem Zab:type_of% @Option.some.inj:=@Option.some.inj
theorem Zbb:type_of% @List.getElem?_append_left:=@List.getElem?_append_left
theorem Zcb:type_of% @Nat.add_le_add:=@Nat.add_le_add
theorem Zdb:type_of% @List.getElem?_map:=@List.getElem?_map
theorem Zeb:type_of% @Nat.le_succ_of_le:=@Nat.le_succ_of_le
theorem Zfb:type_of% @Int.ofNat_lt:=@Int.ofNat_lt
theorem Zgb:type_of% @of_decide_eq_true:=@of_decide_eq_true
theorem Zhb:type_of% @wpAny_bind:=@wpAny_bind
theorem Zib:type_of% @wpAny_mono:=@wpAny_mono
theorem Zjb:type_of% @wpAny_pure:=@wpAny_pure
theorem Zkb:type_of% @Nat.zero_le:=@Nat.zero_le
theorem Zmb:type_of% @decide_eq_true:=@decide_eq_true
theorem Znb:type_of% @Nat.mul_le_mul_left:=@Nat.mul_le_mul_left
theorem Zob:type_of% @Bool.and_eq_true:=@Bool.and_eq_true
theorem Zpb:type_of% @Option.map_eq_some_iff:=@Option.map_eq_some_iff
theorem Zqb:type_of% @Heap.size_push:=@Heap.size_push
theorem Zrb:type_of% @List.getElem?_eq_none:=@List.getElem?_eq_none
theorem Zsb:type_of% @List.mem_map:=@List.mem_map
theorem Ztb:type_of% @Nat.le_add_left:=@Nat.le_add_left
theorem Zub:type_of% @Nat.lt_irrefl:=@Nat.lt_irrefl
set_option genSizeOf false
section
inductive V where
 | none
 | bool (b:Bool)
 | int (i:Int)
 | str (s:Str)
 | tup (vs:List V)
 | ref (l:Nat)
 | glob (x:Str)
 | mth (c x:Str)
 | type (n:String)
 | bi (id:String)
 | rng (n:Int)
 | exc (c:Str)
 | scr (xs:List Int)
 | rev (l n:Nat)
inductive MObj where
 | list (vs:List V)
 | sdict (kvs:List (Str × V))
 | tdict (kvs:List ((Str × Int) × V))
 | inst (c:Str) (fs:List (Str × V))
theorem ex2 {α:Sort _} {β:Sort _} {p:α → β → Prop} {P:Prop} (h:∃ a b,p a b) (k:∀ a b,p a b → P):P:=by
 obtain ⟨a,b,h⟩:=h
 exact k _ _ h
theorem ex3 {α:Sort _} {β:Sort _} {γ:Sort _} {p:α → β → γ → Prop} {P:Prop} (h:∃ a b c,p a b c) (k:∀ a b c,p a b c → P):P:=by
 obtain ⟨a,b,c,h⟩:=h
 exact k _ _ _ h
theorem ex4 {α:Sort _} {β:Sort _} {γ:Sort _} {δ:Sort _} {p:α → β → γ → δ → Prop} {P:Prop} (h:∃ a b c d,p a b c d) (k:∀ a b c d,p a b c d → P):P:=by
 obtain ⟨a,b,c,d,h⟩:=h
 exact k _ _ _ _ h
theorem ex7 {α:Sort _} {β:Sort _} {γ:Sort _} {δ:Sort _} {ε:Sort _} {ζ:Sort _} {η:Sort _} {p:α → β → γ → δ → ε → ζ → η → Prop} {P:Prop} (h:∃ a b c d e f g,p a b c d e f g) (k:∀ a b c d e f g,p a b c d e f g → P):P:=by
 obtain ⟨a,b,c,d,e,f,g,h⟩:=h
 exact k _ _ _ _ _ _ _ h
theorem and3 {a1 a2 a3 P:Prop} (h:a1 ∧ a2 ∧ a3) (k:a1 → a2 → a3 → P):P:=by
 obtain ⟨h0,h1,h2⟩:=h
 exact k h0 h1 h2
theorem and4 {a1 a2 a3 a4 P:Prop} (h:a1 ∧ a2 ∧ a3 ∧ a4) (k:a1 → a2 → a3 → a4 → P):P:=by
 obtain ⟨h0,h1,h2,h3⟩:=h
 exact k h0 h1 h2 h3
theorem and5 {a1 a2 a3 a4 a5 P:Prop} (h:a1 ∧ a2 ∧ a3 ∧ a4 ∧ a5) (k:a1 → a2 → a3 → a4 → a5 → P):P:=by
 obtain ⟨h0,h1,h2,h3,h4⟩:=h
 exact k h0 h1 h2 h3 h4
theorem and6 {a1 a2 a3 a4 a5 a6 P:Prop} (h:a1 ∧ a2 ∧ a3 ∧ a4 ∧ a5 ∧ a6) (k:a1 → a2 → a3 → a4 → a5 → a6 → P):P:=by
 obtain ⟨h0,h1,h2,h3,h4,h5⟩:=h
 exact k h0 h1 h2 h3 h4 h5
theorem and7 {a1 a2 a3 a4 a5 a6 a7 P:Prop} (h:a1 ∧ a2 ∧ a3 ∧ a4 ∧ a5 ∧ a6 ∧ a7) (k:a1 → a2 → a3 → a4 → a5 → a6 → a7 → P):P:=by
 obtain ⟨h0,h1,h2,h3,h4,h5,h6⟩:=h
 exact k h0 h1 h2 h3 h4 h5 h6
theorem and11 {a1 a2 a3 a4 a5 a6 a7 a8 a9 a10 a11 P:Prop} (h:a1 ∧ a2 ∧ a3 ∧ a4 ∧ a5 ∧ a6 ∧ a7 ∧ a8 ∧ a9 ∧ a10 ∧ a11) (k:a1 → a2 → a3 → a4 → a5 → a6 → a7 → a8 → a9 → a10 → a11 → P):P:=by
 obtain ⟨h0,h1,h2,h3,h4,h5,h6,h7,h8,h9,h10⟩:=h
 exact k h0 h1 h2 h3 h4 h5 h6 h7 h8 h9 h10
inductive All2 {α β:Type} (R:α → β → Prop):List α → List β → Prop where
 | nil:All2 R [] []
 | cons {a:α} {b:β} {as:List α} {bs:List β} (h:R a b) (t:All2 R as bs):All2 R (a :: as) (b :: bs)
section
variable {α β:Type} {R R':α → β → Prop} {as cs:List α} {bs ds:List β}
theorem All2.imp (k:∀ a b,R a b → R' a b) (h:All2 R as bs):All2 R' as bs:=h.rec .nil fun h zz ih => .cons (k _ _ h) ih
theorem All2.length (h:All2 R as bs):bs.length = as.length:=h.rec rfl fun zz zz ih => congrArg Nat.succ ih
theorem All2.append (h:All2 R as bs) (g:All2 R cs ds):All2 R (as ++ cs) (bs ++ ds):=h.rec g fun h zz ih => .cons h ih
theorem All2.get (h:All2 R as bs):∀ (i:Nat) (v:α),as[i]? = some v → ∃ x,bs[i]? = some x ∧ R v x:=h.rec (fun zz zz e => (by cases e)) fun h zz ih i => i.rec (fun v e => ⟨_,rfl,Zab e ▸ h⟩) fun i zz => ih i
theorem All2.take (h:All2 R as bs):∀ n:Nat,All2 R (as.take n) (bs.take n):=h.rec (fun n => n.rec .nil fun zz zz => .nil) fun h zz ih n => n.rec .nil fun n zz => .cons h (ih n)
theorem All2.drop (h:All2 R as bs):∀ n:Nat,All2 R (as.drop n) (bs.drop n):=h.rec (fun n => n.rec .nil fun zz zz => .nil) fun h t ih n => n.rec (.cons h t) fun n zz => ih n
end
theorem no_some {α:Type} {a:α} (h:(none:Option α) = some a):False:=(by cases h)
noncomputable def atL {α:Type} (f:List V → Option α):Option MObj → Option α
 | some (.list vs) => f vs
 | z1 => none
theorem atL_out {α:Type} {f:List V → Option α} {o:Option MObj} {x:α} (h:atL f o = some x):∃ vs,o = some (.list vs) ∧ f vs = some x:=by
 rcases o with zz | o
 · exact (no_some h).elim
 · cases o <;> first | exact ⟨_,rfl,h⟩ | exact (no_some h).elim
theorem atL_of {α:Type} {f:List V → Option α} {o:Option MObj} {vs:List V} (h:o = some (.list vs)):atL f o = f vs:=h ▸ rfl
theorem ite_some {α:Type} {c:Prop} [Decidable c] {a x:α} (h:(if c then some a else none) = some x):c ∧ a = x:=by
 by_cases q:c
 · rw [if_pos q] at h; exact ⟨q,Zab h⟩
 · rw [if_neg q] at h; exact (no_some h).elim
theorem sm_inj {α:Type} {a b:α} (h:some a = some b):a = b:=Zab h
noncomputable abbrev Hp:=List MObj
noncomputable abbrev Inj:=List (Addr × Addr)
noncomputable def own (ι:Inj):List Addr:=ι.flatMap fun p => [p.1,p.2]
theorem mem_own {ι:Inj} {a:Addr}:a ∈ own ι ↔ ∃ p ∈ ι,a = p.1 ∨ a = p.2:=by
 simp [own]
theorem own_append (ι κ:Inj):own (ι ++ κ) = own ι ++ own κ:=by simp [own]
structure Tp where
 prog:Program
 w:World
 b0:Heap
 os:OsState
 K:PySem.W.Frag
 gv:Str → Option V
 hd:Bool
noncomputable def Tp.g (T:Tp) (x:Str):Option Value:=(PySem.W.nsIn T.K mainGlobals x).join
noncomputable def refO:Option Value → Option Addr
 | some (.ref a) => some a
 | z1 => none
theorem refO_out {o:Option Value} {a:Addr} (h:refO o = some a):o = some (.ref a):=by
 rcases o with zz | o
 · exact (no_some h).elim
 · cases o <;> first | exact (no_some h).elim | exact congrArg (some <| Value.ref ·) (sm_inj h)
noncomputable def Tp.c (T:Tp) (x:Str):Option Addr:=refO (T.g x)
noncomputable def Tp.m (T:Tp) (c x:Str):Option Value:=(T.c c).bind fun C => (PySem.W.findIn T.K (.ref C) x).join
noncomputable def frozen (o:Obj):Bool:=o.cls == .type "tuple" || o.cls == .type "range"
noncomputable def itTypes:List String:=["list_iterator", "tuple_iterator", "range_iterator", "longrange_iterator", "str_iterator", "str_ascii_iterator", "dict_keyiterator", "list_reverseiterator"]
noncomputable def iterish (o:Obj):Bool:=itTypes.any fun n => o.cls == .type n
theorem iterish_out {o:Obj} (h:iterish o = true):∃ n ∈ itTypes,o.cls = .type n:=(List.any_eq_true.mp h).elim fun n h => ⟨n,h.1,beq_iff_eq.mp h.2⟩
theorem iterish_of {o:Obj} {n:String} (h:o.cls = .type n) (m:n ∈ itTypes):iterish o = true:=List.any_eq_true.mpr ⟨n,m,beq_iff_eq.mpr h⟩
theorem iterish_no {o:Obj} {n:String} (h:o.cls = .type n) (m:n ∉ itTypes):iterish o = false:=Bool.eq_false_iff.mpr fun q => (iterish_out q).elim fun k g => m (Value.type.inj (h.symm.trans g.2) ▸ g.1)
noncomputable def loose (o:Obj):Bool:=match o.cls with
 | .type n => n != "frame"
 | z1 => false
theorem loose_ref {o:Obj} {C:Addr} (h:o.cls = .ref C):loose o = false:=by simp [loose,h]
theorem loose_eq {o o':Obj} (h:o'.cls = o.cls):loose o' = loose o:=by simp [loose,h]
theorem iterish_loose {o:Obj} (h:iterish o = true):loose o = true:=(iterish_out h).elim fun n g => by
 unfold loose; rw [g.2]; exact (by decide:∀ n ∈ itTypes,(n != "frame") = true) n g.1
noncomputable def itr (o:Obj):Bool:=o.cls.ctorIdx != Value.ctorIdx (.type "") || iterish o
theorem iterish_ref {o:Obj} {C:Addr} (h:o.cls = .ref C):iterish o = false:=Bool.eq_false_iff.mpr fun q => (iterish_out q).elim fun k g => nomatch h.symm.trans g.2
theorem iterish_eq {o o':Obj} (h:o'.cls = o.cls):iterish o' = iterish o:=by unfold iterish; rw [h]
theorem itr_eq {o o':Obj} (h:o'.cls = o.cls):itr o' = itr o:=by unfold itr; rw [iterish_eq h,h]
theorem itr_iterish {o:Obj} (h:itr o = false):iterish o = false:=(Bool.or_eq_false_iff.mp h).2
theorem itr_ref {o:Obj} {C:Addr} (h:itr o = false) (c:o.cls = .ref C):False:=by
 unfold itr at h; rw [c] at h; cases h
theorem itr_no {o:Obj} {n:String} (h:o.cls = .type n) (m:n ∉ itTypes):itr o = false:=by unfold itr; rw [iterish_no h m,h]; rfl
mutual
noncomputable def VRel (T:Tp) (ι:Inj) (h:Heap):V → Value → Prop
 | .none,v => v = .none
 | .bool b,v => v = .bool b
 | .int i,v => ∃ t,v = .int i t
 | .str s,v => ∃ t,v = .str s t
 | .tup vs,v => ∃ a items n,v = .ref a ∧ IsT h a items n ∧ VRels T ι h vs items.toList
 | .ref l,v => ∃ a d,v = .ref a ∧ ι[l]? = some (a,d)
 | .glob x,v => T.g x = some v
 | .mth c x,v => T.m c x = some v
 | .type n,v => v = .type n
 | .bi id,v => v = .builtin id
 | .rng n,v => ∃ a t1 t2 t3,v = .ref a ∧ IsRange h a 0 n 1 t1 t2 t3
 | .exc c,v => ∃ a o C,v = .ref a ∧ h.get? a = some o ∧ T.c c = some C ∧ o.cls = .ref C
 | .scr xs,v => ∃ a o items n,v = .ref a ∧ T.b0.get? a = some o ∧ o.cls = .type "list" ∧ o.data = .seq items n ∧ ∃ l:List (Int × Tok),items.toList = l.map (fun p => Value.int p.1 p.2) ∧ l.map (·.1) = xs
 | .rev z1 z2,z3 => False
noncomputable def VRels (T:Tp) (ι:Inj) (h:Heap):List V → List Value → Prop
 | [],[] => True
 | v :: vs,x :: xs => VRel T ι h v x ∧ VRels T ι h vs xs
 | [],z1 :: z2 => False
 | z1 :: z2,[] => False
end
inductive OptR {α β:Type} (R:α → β → Prop):Option α → Option β → Prop where
 | none:OptR R none none
 | some {a:α} {b:β} (h:R a b):OptR R (some a) (some b)
theorem OptR.imp {α β:Type} {R R':α → β → Prop} (k:∀ a b,R a b → R' a b) {x:Option α} {y:Option β} (h:OptR R x y):OptR R' x y:=h.rec .none fun h => .some (k _ _ h)
theorem OptR.isSome {α β:Type} {R:α → β → Prop} {x:Option α} {y:Option β} (h:OptR R x y):y.isSome = x.isSome:=h.rec rfl fun zz => rfl
noncomputable abbrev ORelV (T:Tp) (ι:Inj) (h:Heap):Option V → Option Value → Prop:=OptR (VRel T ι h)
inductive KRel {α β γ:Type} (R:β → γ → Prop):List (α × β) → List (α × γ) → Prop where
 | nil:KRel R [] []
 | cons {k:α} {v:β} {x:γ} {r:List (α × β)} {q:List (α × γ)} (h:R v x) (t:KRel R r q):KRel R ((k,v) :: r) ((k,x) :: q)
section
variable {α β γ:Type} {R R':β → γ → Prop} {a:List (α × β)} {b:List (α × γ)}
theorem KRel.imp (k:∀ a b,R a b → R' a b) (h:KRel R a b):KRel R' a b:=h.rec .nil fun h zz ih => .cons (k _ _ h) ih
theorem KRel.length (h:KRel R a b):b.length = a.length:=h.rec rfl fun zz zz ih => congrArg Nat.succ ih
theorem KRel.push {k:α} {v:β} {x:γ} (h:KRel R a b) (r:R v x):KRel R (a ++ [(k,v)]) (b ++ [(k,x)]):=h.rec (.cons r .nil) fun h zz ih => .cons h ih
variable [DecidableEq α] {k:α}
theorem KRel.find (h:KRel R a b):OptR R ((a.find? fun kv => decide (kv.1 = k)).map (·.2)) ((b.find? fun kv => decide (kv.1 = k)).map (·.2)):=by
 induction h with
 | nil => exact .none
 | @cons k' z1 z2 z3 z4 h z5 ih =>
   by_cases e:k' = k
   · rw [List.find?_cons,List.find?_cons,Zmb e]; exact .some h
   · rw [List.find?_cons,List.find?_cons,decide_eq_false e]; exact ih
theorem KRel.any (h:KRel R a b):(b.any fun kv => decide (kv.1 = k)) = a.any fun kv => decide (kv.1 = k):=h.rec rfl fun zz zz ih => congrArg (_ || ·) ih
theorem KRel.put {v:β} {x:γ} {f:α × γ → α × γ} (hf:∀ p,f p = if p.1 = k then (p.1,x) else p) (h:KRel R a b) (r:R v x):KRel R (a.map fun kv => if kv.1 = k then (kv.1,v) else kv) (b.map f):=by
 induction h with
 | nil => exact .nil
 | @cons k' z1 z2 z3 z4 h z5 ih =>
   rw [List.map_cons,List.map_cons,hf]
   by_cases e:k' = k
   · rw [if_pos e,if_pos e]; exact .cons r ih
   · rw [if_neg e,if_neg e]; exact .cons h ih
end
theorem find_some {α β:Type} [DecidableEq α] {a:List (α × β)} {k:α}:((a.find? fun kv => decide (kv.1 = k)).map (·.2)).isSome = a.any fun kv => decide (kv.1 = k):=by
 rw [Option.isSome_map,Bool.eq_iff_iff,List.find?_isSome,List.any_eq_true]
structure Mono (ι:Inj) (h:Heap) (ι':Inj) (h':Heap):Prop where
 pre:∃ κ,ι' = ι ++ κ
 cls:∀ a o,h.get? a = some o → loose o = false → ∃ o',h'.get? a = some o' ∧ o'.cls = o.cls
 frz:∀ a o,h.get? a = some o → frozen o = true → h'.get? a = some o
theorem Mono.get {ι ι':Inj} {h h':Heap} (x:Mono ι h ι' h') {l:Nat} {p:Addr × Addr} (e:ι[l]? = some p):ι'[l]? = some p:=by
 obtain ⟨κ,rfl⟩:=x.pre
 rw [Zbb]
 · exact e
 · exact (Zb.mp e).1
theorem VRels.all {T:Tp} {ι:Inj} {h:Heap} {vs:List V}:∀ {xs:List Value},VRels T ι h vs xs → All2 (VRel T ι h) vs xs:=by
 induction vs with
 | nil => intro xs e; cases xs; exact .nil; exact (show False from e).elim
 | cons v vs ih => intro xs e; cases xs; exact (show False from e).elim; exact .cons e.1 (ih e.2)
theorem All2.vrels {T:Tp} {ι:Inj} {h:Heap} {vs:List V} {xs:List Value} (e:All2 (VRel T ι h) vs xs):VRels T ι h vs xs:=e.rec trivial fun h zz ih => ⟨h,ih⟩
theorem VRel.mono {T:Tp} {ι ι':Inj} {h h':Heap} (m:Mono ι h ι' h') {v:V}:∀ {x:Value},VRel T ι h v x → VRel T ι' h' v x :=
 V.rec (motive_1:=fun v => ∀ {x},VRel T ι h v x → VRel T ι' h' v x) (motive_2:=fun vs => ∀ {xs},VRels T ι h vs xs → VRels T ι' h' vs xs)
   (fun e => e) (fun zz {_} e => e) (fun zz {_} e => e) (fun zz {_} e => e) (fun zz ih {_} e => ex3 e fun a items n e => ⟨a,items,n,e.1,m.frz a _ e.2.1 (by simp [frozen]),ih e.2.2⟩) (fun zz {_} e => ex2 e fun a d e => ⟨a,d,e.1,m.get e.2⟩) (fun zz {_} e => e) (fun zz zz {_} e => e) (fun zz {_} e => e) (fun zz {_} e => e)
   (fun zz {_} e => ex4 e fun a t1 t2 t3 e => ⟨a,t1,t2,t3,e.1,m.frz a _ e.2 (by simp [frozen])⟩) (fun zz {_} e => ex3 e fun a o C e => (m.cls a o e.2.1 (loose_ref e.2.2.2)).elim fun o' q => ⟨a,o',C,e.1,q.1,e.2.2.1,q.2.trans e.2.2.2⟩) (fun zz {_} e => e) (fun zz zz {_} e => e)
   (fun {xs} e => by cases xs; exact e; exact (show False from e).elim) (fun v vs i1 i2 {xs} e => by cases xs; exact (show False from e).elim; exact ⟨i1 e.1,i2 e.2⟩) v
theorem VRels.mono {T:Tp} {ι ι':Inj} {h h':Heap} (m:Mono ι h ι' h') {vs:List V} {xs:List Value} (e:VRels T ι h vs xs):VRels T ι' h' vs xs:=(e.all.imp fun zz zz r => r.mono m).vrels
theorem ORelV.mono {T:Tp} {ι ι':Inj} {h h':Heap} (m:Mono ι h ι' h') {v:Option V} {x:Option Value} (r:ORelV T ι h v x):ORelV T ι' h' v x:=r.imp fun zz zz r => r.mono m
theorem VRels.length {T:Tp} {ι:Inj} {h:Heap} {vs:List V} {xs:List Value} (e:VRels T ι h vs xs):xs.length = vs.length:=e.all.length
theorem VRels.nil_iff {T:Tp} {ι:Inj} {h:Heap} {xs:List Value}:VRels T ι h [] xs ↔ xs = []:=by
 cases xs
 · exact ⟨fun zz => rfl,fun zz => trivial⟩
 · exact ⟨fun h => (show False from h).elim,fun h => (by cases h)⟩
theorem VRels.cons_iff {T:Tp} {ι:Inj} {h:Heap} {v:V} {vs:List V} {xs:List Value}:VRels T ι h (v :: vs) xs ↔ ∃ x r,xs = x :: r ∧ VRel T ι h v x ∧ VRels T ι h vs r:=by
 cases xs with
 | nil => exact ⟨fun h => (show False from h).elim,fun h => ex2 h fun zz zz h => (by cases h.1)⟩
 | cons x r => exact ⟨fun h => ⟨x,r,rfl,h.1,h.2⟩,fun h => ex2 h fun x' r' h => ⟨(List.cons.inj h.1).1 ▸ h.2.1,(List.cons.inj h.1).2 ▸ h.2.2⟩⟩
theorem VRels.append {T:Tp} {ι:Inj} {h:Heap} {vs us:List V} {xs ys:List Value} (d:VRels T ι h vs xs) (e:VRels T ι h us ys):VRels T ι h (vs ++ us) (xs ++ ys):=(d.all.append e.all).vrels
theorem VRels.get {T:Tp} {ι:Inj} {h:Heap} {vs:List V} {xs:List Value} {i:Nat} {v:V} (d:VRels T ι h vs xs) (e:vs[i]? = some v):∃ x,xs[i]? = some x ∧ VRel T ι h v x:=d.all.get i v e
structure Ext (T:Tp) (F:List Addr) (ι:Inj) (h:Heap) (ι':Inj) (h':Heap):Prop where
 pre:∃ κ,ι' = ι ++ κ ∧ ∀ p ∈ κ,h.objs.size ≤ p.1 ∧ h.objs.size ≤ p.2
 size:h.objs.size ≤ h'.objs.size
 cls:∀ a o,h.get? a = some o → loose o = false → ∃ o',h'.get? a = some o' ∧ o'.cls = o.cls
 frz:∀ a o,h.get? a = some o → frozen o = true → h'.get? a = some o
 keep:∀ a o,h.get? a = some o → a ∉ own ι → a ∉ F → o.cls ≠ .type "frame" → h'.get? a = some o
 frm:∀ a o,h.get? a = some o → a ∉ own ι → a ∉ F → ∃ sl,h'.get? a = some { o with slots:=sl }
theorem Ext.refl (T:Tp) (F:List Addr) (ι:Inj) (h:Heap):Ext T F ι h ι h :=
 ⟨⟨[],by simp,by simp⟩,Zl _,fun zz o e zz => ⟨o,e,rfl⟩,fun zz zz e zz => e,fun zz zz e zz zz zz => e,fun zz o e zz zz => ⟨o.slots,e⟩⟩
theorem Ext.mono {T:Tp} {F:List Addr} {ι ι':Inj} {h h':Heap} (x:Ext T F ι h ι' h'):Mono ι h ι' h' :=
 ⟨(by obtain ⟨κ,e,_⟩:=x.pre; exact ⟨κ,e⟩),x.cls,x.frz⟩
theorem Ext.not_own {T:Tp} {F:List Addr} {ι ι':Inj} {h h':Heap} (x:Ext T F ι h ι' h') {a:Addr} (hn:a ∉ own ι) (hl:a < h.objs.size):a ∉ own ι':=by
 obtain ⟨κ,rfl,hk⟩:=x.pre
 rw [own_append,Zm,not_or]
 refine ⟨hn,fun hm => ?_⟩
 obtain ⟨p,hp,e⟩:=mem_own.mp hm
 have:=hk p hp
 rcases e with rfl | rfl
 · exact absurd this.1 (Nat.not_le.mpr hl)
 · exact absurd this.2 (Nat.not_le.mpr hl)
theorem Ext.trans {T:Tp} {F:List Addr} {ι ι₁ ι₂:Inj} {h h₁ h₂:Heap} (x:Ext T F ι h ι₁ h₁) (y:Ext T F ι₁ h₁ ι₂ h₂):Ext T F ι h ι₂ h₂:=by
 refine ⟨?_,Za x.size y.size,fun a o e i => ?_,fun a o e f => y.frz a o (x.frz a o e f) f,fun a o e n f c => ?_,fun a o e n f => ?_⟩
 · obtain ⟨κ,rfl,hk⟩:=x.pre
   obtain ⟨κ',rfl,hk'⟩:=y.pre
   refine ⟨κ ++ κ',by simp,fun p hp => ?_⟩
   rcases Zm.mp hp with hp | hp
   · exact hk p hp
   · exact ⟨Za x.size (hk' p hp).1,Za x.size (hk' p hp).2⟩
 · obtain ⟨o₁,e₁,c₁⟩:=x.cls a o e i
   obtain ⟨o₂,e₂,c₂⟩:=y.cls a o₁ e₁ ((loose_eq c₁).trans i)
   exact ⟨o₂,e₂,c₂.trans c₁⟩
 · exact y.keep a o (x.keep a o e n f c) (x.not_own n (Zu e)) f c
 · obtain ⟨sl,e₁⟩:=x.frm a o e n f
   obtain ⟨sl',e₂⟩:=y.frm a _ e₁ (x.not_own n (Zu e)) f
   exact ⟨sl',e₂⟩
theorem Ext.weaken {T:Tp} {F G:List Addr} {ι ι':Inj} {h h':Heap} (x:Ext T F ι h ι' h') (hFG:∀ a ∈ F,a < h.objs.size → a ∈ G):Ext T G ι h ι' h' :=
 ⟨x.pre,x.size,x.cls,x.frz,fun a o e n f c => x.keep a o e n (fun q => f (hFG a q (Zu e))) c,fun a o e n f => x.frm a o e n (fun q => f (hFG a q (Zu e)))⟩
theorem Ext.push (T:Tp) (F:List Addr) (ι:Inj) (h:Heap) (o:Obj):Ext T F ι h ι (h.push o) :=
 ⟨⟨[],by simp,by simp⟩,by rw [Zqb]; exact Zq (Zs h.objs.size),fun zz o e zz => ⟨o,Zx _ e,rfl⟩,fun zz zz e zz => Zx _ e,fun zz zz e zz zz zz => Zx _ e,
   fun zz o e zz zz => ⟨o.slots,Zx _ e⟩⟩
theorem Ext.of_keeps {T:Tp} {F:List Addr} {ι:Inj} {h h':Heap} (hs:h.objs.size ≤ h'.objs.size) (k:∀ b o,h.get? b = some o → h'.get? b = some o):Ext T F ι h ι h' :=
 ⟨⟨[],by simp,by simp⟩,hs,fun zz o e zz => ⟨o,k _ _ e,rfl⟩,fun zz zz e zz => k _ _ e,fun zz zz e zz zz zz => k _ _ e,fun zz o e zz zz => ⟨o.slots,k _ _ e⟩⟩
theorem Ext.of_sameBut {T:Tp} {F:List Addr} {ι:Inj} {h h':Heap} {a:Addr} {o o':Obj} (hs:Heap.SameBut a h h') (ho:h.get? a = some o) (ho':h'.get? a = some o') (hc:o'.cls = o.cls)
   (hf:frozen o = false) (hin:a ∈ own ι ∨ a ∈ F):Ext T F ι h ι h':=by
 refine ⟨⟨[],by simp,by simp⟩,Zr hs.1.symm,fun b x e zz => ?_,fun b x e f => ?_,fun b x e n f zz => ?_,fun b x e n f => ⟨x.slots,?_⟩⟩
 · by_cases q:b = a
   · subst q; rw [ho] at e; cases e; exact ⟨o',ho',hc⟩
   · exact ⟨x,(hs.2 b q).trans e,rfl⟩
 · by_cases q:b = a
   · subst q; rw [ho] at e; cases e; rw [hf] at f; cases f
   · exact (hs.2 b q).trans e
 · by_cases q:b = a
   · subst q; rcases hin with q | q
     · exact absurd q n
     · exact absurd q f
   · exact (hs.2 b q).trans e
 · by_cases q:b = a
   · subst q; rcases hin with q | q
     · exact absurd q n
     · exact absurd q f
   · exact (hs.2 b q).trans e
end
section
section
variable {prog:Program} {w:World} {A:Around} {E:Value → Shared → Prop} {s:Shared}
noncomputable def IsPair (h:Heap) (k:Str × Int) (a:Addr):Prop:=∃ o t u n,h.get? a = some o ∧ o.cls = .type "tuple" ∧ o.data = .seq #[.str k.1 t,.int k.2 u] n
theorem IsPair.typeIs {k:Str × Int} {a:Addr} (x:IsPair s.heap k a):s.TypeIs (.ref a) "tuple":=(by obtain ⟨o,_,_,_,ho,hc,_⟩:=x; exact ⟨o,ho,hc⟩)
theorem IsPair.inj {h:Heap} {a:Addr} {x y:Str × Int} (hx:IsPair h x a) (hy:IsPair h y a):x = y:=by
 obtain ⟨o,t,u,n,ho,zz,hd⟩:=hx
 obtain ⟨o',t',u',n',ho',zz,hd'⟩:=hy
 obtain rfl:o = o':=Zab (ho.symm.trans ho')
 rw [hd] at hd'
 injection hd' with h1 _
 simp only [Array.mk.injEq,List.cons.injEq,Value.str.injEq,Value.int.injEq] at h1
 exact Prod.ext h1.1.1 h1.2.1.1
theorem IsPair.keeps {h h':Heap} {k:Str × Int} {a d:Addr} {o:Obj} {es ep} (x:IsPair h k a) (ho:h.get? d = some o) (hd:o.data = .dict es ep) (hs:Heap.SameBut d h h'):IsPair h' k a:=by
 obtain ⟨o',t,u,n,ho',hc,hd'⟩:=x
 have hne:a ≠ d:=by
   rintro rfl
   obtain rfl:o' = o:=Zab (ho'.symm.trans ho)
   rw [hd] at hd'; exact (by cases hd')
 exact ⟨o',t,u,n,(hs.2 a hne).trans ho',hc,hd'⟩
noncomputable def stepQ {β:Type} (Y D:β → Shared → Prop) (r:ForInStep β) (s:Shared):Prop:=match r with
 | .done b => D b s
 | .yield b => Y b s
theorem forIn_two {M:Model} {α β:Type} {x y:α} {b:β} {f:α → β → Sem (ForInStep β)} {Q:β → Shared → Prop} (h:wpAny M A (f x b) (stepQ (fun b s => wpAny M A (f y b) (stepQ Q Q) E s) Q) E s):wpAny M A (forIn [x,y] b f) Q E s:=by
 rw [List.forIn_cons]
 refine Zhb (Zib h (fun r s₁ p => ?_) fun zz zz p => p)
 cases r
 · exact Zjb p
 · show wpAny M A (forIn [y] _ f) Q E s₁
   rw [List.forIn_cons]
   refine Zhb (Zib p (fun r s₂ p => ?_) fun zz zz p => p)
   cases r
   · exact Zjb p
   · show wpAny M A (forIn [] _ f) Q E s₂
     rw [List.forIn_nil]; exact Zjb p
noncomputable def pairHash (w:World) (k:Str × Int):Int:=reduceHash (Builtin.Tuple.tupleHashOf [hashStr w k.1,hashInt k.2])
theorem IsPair.pyHash {k:Str × Int} {a:Addr} {Q:Int → Shared → Prop} (hu:A.units < cLine) (hk:IsPair s.heap k a) (h:Q (pairHash w k) { s with toks:=s.toks + 3 }):wpAny (model prog w) A (PySem.pyHash (.ref a)) Q E s:=by
 have hT:=hk.typeIs
 obtain ⟨o,t,u,n,ho,zz,hd⟩:=hk
 unfold PySem.pyHash
 first | unfold pyHashByItsType | skip
 first | refine Zhb (wpAny_cRoomFor_or (.inr hu) ?_) | skip
 refine Zhb (wpAny_specialOf hT F.slot_tuple_hash.lookup ?_)
 show wpAny _ _ (if (some (Value.builtin "tuple.__hash__") == some Value.none) = true then _ else _) Q E s
 rw [if_neg (by rw [beq_builtin_none]; exact Zv)]
 refine Zhb (wpAny_specialOf hT F.slot_tuple_hash.lookup ?_)
 show wpAny _ _ (callSpecialIfBoundUnlessNone? (.ref a) "__hash__" _ >>= _) Q E s
 refine Zhb (wpAny_callSpecialIfBoundUnlessNone?_slot hT F.slot_tuple_hash (wpAny_call_entry F.slot_tuple_hash hT F.entry_tuple_hash ?_ (F.args_tuple_hash_1 _)))
 show wpAny _ _ (Builtin.Tuple.tupleItemsOf (.ref a) >>= _) _ _ s
 refine Zhb (wpAny_tupleItemsOf ho hd ?_)
 refine Zhb ?_
 rw [← Array.forIn_toList]
 refine forIn_two (Zhb (wpAny_pyHash_str (Zjb ?_)))
 refine Zhb (wpAny_pyHash_int (Zjb ?_))
 · show wpAny _ _ (retInt (Builtin.Tuple.tupleHashOf [hashStr w k.1,hashInt k.2])) _ _ _
   refine wpAny_ret_mkInt ?_
   show wpAny _ _ (if (decide (-(2:Int) ^ 63 ≤ Builtin.Tuple.tupleHashOf [hashStr w k.1,hashInt k.2]) && decide (Builtin.Tuple.tupleHashOf [hashStr w k.1,hashInt k.2] < 2 ^ 63)) = true then _ else _) Q E _
   unfold pairHash reduceHash at h
   by_cases hr:(decide (-(2:Int) ^ 63 ≤ Builtin.Tuple.tupleHashOf [hashStr w k.1,hashInt k.2]) && decide (Builtin.Tuple.tupleHashOf [hashStr w k.1,hashInt k.2] < 2 ^ 63)) = true
   · rw [if_pos hr]
     rw [if_pos hr] at h
     exact Zjb h
   · rw [if_neg hr]
     rw [if_neg hr] at h
     exact Zhb (wpAny_rule (Zjb h))
theorem IsPair.quiet {k:Str × Int} {a:Addr} {Q:Bool → Shared → Prop} (hk:IsPair s.heap k a) (h:Q true s):wpAny (model prog w) A (eqIsQuiet 8 (.ref a)) Q E s:=by
 have hT:=hk.typeIs
 obtain ⟨o,t,u,n,ho,zz,hd⟩:=hk
 unfold eqIsQuiet
 refine Zhb (wpAny_specialOf hT F.slot_tuple_eq.lookup ?_)
 show wpAny _ _ (isInstance (.ref a) (.type "tuple") >>= _) _ _ s
 refine Zhb (wpAny_isInstance hT isSubtype_tuple_tuple ?_)
 simp only [Bool.not_true,Bool.false_eq_true,if_false]
 refine Zhb (wpAny_seqItems ho hd ?_)
 refine Zhb ?_
 show wpAny _ _ (forIn _ _ _) _ _ s
 rw [← Array.forIn_toList]
 refine wpAny_forIn_list _ (fun rest r s' => r.1 = none ∧ s' = s ∧ ∀ v ∈ rest,carriedByValue v = true) _ ?_ ?_ _ _ ⟨rfl,rfl,by simp [carriedByValue]⟩
 · rintro v rest r s' ⟨hr,rfl,hall⟩
   rw [eqIsQuiet_byValue _ (hall v Zt)]
   refine Zhb (Zjb ?_)
   simp only [Bool.not_true,Bool.false_eq_true,if_false]
   exact Zjb ⟨rfl,rfl,fun u hu' => hall u (Zd _ hu')⟩
 · rintro ⟨r1,r2⟩ s' ⟨hr,rfl,zz⟩
   simp only at hr
   subst hr
   exact Zjb h
theorem IsPair.eqTree {x y:Str × Int} {a b:Addr} {P:Fin → Shared → Prop} (hx:IsPair s.heap x a) (hy:IsPair s.heap y b) (h:P (.done (.ret (.bool (decide (x = y))))) s) :
   wpAny (model prog w) A (Builtin.«tuple.__eq__» ⟨[.ref a,.ref b],[]⟩) P E s:=by
 have hTb:=hy.typeIs
 obtain ⟨oa,t,u,na,hoa,zz,hda⟩:=hx
 obtain ⟨ob,t',u',nb,hob,zz,hdb⟩:=hy
 show wpAny _ _ (isInstance (.ref b) (.type "tuple") >>= _) _ _ s
 refine Zhb (wpAny_isInstance hTb isSubtype_tuple_tuple ?_)
 simp only [Bool.not_true,Bool.false_eq_true,if_false]
 refine Zhb (wpAny_tupleItemsOf hoa hda ?_)
 refine Zhb (wpAny_tupleItemsOf hob hdb ?_)
 refine Zhb ?_
 refine forIn_two (Zhb (wpAny_eqBool_str ?_))
 by_cases h1:x.1 = y.1
 · rw [Zmb h1]
   refine Zjb (Zhb (wpAny_eqBool_int ?_))
   by_cases h2:x.2 = y.2
   · rw [beq_iff_eq.mpr h2]
     rw [Zmb (Prod.ext h1 h2)] at h
     exact Zjb (Zjb h)
   · rw [beq_eq_false_iff_ne.mpr h2]
     rw [decide_eq_false fun e => h2 (congrArg (·.2) e)] at h
     exact Zhb (Zjb (Zjb (Zjb h)))
 · rw [decide_eq_false h1]
   rw [decide_eq_false fun e => h1 (congrArg (·.1) e)] at h
   exact Zhb (Zjb (Zjb (Zjb h)))
theorem IsPair.eqBool {x y:Str × Int} {a b:Addr} {Q:Bool → Shared → Prop} (hu:A.units < cLine) (hx:IsPair s.heap x a) (hy:IsPair s.heap y b) (h:Q (decide (x = y)) s) :
   wpAny (model prog w) A (PySem.eqBool (.ref a) (.ref b)) Q E s:=by
 unfold PySem.eqBool
 try with_reducible refine wpAny_holding ?_
 show wpAny _ _ (if (Value.ref a == Value.ref b) = true then _ else _) Q E s
 by_cases hab:(Value.ref a == Value.ref b) = true
 · rw [if_pos hab]
   have e:a = b:=by have:=eq_of_beq hab; injection this
   subst e
   obtain rfl:=hx.inj hy
   exact Zhb (wpAny_rule (Zjb (by simpa using h)))
 · rw [if_neg hab]
   exact Zhb (wpAny_richCompare_same_room (op:=.Eq) hx.typeIs hy.typeIs F.slot_tuple_eq
     (wpAny_call_entry F.slot_tuple_eq hx.typeIs F.entry_tuple_eq (hx.eqTree hy ⟨_,rfl,(fun e => (by cases e)),wpAny_truthy_bool h⟩) (F.args_tuple_eq_2 _ _)) hu)
end
noncomputable def pairKind (prog:Program) (w:World):HeapKind prog w (Str × Int) where
 is:=IsPair
 hash:=pairHash w
 draws:=fun zz => 3
 room:=fun A => A.units < cLine
 inj:=fun hx hy => hx.inj hy
 keeps:=fun x ho hd hs => x.keeps ho hd hs
 pyHash:=fun hu hk h => hk.pyHash hu h
 eqBool:=fun hu hx hy h => hx.eqBool hu hy h
 quiet:=fun hk h => hk.quiet h
end
section
inductive NsC (h:Heap) (a:Addr) (c:String) (m:Str → Option Value):Prop where
 | mk (o:Obj) (es:Array DictEntry) (ep:Nat) (h1:h.get? a = some o) (h2:o.cls = .type c) (h3:o.dict = none) (h4:o.data = .dict es ep) (h5:StrKeys es) (h6:UniqKeys es) (h7:∀ name,nsFind es name = m name):NsC h a c m
theorem NsC.ns {h:Heap} {a:Addr} {c:String} {m} (x:NsC h a c m):h.Ns a m:=x.rec fun o es ep h1 zz zz h4 h5 zz h7 => ⟨o,es,ep,h1,h4,h5,h7⟩
theorem NsC.of_slots {h h':Heap} {a:Addr} {c:String} {m} (x:NsC h a c m) (k:∀ o,h.get? a = some o → ∃ sl,h'.get? a = some { o with slots:=sl }):NsC h' a c m :=
 x.rec fun o es ep h1 h2 h3 h4 h5 h6 h7 => Zh (k o h1) fun zz e => ⟨_,es,ep,e,h2,h3,h4,h5,h6,h7⟩
theorem NsC.sameBut {h h':Heap} {a b:Addr} {c:String} {m} (x:NsC h a c m) (hs:Heap.SameBut b h h') (hab:a ≠ b):NsC h' a c m :=
 x.rec fun o es ep h1 h2 h3 h4 h5 h6 h7 => ⟨o,es,ep,(hs.2 a hab).trans h1,h2,h3,h4,h5,h6,h7⟩
theorem NsC.ns1 {h:Heap} {a:Addr} {c:String} {m} (x:NsC h a c m):h.Ns1 a m:=x.rec fun o es ep h1 zz zz h4 h5 h6 h7 => ⟨o,es,ep,h1,h4,h5,h6,h7⟩
theorem NsC.of1 {h h':Heap} {a:Addr} {c:String} {m m'} (x:NsC h a c m) (y:h'.Ns1 a m') (k:∀ o,h.get? a = some o → ∃ o',h'.get? a = some o' ∧ o'.cls = o.cls ∧ o'.dict = o.dict):NsC h' a c m' :=
 x.rec fun o zz zz h1 h2 h3 zz zz zz zz => Zh (k o h1) fun o' q => ex3 y fun o2 es ep y => have e:o' = o2:=sm_inj (q.1.symm.trans y.1); ⟨o2,es,ep,y.1,(congrArg Obj.cls e).symm.trans (q.2.1.trans h2),(congrArg Obj.dict e).symm.trans (q.2.2.trans h3),y.2.1,y.2.2.1,y.2.2.2.1,y.2.2.2.2⟩
theorem nsSetC {M:Model} {A:Around} {E:Value → Shared → Prop} {s:Shared} {a:Addr} {c:String} {m} {name:Str} {v:Value} {Q:Unit → Shared → Prop} (hn:NsC s.heap a c m)
   (hQ:∀ h',NsC h' a c (fun x => if x = name then some v else m x) → Heap.SameBut a s.heap h' → Q () { s with heap:=h',toks:=s.toks + 1 }):wpAny M A (nsSet a name v) Q E s :=
 wpAny_nsSet1EFk hn.ns1 fun h' y hs k => hQ h' (hn.of1 y k) hs
noncomputable def ListAt (h:Heap) (a:Addr) (items:List Value):Prop:=∃ n,h.get? a = some ⟨.type "list",none,.seq items.toArray n,#[]⟩
noncomputable abbrev KVRel (T:Tp) (ι:Inj) (h:Heap):List (Str × V) → List (Str × Value) → Prop:=KRel (VRel T ι h)
noncomputable abbrev TKRel (T:Tp) (ι:Inj) (h:Heap):List ((Str × Int) × V) → List ((Str × Int) × Addr × Value) → Prop:=KRel fun v p => VRel T ι h v p.2
noncomputable def ORel (T:Tp) (ι:Inj) (h:Heap):MObj → Addr × Addr → Prop
 | .list vs,p => p.1 = p.2 ∧ ∃ items,ListAt h p.1 items ∧ VRels T ι h vs items
 | .sdict kvs,p => p.1 = p.2 ∧ ∃ rvs,h.DictOf (strKind T.prog T.w) p.1 rvs ∧ KVRel T ι h kvs rvs
 | .tdict kvs,p => p.1 = p.2 ∧ ∃ xs,h.DictOfH (pairKind T.prog T.w) p.1 xs ∧ TKRel T ι h kvs xs
 | .inst c fs,p => ∃ C m sl,T.c c = some C ∧ h.get? p.1 = some ⟨.ref C,some p.2,.plain,sl⟩ ∧ NsC h p.2 "dict" m ∧ (∀ x,ORelV T ι h (fs.lookup x) (m x))
structure Rep (T:Tp) (ι:Inj) (σ:Hp) (h:Heap):Prop where
 len:ι.length = σ.length
 big:10 ≤ T.b0.objs.size
 size:T.b0.objs.size ≤ h.objs.size
 base:∀ a o,T.b0.get? a = some o → h.get? a = some o
 objs:∀ (l:Nat) (o:MObj) (p:Addr × Addr),σ[l]? = some o → ι[l]? = some p → ORel T ι h o p
 fresh:∀ p ∈ ι,T.b0.objs.size ≤ p.1 ∧ T.b0.objs.size ≤ p.2
 apart:∀ (i j:Nat) (p q:Addr × Addr),ι[i]? = some p → ι[j]? = some q → i ≠ j → p.1 ≠ q.1 ∧ p.1 ≠ q.2 ∧ p.2 ≠ q.1 ∧ p.2 ≠ q.2
theorem IsPair.mono {ι ι':Inj} {h h':Heap} {k:Str × Int} {a:Addr} (m:Mono ι h ι' h') (x:IsPair h k a):IsPair h' k a:=by
 obtain ⟨o,t,u,n,ho,hc,hd⟩:=x
 exact ⟨o,t,u,n,m.frz _ _ ho (by simp [frozen,hc]),hc,hd⟩
theorem ORel.cls {T:Tp} {ι:Inj} {h:Heap} {o:MObj} {p:Addr × Addr} (e:ORel T ι h o p) {a:Addr} (ha:a = p.1 ∨ a = p.2):∃ x,h.get? a = some x ∧ ((∃ C,x.cls = .ref C) ∨ x.cls = .type "list" ∨ x.cls = .type "dict"):=by
 have one:∀ {x},p.1 = p.2 → h.get? p.1 = some x → h.get? a = some x:=fun e g => by rcases ha with q | q <;> rw [q] <;> first | exact g | exact e ▸ g
 cases o
 · obtain ⟨e,zz,⟨zz,x⟩,zz⟩:=e; exact ⟨_,one e x,.inr (.inl rfl)⟩
 · obtain ⟨e,zz,⟨zz,zz,zz,x,ex,zz⟩,zz⟩:=e; exact ⟨_,one e x,.inr (.inr ex.1)⟩
 · obtain ⟨e,zz,⟨zz,zz,zz,x,ex,zz⟩,zz⟩:=e; exact ⟨_,one e x,.inr (.inr ex.1)⟩
 · obtain ⟨C,zz,zz,zz,x,y,zz⟩:=e
   rcases ha with q | q <;> rw [q]
   · exact ⟨_,x,.inl ⟨C,rfl⟩⟩
   · obtain ⟨o,zz,zz,y,yc,zz⟩:=y; exact ⟨o,y,.inr (.inr yc)⟩
theorem ORel.lt {T:Tp} {ι:Inj} {h:Heap} {o:MObj} {p:Addr × Addr} (e:ORel T ι h o p):p.1 < h.objs.size ∧ p.2 < h.objs.size :=
 ⟨Zh (e.cls (.inl rfl)) fun zz g => Zu g.1,Zh (e.cls (.inr rfl)) fun zz g => Zu g.1⟩
theorem Rep.lt {T:Tp} {ι:Inj} {σ:Hp} {h:Heap} (r:Rep T ι σ h) {p:Addr × Addr} (hp:p ∈ ι):p.1 < h.objs.size ∧ p.2 < h.objs.size:=by
 obtain ⟨l,hl,rfl⟩:=List.getElem_of_mem hp
 have hl':l < σ.length:=by rw [← r.len]; exact hl
 exact (r.objs l σ[l] ι[l] (Zp hl') (Zp hl)).lt
theorem Rep.own_lt {T:Tp} {ι:Inj} {σ:Hp} {h:Heap} (r:Rep T ι σ h) {a:Addr} (ha:a ∈ own ι):a < h.objs.size:=by
 obtain ⟨p,hp,e⟩:=mem_own.mp ha
 rcases e with rfl | rfl
 · exact (r.lt hp).1
 · exact (r.lt hp).2
theorem ORel.keeps {T:Tp} {ι ι':Inj} {h h':Heap} (m:Mono ι h ι' h') {o:MObj} {p:Addr × Addr} (k:∀ x,h.get? p.1 = some x → h'.get? p.1 = some x) (k':∀ x,h.get? p.2 = some x → h'.get? p.2 = some x) (e:ORel T ι h o p):ORel T ι' h' o p:=by
 cases o
 · obtain ⟨e,items,⟨n,x⟩,r⟩:=e; exact ⟨e,items,⟨n,k _ x⟩,r.mono m⟩
 · obtain ⟨e,rvs,⟨o,es,ep,x,r⟩,q⟩:=e; exact ⟨e,rvs,⟨o,es,ep,k _ x,r⟩,q.imp fun zz zz r => r.mono m⟩
 · obtain ⟨e,rvs,⟨o,es,ep,x,c,dd,ee,y,r⟩,q⟩:=e; exact ⟨e,rvs,⟨o,es,ep,k _ x,c,dd,ee,fun z hz => IsPair.mono m (y z hz),r⟩,q.imp fun zz zz r => r.mono m⟩
 · exact ex3 e fun C mm sl e => ⟨C,mm,sl,e.1,k _ e.2.1,e.2.2.1.rec fun o' es' ep' e' z1 z2 z3 z4 z5 z6 => ⟨o',es',ep',k' _ e',z1,z2,z3,z4,z5,z6⟩,fun z => ORelV.mono m (e.2.2.2 z)⟩
theorem Rep.keeps {T:Tp} {ι:Inj} {σ:Hp} {h h':Heap} (r:Rep T ι σ h) (m:Mono ι h ι h') (hs:h.objs.size ≤ h'.objs.size) (hb:∀ a o,T.b0.get? a = some o → h'.get? a = some o) (k:∀ a ∈ own ι,∀ o,h.get? a = some o → h'.get? a = some o):Rep T ι σ h' where
 len:=r.len
 big:=r.big
 size:=Za r.size hs
 base:=hb
 objs:=fun l o p e q => (r.objs l o p e q).keeps m (k _ (mem_own.mpr ⟨p,Zn q,.inl rfl⟩)) (k _ (mem_own.mpr ⟨p,Zn q,.inr rfl⟩))
 fresh:=r.fresh
 apart:=r.apart
theorem Rep.grow {T:Tp} {ι:Inj} {σ:Hp} {h h':Heap} (r:Rep T ι σ h) (hs:h.objs.size ≤ h'.objs.size) (k:∀ a o,h.get? a = some o → h'.get? a = some o):Rep T ι σ h' :=
 r.keeps ⟨⟨[],by simp⟩,fun zz o e zz => ⟨o,k _ _ e,rfl⟩,fun zz zz e zz => k _ _ e⟩ hs (fun a o e => k _ _ (r.base a o e)) fun a zz o e => k a o e
theorem Rep.push {T:Tp} {ι:Inj} {σ:Hp} {h:Heap} (r:Rep T ι σ h) (o:Obj):Rep T ι σ (h.push o) :=
 r.grow (by rw [Zqb]; exact Zq (Zs h.objs.size)) fun zz zz e => Zx _ e
theorem Rep.more {T:Tp} {ι:Inj} {σ:Hp} {h:Heap} (r:Rep T ι σ h) {o:MObj} {p:Addr × Addr} (ho:ORel T (ι ++ [p]) h o p) (h1:T.b0.objs.size ≤ p.1) (h2:T.b0.objs.size ≤ p.2) (n1:p.1 ∉ own ι) (n2:p.2 ∉ own ι) :
   Rep T (ι ++ [p]) (σ ++ [o]) h where
 len:=by simp [r.len]
 big:=r.big
 size:=r.size
 base:=r.base
 objs:=fun l x q e e' => by
   have m:Mono ι h (ι ++ [p]) h:=⟨⟨[p],rfl⟩,fun zz o e zz => ⟨o,e,rfl⟩,fun zz zz e zz => e⟩
   rcases Nat.lt_or_ge l σ.length with hl | hl
   · rw [Zbb hl] at e
     rw [Zbb (by rw [r.len]; exact hl)] at e'
     exact (r.objs l x q e e').keeps m (fun zz z => z) fun zz z => z
   · rw [List.getElem?_append_right hl] at e
     rw [List.getElem?_append_right (by rw [r.len]; exact hl),r.len] at e'
     rcases Nat.eq_zero_or_pos (l - σ.length) with z | z
     · rw [z] at e e'
       simp only [List.getElem?_cons_zero,Option.some.injEq] at e e'
       subst e e'; exact ho
     · rw [Zrb (by simp; (clear hl e' h1 h2 e; exact z))] at e; cases e
 fresh:=fun q hq => by
   rcases Zm.mp hq with hq | hq
   · exact r.fresh q hq
   · cases Zj.mp hq; exact ⟨h1,h2⟩
 apart:=fun i j q q' e e' hij => by
   have key:∀ (k:Nat) (x:Addr × Addr),(ι ++ [p])[k]? = some x → (k < ι.length ∧ ι[k]? = some x) ∨ (k = ι.length ∧ x = p):=fun k x e => by
     rcases Nat.lt_or_ge k ι.length with hl | hl
     · rw [Zbb hl] at e; exact .inl ⟨hl,e⟩
     · rw [List.getElem?_append_right hl] at e
       rcases Nat.eq_zero_or_pos (k - ι.length) with z | z
       · rw [z] at e; simp only [List.getElem?_cons_zero,Option.some.injEq] at e; exact .inr ⟨by (clear hij h1 h2 e'; lia),e.symm⟩
       · rw [Zrb (by simp; (clear hl hij e h1 h2 e'; exact z))] at e; cases e
   have no:∀ x:Addr × Addr,x ∈ ι → p.1 ≠ x.1 ∧ p.1 ≠ x.2 ∧ p.2 ≠ x.1 ∧ p.2 ≠ x.2:=fun x hx =>
     ⟨fun z => n1 (mem_own.mpr ⟨x,hx,.inl z⟩),fun z => n1 (mem_own.mpr ⟨x,hx,.inr z⟩),fun z => n2 (mem_own.mpr ⟨x,hx,.inl z⟩),fun z => n2 (mem_own.mpr ⟨x,hx,.inr z⟩)⟩
   rcases key i q e with ⟨hi,ei⟩ | ⟨hi,rfl⟩ <;> rcases key j q' e' with ⟨hj,ej⟩ | ⟨hj,rfl⟩
   · exact r.apart i j q q' ei ej hij
   · obtain ⟨a,b,c,d⟩:=no q (Zn ei)
     exact ⟨a.symm,c.symm,b.symm,d.symm⟩
   · exact no q' (Zn ej)
   · (clear h2 e e' key h1; lia)
theorem Rep.turn {T:Tp} {ι:Inj} {σ:Hp} {h h':Heap} (r:Rep T ι σ h) {l:Nat} {p:Addr × Addr} {o:MObj} {a:Addr} (hp:ι[l]? = some p) (m:Mono ι h ι h') (hs:Heap.SameBut a h h') (ha:a = p.1 ∨ a = p.2)
   (ho:ORel T ι h' o p):Rep T ι (σ.set l o) h' where
 len:=by simp [r.len]
 big:=r.big
 size:=Za r.size (Zr hs.1.symm)
 base:=fun b x e => by
   have hne:b ≠ a:=fun q => by
     have h1:=Zu e
     have h2:=r.fresh p (Zn hp)
     rw [q] at h1
     rcases ha with ha | ha <;> rw [ha] at h1
     · exact absurd h2.1 (Nat.not_le.mpr h1)
     · exact absurd h2.2 (Nat.not_le.mpr h1)
   exact (hs.2 b hne).trans (r.base b x e)
 objs:=fun k x q e e' => by
   by_cases hk:k = l
   · subst hk
     rw [hp] at e'; cases e'
     rw [Zw (by rw [← r.len]; exact (Zb.mp hp).1)] at e
     cases e; exact ho
   · rw [Zi (fun z => hk z.symm)] at e
     have:=r.apart k l q p e' hp hk
     have keep:∀ b,b = q.1 ∨ b = q.2 → ∀ z,h.get? b = some z → h'.get? b = some z:=fun b hb z hz => (hs.2 b (fun y => by
       rcases ha with rfl | rfl <;> rcases hb with rfl | rfl <;> simp_all)).trans hz
     exact (r.objs k x q e e').keeps m (keep _ (.inl rfl)) (keep _ (.inr rfl))
 fresh:=r.fresh
 apart:=r.apart
end
section
noncomputable abbrev Loc:=Str → Option V
noncomputable def upd (ρ:Loc) (x:Str) (v:Option V):Loc:=fun y => if y = x then v else ρ y
inductive HandV (ι:Inj) (h:Heap) (v:Value):Prop where
 | mk (ea:Addr) (o:Obj) (C:Addr) (vs:Array Value) (e1:v = .ref ea) (e2:h.get? ea = some o) (e3:o.cls = .ref C) (e4:o.data = .fields vs) (e5:vs[2]? = some .none) (e6:ea ∉ own ι):HandV ι h v
noncomputable def HandAt (A:Around) (ι:Inj) (h:Heap):Prop:=∀ v,A.handled = some v → HandV ι h v
theorem HandAt.none {A:Around} {ι:Inj} {h:Heap} (e:A.handled = .none):HandAt A ι h:=fun v q => by rw [e] at q; cases q
theorem HandAt.keep {A:Around} {ι ι':Inj} {h h':Heap} (x:HandAt A ι h) (k:∀ a o C,h.get? a = some o → o.cls = .ref C → a ∉ own ι → h'.get? a = some o ∧ a ∉ own ι'):HandAt A ι' h':=fun v q =>
 (x v q).rec fun ea o C vs e1 e2 e3 e4 e5 e6 => ⟨ea,o,C,vs,e1,(k ea o C e2 e3 e6).1,e3,e4,e5,(k ea o C e2 e3 e6).2⟩
theorem ne_type {c:Value} {C:Addr} {n:String} (e:c = .ref C):c ≠ .type n:=fun q => nomatch e.symm.trans q
theorem HandAt.ext {T:Tp} {F:List Addr} {A:Around} {ι ι':Inj} {h h':Heap} (x:HandAt A ι h) (e:Ext T F ι h ι' h') (hF:∀ a ∈ F,∃ o,h.get? a = some o ∧ itr o = false):HandAt A ι' h' :=
 x.keep fun a o C e1 e2 e3 => ⟨e.keep a o e1 e3 (fun q => Zh (hF a q) fun o' g => itr_ref g.2 ((sm_inj (g.1.symm.trans e1)).symm ▸ e2)) (ne_type e2),e.not_own e3 (Zu e1)⟩
inductive FunAt (T:Tp) (ι:Inj) (h:Heap) (e:Env):Prop where
 | mk (k:e.scope.kind = .function) (L:Addr) (o:Obj) (es:Array DictEntry) (ep:Nat) (f:e.frame = some L) (n:L ∉ own ι) (b:T.b0.objs.size ≤ L) (g:h.get? L = some o) (c:o.cls = .type "frame") (dd:o.data = .dict es ep):FunAt T ι h e
structure AOk (T:Tp) (A:Around) (fs:List Env) (d:Nat) (ι:Inj) (h:Heap):Prop where
 frames:A.frames = some fs
 funs:∀ e ∈ fs,FunAt T ι h e
 depth:A.depth + d ≤ recursionLimit
 units:A.units + 10 * d + 50 ≤ cLine
 hd:T.hd = false → A.handled = none
 hx:HandAt A ι h
noncomputable def nsCls (env:Env) (c:String):Prop:=(c = "frame" ∨ c = "dict") ∧ (env.frame ≠ some env.locals → c = "dict")
inductive NsAt (T:Tp) (env:Env) (ρ:Loc) (ι:Inj) (h:Heap):Prop where
 | mk (c:String) (m:Str → Option Value) (hc:nsCls env c) (hn:NsC h env.locals c m) (r:∀ x,env.kindOf x = some .local → ORelV T ι h (ρ x) (m x)):NsAt T env ρ ι h
inductive CellAt (T:Tp) (env:Env) (ρ:Loc) (ι:Inj) (h:Heap) (x:Str):Prop where
 | mk (c:Addr) (o:Obj) (v:Option Value) (e1:env.cells.lookup x = some c) (e2:h.get? c = some o) (e3:o.cls = .type "cell") (e4:o.data = .cell v) (e5:ORelV T ι h (ρ x) v) (e6:c ∉ own ι):CellAt T env ρ ι h x
inductive There (h:Heap) (a:Addr):Prop where
 | mk (o:Obj) (h1:h.get? a = some o) (h2:frozen o = false) (h3:itr o = false):There h a
theorem There.lt {h:Heap} {a:Addr} (x:There h a):a < h.objs.size:=x.rec fun zz h1 zz zz => Zu h1
theorem There.at {h:Heap} {a:Addr} {o:Obj} (x:There h a) (ho:h.get? a = some o):frozen o = false ∧ itr o = false:=x.rec fun zz h1 h2 h3 => sm_inj (h1.symm.trans ho) ▸ ⟨h2,h3⟩
structure Frm (T:Tp) (env:Env) (F:List Addr) (ρ:Loc) (ι:Inj) (h:Heap):Prop where
 kind:env.scope.kind = .function
 glb:env.globals = mainGlobals
 blt:env.builtins = builtinsNs
 ns:NsAt T env ρ ι h
 cells:∀ x,env.kindOf x = some .cell ∨ env.kindOf x = some .free → CellAt T env ρ ι h x
 inj:∀ x y c,(env.kindOf x = some .cell ∨ env.kindOf x = some .free) → (env.kindOf y = some .cell ∨ env.kindOf y = some .free) → env.cells.lookup x = some c → env.cells.lookup y = some c → x = y
 loc:env.locals ∈ F
 cin:∀ x c,env.kindOf x = some .cell → env.cells.lookup x = some c → c ∈ F
 apart:∀ a ∈ F,a ∉ own ι ∧ T.b0.objs.size ≤ a
 there:∀ a ∈ F,There h a
inductive TopAt (fs:List Env) (env:Env):Prop where
 | mk (e:Env) (r:List Env) (L:Addr) (h1:fs = e :: r) (h2:e.frame = some L) (h3:env.frame = some L):TopAt fs env
structure Inv (T:Tp) (A:Around) (fs:List Env) (d:Nat) (env:Env) (F:List Addr) (ρ:Loc) (ι:Inj) (σ:Hp) (s:Shared):Prop where
 rep:Rep T ι σ s.heap
 aok:AOk T A fs d ι s.heap
 frm:Frm T env F ρ ι s.heap
 top:TopAt fs env
 gens:s.gens = #[]
 os:s.os = T.os
theorem AOk.keeps {T:Tp} {A:Around} {fs:List Env} {d:Nat} {ι ι':Inj} {h h':Heap} (x:AOk T A fs d ι h) (no:∀ a,a ∉ own ι → a < h.objs.size → a ∉ own ι') (k:∀ a o,h.get? a = some o → a ∉ own ι → o.cls = .type "frame" → ∃ sl,h'.get? a = some { o with slots:=sl }) (hx:HandAt A ι' h'):AOk T A fs d ι' h' :=
 ⟨x.frames,fun e he => (x.funs e he).rec fun k1 L o es ep f n b g c dd => Zh (k L o g n c) fun zz g' => ⟨k1,L,_,es,ep,f,no L n (Zu g),b,g',c,dd⟩,x.depth,x.units,x.hd,hx⟩
theorem frozen_eq {o o':Obj} (h:o'.cls = o.cls):frozen o' = frozen o:=by unfold frozen; rw [h]
noncomputable def nsO (o:Obj):Prop:=∃ n,o.cls = .type n ∧ (n = "frame" ∨ n = "dict" ∨ n = "cell")
theorem nsO.itr {o:Obj} (h:nsO o):itr o = false:=Zh h fun n h => itr_no h.1 (by rcases h.2 with e | e | e <;> rw [e] <;> decide)
theorem nsO.tb {o:Obj} (h:nsO o):o.cls ≠ .type "traceback":=Zh h fun n h q => by
 have e:=Value.type.inj (h.1.symm.trans q)
 rcases h.2 with e' | e' | e' <;> rw [e'] at e <;> exact absurd e (by decide)
theorem Frm.keeps {T:Tp} {env:Env} {F:List Addr} {ρ:Loc} {ι ι':Inj} {h h':Heap} (x:Frm T env F ρ ι h) (m:Mono ι h ι' h') (no:∀ a,a ∉ own ι → a < h.objs.size → a ∉ own ι')
   (kf:∀ a o,h.get? a = some o → a ∈ F → itr o = false → ∃ o',h'.get? a = some o' ∧ o'.cls = o.cls)
   (k:∀ a o,h.get? a = some o → a ∉ own ι → nsO o → (a ∈ F ∨ o.cls = .type "cell") → ∃ sl,h'.get? a = some { o with slots:=sl }):Frm T env F ρ ι' h' where
 kind:=x.kind
 glb:=x.glb
 blt:=x.blt
 ns:=x.ns.rec fun c mm hc hn r => ⟨c,mm,hc,hn.of_slots fun o ho => k _ o ho (x.apart _ x.loc).1 ⟨c,hn.rec fun o' zz zz h1 h2 zz zz zz zz zz => sm_inj (h1.symm.trans ho) ▸ h2,hc.1.imp id .inl⟩ (.inl x.loc),fun y hy => (r y hy).mono m⟩
 cells:=fun y hy => (x.cells y hy).rec fun c o v e1 e2 e3 e4 e5 e6 => Zh (k c o e2 e6 ⟨_,e3,.inr (.inr rfl)⟩ (.inr e3)) fun zz g => ⟨c,_,v,e1,g,e3,e4,e5.mono m,no c e6 (Zu e2)⟩
 inj:=x.inj
 loc:=x.loc
 cin:=x.cin
 apart:=fun a ha => ⟨no a (x.apart a ha).1 (x.there a ha).lt,(x.apart a ha).2⟩
 there:=fun a ha => (x.there a ha).rec fun o h1 h2 h3 => Zh (kf a o h1 ha h3) fun zz g => ⟨_,g.1,(frozen_eq g.2).trans h2,(itr_eq g.2).trans h3⟩
theorem AOk.ext {T:Tp} {A:Around} {fs:List Env} {d:Nat} {ι ι':Inj} {h h':Heap} {F:List Addr} (x:AOk T A fs d ι h) (e:Ext T F ι h ι' h')
   (hF:∀ en ∈ fs,∀ L,en.frame = some L → L ∈ F → ∃ o es ep,h'.get? L = some o ∧ o.data = .dict es ep) (hG:∀ a ∈ F,∃ o,h.get? a = some o ∧ itr o = false):AOk T A fs d ι' h' where
 frames:=x.frames
 funs:=fun en hen => by
   obtain ⟨k,L,o,es,ep,f,n,b,g,c,dd⟩:=x.funs en hen
   have n':=e.not_own n (Zu g)
   by_cases q:L ∈ F
   · obtain ⟨o',es',ep',g',d'⟩:=hF en hen L f q
     obtain ⟨o₂,g₂,c₂⟩:=e.cls L o g (by simp [loose,c])
     exact ⟨k,L,o',es',ep',f,n',b,g',sm_inj (g₂.symm.trans g') ▸ c₂.trans c,d'⟩
   · obtain ⟨sl,g'⟩:=e.frm L o g n q
     exact ⟨k,L,_,es,ep,f,n',b,g',c,dd⟩
 depth:=x.depth
 units:=x.units
 hd:=x.hd
 hx:=x.hx.ext e hG
theorem AOk.ext0 {T:Tp} {A:Around} {fs:List Env} {d:Nat} {ι ι':Inj} {h h':Heap} (x:AOk T A fs d ι h) (e:Ext T [] ι h ι' h'):AOk T A fs d ι' h' :=
 x.keeps (fun zz n l => e.not_own n l) (fun a o g n zz => e.frm a o g n List.not_mem_nil) (x.hx.ext e fun zz q => nomatch q)
theorem Frm.ext {T:Tp} {env:Env} {F:List Addr} {ρ:Loc} {ι ι':Inj} {h h':Heap} (x:Frm T env F ρ ι h) (e:Ext T [] ι h ι' h'):Frm T env F ρ ι' h' :=
 x.keeps e.mono (fun zz n l => e.not_own n l) (fun a o g ha zz => Zh (e.frm a o g (x.apart a ha).1 List.not_mem_nil) fun zz g => ⟨_,g,rfl⟩) fun a o g n zz zz => e.frm a o g n List.not_mem_nil
theorem Inv.ext {T:Tp} {A:Around} {fs:List Env} {d:Nat} {env:Env} {F:List Addr} {ρ:Loc} {ι ι':Inj} {σ σ':Hp} {s s':Shared} (x:Inv T A fs d env F ρ ι σ s) (e:Ext T [] ι s.heap ι' s'.heap) (r:Rep T ι' σ' s'.heap)
   (hg:s'.gens = #[]) (ho:s'.os = T.os):Inv T A fs d env F ρ ι' σ' s' :=
 ⟨r,x.aok.ext0 e,x.frm.ext e,x.top,hg,ho⟩
noncomputable abbrev QE:=V → Hp → Prop
noncomputable abbrev QX:=Str → Hp → Prop
inductive TbAt (lo:Nat) (ea:Addr) (h:Heap) (v:Value):Prop where
 | mk (tb:Addr) (ot:Obj) (ts:Array Value) (h0:v = .ref tb) (h1:lo ≤ tb) (h2:tb ≠ ea) (h3:h.get? tb = some ot) (h4:ot.cls = .type "traceback") (h5:ot.data = .fields ts) (h6:3 < ts.size):TbAt lo ea h v
inductive Fly (T:Tp) (lo:Nat) (ea:Addr) (c:Str) (h:Heap):Prop where
 | mk (C:Addr) (oe:Obj) (vs:Array Value) (v:Value) (h0:T.hd = false ∧ T.c c = some C) (h1:lo ≤ ea) (h2:h.get? ea = some oe) (h3:oe.cls = .ref C) (h4:oe.data = .fields vs) (h5:5 < vs.size) (h6:vs[2]? = some .none) (h7:vs[1]? = some v) (h8:(v = .none ∨ TbAt lo ea h v)):Fly T lo ea c h
inductive FlyT (T:Tp) (lo:Nat) (ea:Addr) (c:Str) (h:Heap):Prop where
 | mk (C:Addr) (oe:Obj) (vs:Array Value) (v:Value) (h0:T.hd = false ∧ T.c c = some C) (h1:lo ≤ ea) (h2:h.get? ea = some oe) (h3:oe.cls = .ref C) (h4:oe.data = .fields vs) (h5:5 < vs.size) (h6:vs[2]? = some .none) (h7:vs[1]? = some v) (h8:TbAt lo ea h v):FlyT T lo ea c h
theorem FlyT.fly {T:Tp} {lo:Nat} {ea:Addr} {c:Str} {h:Heap} (x:FlyT T lo ea c h):Fly T lo ea c h :=
 by obtain ⟨C,oe,vs,v,a,b,d,e,f,g,i,j,k⟩:=x; exact ⟨C,oe,vs,v,a,b,d,e,f,g,i,j,.inr k⟩
inductive PostE (T:Tp) (F:List Addr) (Q:QE) (ι:Inj) (h:Heap) (x:Value) (s':Shared):Prop where
 | mk (v:V) (σ':Hp) (ι':Inj) (h0:Q v σ') (h1:VRel T ι' s'.heap v x) (h2:Rep T ι' σ' s'.heap) (h3:Ext T F ι h ι' s'.heap) (h4:s'.gens = #[]) (h5:s'.os = T.os):PostE T F Q ι h x s'
inductive PostX (T:Tp) (F:List Addr) (X:QX) (ι:Inj) (h:Heap) (x:Value) (s':Shared):Prop where
 | mk (ea:Addr) (c:Str) (σ':Hp) (ι':Inj) (h0:x = .ref ea) (h1:X c σ') (h2:Fly T h.objs.size ea c s'.heap) (h3:ea ∉ own ι') (h4:Rep T ι' σ' s'.heap) (h5:Ext T F ι h ι' s'.heap) (h6:s'.gens = #[]) (h7:s'.os = T.os):PostX T F X ι h x s'
theorem PostE.trans {T:Tp} {F:List Addr} {Q:QE} {ι ι₁:Inj} {h h₁:Heap} {x:Value} {s':Shared} (e:Ext T F ι h ι₁ h₁) (p:PostE T F Q ι₁ h₁ x s'):PostE T F Q ι h x s' :=
 by obtain ⟨v,σ',ι',q,r,rp,e',g,o⟩:=p; exact ⟨v,σ',ι',q,r,rp,e.trans e',g,o⟩
theorem TbAt.lo {lo lo':Nat} {ea:Addr} {h:Heap} {v:Value} (x:TbAt lo ea h v) (hl:lo' ≤ lo):TbAt lo' ea h v :=
 by obtain ⟨tb,ot,ts,a,b,r1,r2,r3,r4,r5⟩:=x; exact ⟨tb,ot,ts,a,Za hl b,r1,r2,r3,r4,r5⟩
theorem Fly.lo {T:Tp} {lo lo':Nat} {ea:Addr} {c:Str} {h:Heap} (x:Fly T lo ea c h) (hl:lo' ≤ lo):Fly T lo' ea c h:=by
 obtain ⟨C,oe,vs,v,a,b,d,e,f,g,i,j,k⟩:=x
 exact ⟨C,oe,vs,v,a,Za hl b,d,e,f,g,i,j,k.imp id (·.lo hl)⟩
theorem PostX.trans {T:Tp} {F:List Addr} {X:QX} {ι ι₁:Inj} {h h₁:Heap} {x:Value} {s':Shared} (e:Ext T F ι h ι₁ h₁) (p:PostX T F X ι₁ h₁ x s'):PostX T F X ι h x s' :=
 by obtain ⟨ea,c,σ',ι',a,b,f,n,rp,e',g,o⟩:=p; exact ⟨ea,c,σ',ι',a,b,f.lo e.size,n,rp,e.trans e',g,o⟩
theorem PostE.mono {T:Tp} {F:List Addr} {Q Q':QE} {ι:Inj} {h:Heap} {x:Value} {s':Shared} (p:PostE T F Q ι h x s') (k:∀ v σ,Q v σ → Q' v σ):PostE T F Q' ι h x s' :=
 by obtain ⟨v,σ',ι',q,r,rp,e',g,o⟩:=p; exact ⟨v,σ',ι',k _ _ q,r,rp,e',g,o⟩
theorem PostX.mono {T:Tp} {F:List Addr} {X X':QX} {ι:Inj} {h:Heap} {x:Value} {s':Shared} (p:PostX T F X ι h x s') (k:∀ c σ,X c σ → X' c σ):PostX T F X' ι h x s' :=
 by obtain ⟨ea,c,σ',ι',a,b,f,n,rp,e',g,o⟩:=p; exact ⟨ea,c,σ',ι',a,k _ _ b,f,n,rp,e',g,o⟩
structure St (T:Tp) (A:Around) (fs:List Env) (d:Nat) (ι:Inj) (σ:Hp) (s:Shared):Prop where
 rep:Rep T ι σ s.heap
 aok:AOk T A fs d ι s.heap
 gens:s.gens = #[]
 os:s.os = T.os
theorem Inv.st {T:Tp} {A:Around} {fs:List Env} {d:Nat} {env:Env} {F:List Addr} {ρ:Loc} {ι:Inj} {σ:Hp} {s:Shared} (x:Inv T A fs d env F ρ ι σ s):St T A fs d ι σ s:=⟨x.rep,x.aok,x.gens,x.os⟩
theorem St.ext {T:Tp} {A:Around} {fs:List Env} {d:Nat} {ι ι':Inj} {σ σ':Hp} {s s':Shared} (x:St T A fs d ι σ s) (e:Ext T [] ι s.heap ι' s'.heap) (r:Rep T ι' σ' s'.heap) (hg:s'.gens = #[]) (ho:s'.os = T.os):St T A fs d ι' σ' s' :=
 ⟨r,x.aok.ext0 e,hg,ho⟩
section
variable {T:Tp} {A:Around} {fs:List Env} {d:Nat} {ι:Inj} {σ:Hp} {s:Shared} {F:List Addr}
theorem St.post {Q:QE} {v:V} {x:Value} (S:St T A fs d ι σ s) (q:Q v σ) (r:VRel T ι s.heap v x) (t:Nat):PostE T F Q ι s.heap x { s with toks:=t } :=
 ⟨v,σ,ι,q,r,S.rep,.refl ..,S.gens,S.os⟩
theorem St.post0 {Q:QE} {v:V} {x:Value} (S:St T A fs d ι σ s) (q:Q v σ) (r:VRel T ι s.heap v x):PostE T F Q ι s.heap x s :=
 ⟨v,σ,ι,q,r,S.rep,.refl ..,S.gens,S.os⟩
theorem St.grown {Q:QE} {v:V} {x:Value} {h':Heap} {t:Nat} (S:St T A fs d ι σ s) (hs:s.heap.objs.size ≤ h'.objs.size) (k:∀ b o,s.heap.get? b = some o → h'.get? b = some o) (q:Q v σ) (r:VRel T ι h' v x) :
   PostE T F Q ι s.heap x { s with heap:=h',toks:=t } :=
 ⟨v,σ,ι,q,r,S.rep.grow hs k,.of_keeps hs k,S.gens,S.os⟩
end
noncomputable def EvOk (T:Tp) (d:Nat) (sc:Scope) (ρ:Loc) (X:QX) (e:Expr) (Q:QE) (σ:Hp):Prop :=
 ∀ env A fs F ι s,env.scope = sc → Inv T A fs d env F ρ ι σ s → wpAny (model T.prog T.w) A (eval e env) (PostE T [] Q ι s.heap) (PostX T [] X ι s.heap) s
inductive PostB (T:Tp) (Q:Bool → Hp → Prop) (ι:Inj) (h:Heap) (b:Bool) (s':Shared):Prop where
 | mk (σ':Hp) (ι':Inj) (h0:Q b σ') (h1:Rep T ι' σ' s'.heap) (h2:Ext T [] ι h ι' s'.heap) (h3:s'.gens = #[]) (h4:s'.os = T.os):PostB T Q ι h b s'
theorem PostB.trans {T:Tp} {Q:Bool → Hp → Prop} {ι ι₁:Inj} {h h₁:Heap} {b:Bool} {s':Shared} (e:Ext T [] ι h ι₁ h₁) (p:PostB T Q ι₁ h₁ b s'):PostB T Q ι h b s' :=
 by obtain ⟨σ',ι',q,rp,e',g,o⟩:=p; exact ⟨σ',ι',q,rp,e.trans e',g,o⟩
noncomputable def TsOk (T:Tp) (d:Nat) (sc:Scope) (ρ:Loc) (X:QX) (e:Expr) (Q:Bool → Hp → Prop) (σ:Hp):Prop :=
 ∀ env A fs F ι s,env.scope = sc → Inv T A fs d env F ρ ι σ s → wpAny (model T.prog T.w) A (isTrue e env (eval e env)) (PostB T Q ι s.heap) (PostX T [] X ι s.heap) s
inductive PostL (T:Tp) (Q:List V → Hp → Prop) (ι:Inj) (h:Heap) (xs:List Value) (s':Shared):Prop where
 | mk (vs:List V) (σ':Hp) (ι':Inj) (h0:Q vs σ') (h1:VRels T ι' s'.heap vs xs) (h2:Rep T ι' σ' s'.heap) (h3:Ext T [] ι h ι' s'.heap) (h4:s'.gens = #[]) (h5:s'.os = T.os):PostL T Q ι h xs s'
noncomputable def EvsOk (T:Tp) (d:Nat) (sc:Scope) (ρ:Loc) (X:QX) (es:List Expr) (Q:List V → Hp → Prop) (σ:Hp):Prop :=
 ∀ env A fs F ι s,env.scope = sc → Inv T A fs d env F ρ ι σ s → wpAny (model T.prog T.w) A (spliced (es.map fun e => (false,eval e env))) (PostL T Q ι s.heap) (PostX T [] X ι s.heap) s
noncomputable def CallOk (T:Tp) (d:Nat) (X:QX) (f:V) (args:List V) (Q:QE) (σ:Hp):Prop :=
 ∀ A fs ι s fv xs,St T A fs d ι σ s → VRel T ι s.heap f fv → VRels T ι s.heap args xs → wpAny (model T.prog T.w) A (call fv xs) (PostE T [] Q ι s.heap) (PostX T [] X ι s.heap) s
theorem CallOk.mono {T:Tp} {d:Nat} {X X':QX} {f:V} {args:List V} {Q Q':QE} {σ:Hp} (h:CallOk T d X f args Q σ) (k:∀ v σ,Q v σ → Q' v σ) (kx:∀ c σ,X c σ → X' c σ):CallOk T d X' f args Q' σ :=
 fun A fs ι s fv xs S hf hx => Zib (h A fs ι s fv xs S hf hx) (fun zz zz p => p.mono k) fun zz zz p => p.mono kx
theorem AOk.le {T:Tp} {A:Around} {fs:List Env} {d d':Nat} {ι:Inj} {h:Heap} (x:AOk T A fs d' ι h) (hd:d ≤ d'):AOk T A fs d ι h :=
 ⟨x.frames,x.funs,by have:=x.depth; lia,by have:=x.units; lia,x.hd,x.hx⟩
theorem St.le {T:Tp} {A:Around} {fs:List Env} {d d':Nat} {ι:Inj} {σ:Hp} {s:Shared} (x:St T A fs d' ι σ s) (hd:d ≤ d'):St T A fs d ι σ s:=⟨x.rep,x.aok.le hd,x.gens,x.os⟩
theorem CallOk.le {T:Tp} {d d':Nat} {X:QX} {f:V} {args:List V} {Q:QE} {σ:Hp} (h:CallOk T d X f args Q σ) (hd:d ≤ d'):CallOk T d' X f args Q σ :=
 fun A fs ι s fv xs S hf hx => h A fs ι s fv xs (S.le hd) hf hx
end
section
noncomputable def BinOk (T:Tp) (d:Nat) (X:QX) (t:Value → Value → Sem Value) (a b:V) (Q:QE) (σ:Hp):Prop :=
 ∀ A fs ι s x y,St T A fs d ι σ s → VRel T ι s.heap a x → VRel T ι s.heap b y → wpAny (model T.prog T.w) A (t x y) (PostE T [] Q ι s.heap) (PostX T [] X ι s.heap) s
noncomputable def small64 (a:Int):Prop:=-(2 ^ 64) < a ∧ a < 2 ^ 64
section
variable {T:Tp} {A:Around} {fs:List Env} {d:Nat} {ι:Inj} {σ:Hp} {s:Shared} {F:List Addr}
theorem VRel.int_inv {i:Int} {x:Value} {h:Heap} (e:VRel T ι h (.int i) x):∃ t,x = .int i t:=e
theorem VRel.str_inv {i:Str} {x:Value} {h:Heap} (e:VRel T ι h (.str i) x):∃ t,x = .str i t:=e
theorem VRel.bool_inv {i:Bool} {x:Value} {h:Heap} (e:VRel T ι h (.bool i) x):x = .bool i:=e
theorem VRel.none_inv {x:Value} {h:Heap} (e:VRel T ι h .none x):x = .none:=e
theorem VRel.tup_inv {vs:List V} {x:Value} {h:Heap} (e:VRel T ι h (.tup vs) x):∃ a items n,x = .ref a ∧ IsT h a items n ∧ VRels T ι h vs items.toList:=e
theorem VRel.ref_inv {l:Nat} {x:Value} {h:Heap} (e:VRel T ι h (.ref l) x):∃ a d,x = .ref a ∧ ι[l]? = some (a,d):=e
theorem VRel.int_mk {i:Int} {t:Tok} {h:Heap}:VRel T ι h (.int i) (.int i t):=by exact ⟨t,rfl⟩
theorem VRel.str_mk {i:Str} {t:Tok} {h:Heap}:VRel T ι h (.str i) (.str i t):=by exact ⟨t,rfl⟩
theorem VRel.bool_mk {i:Bool} {h:Heap}:VRel T ι h (.bool i) (.bool i):=rfl
theorem VRel.none_mk {h:Heap}:VRel T ι h .none .none:=rfl
theorem Rep.list_at {h:Heap} (r:Rep T ι σ h) {l:Nat} {vs:List V} {a:Addr} {d:Addr} (e:σ[l]? = some (.list vs)) (q:ι[l]? = some (a,d)) :
   ∃ items n,IsL h a items n ∧ VRels T ι h vs items.toList:=by
 obtain ⟨zz,items,⟨n,hl⟩,hv⟩:=r.objs l _ _ e q
 exact ⟨items.toArray,n,hl,by simpa using hv⟩
theorem Rep.newList {h:Heap} (r:Rep T ι σ h) {vs:List V} {items:Array Value} (hv:VRels T ι h vs items.toList) :
   Rep T (ι ++ [(h.objs.size,h.objs.size)]) (σ ++ [.list vs]) (h.push { cls:=.type "list",data:=.seq items }) ∧ Ext T F ι h (ι ++ [(h.objs.size,h.objs.size)]) (h.push { cls:=.type "list",data:=.seq items }) ∧
     VRel T (ι ++ [(h.objs.size,h.objs.size)]) (h.push { cls:=.type "list",data:=.seq items }) (.ref σ.length) (.ref h.objs.size):=by
 have m:Mono ι h (ι ++ [(h.objs.size,h.objs.size)]) (h.push { cls:=.type "list",data:=.seq items }):=⟨⟨_,rfl⟩,(Ext.push T F ι h _).cls,(Ext.push T F ι h _).frz⟩
 have no:h.objs.size ∉ own ι:=fun q => absurd (r.own_lt q) (Zub _)
 refine ⟨(r.push _).more (p:=(h.objs.size,h.objs.size)) ⟨rfl,items.toList,⟨0,by simpa using IsL.new h items⟩,hv.mono m⟩ r.size r.size no no,?_,?_⟩
 · have e:=Ext.push T F ι h { cls:=.type "list",data:=.seq items }
   exact ⟨⟨[(h.objs.size,h.objs.size)],rfl,by simp⟩,e.size,e.cls,e.frz,e.keep,e.frm⟩
 · exact ⟨h.objs.size,h.objs.size,rfl,by rw [← r.len]; simp⟩
theorem St.newList {Q:QE} {vs:List V} {items:Array Value} (S:St T A fs d ι σ s) (hv:VRels T ι s.heap vs items.toList) (q:Q (.ref σ.length) (σ ++ [.list vs])) {t:Nat} :
   PostE T F Q ι s.heap (.ref s.heap.objs.size) { s with heap:=s.heap.push { cls:=.type "list",data:=.seq items },toks:=t } :=
 let ⟨a,b,c⟩:=S.rep.newList (F:=F) hv
 ⟨_,_,_,q,c,a,b,S.gens,S.os⟩
theorem St.newTup {Q:QE} {vs:List V} {items:Array Value} (S:St T A fs d ι σ s) (hv:VRels T ι s.heap vs items.toList) (q:Q (.tup vs) σ) {t:Nat} :
   PostE T F Q ι s.heap (.ref s.heap.objs.size) { s with heap:=s.heap.push { cls:=.type "tuple",data:=.seq items },toks:=t }:=by
 refine ⟨_,_,_,q,?_,S.rep.push _,.push ..,S.gens,S.os⟩
 exact ⟨_,items,0,rfl,IsT.new _ _,hv.mono (Ext.push T [] ι s.heap _).mono⟩
end
theorem BinOk.ints {T:Tp} {d:Nat} {X:QX} {t:Value → Value → Sem Value} {x y:Int} {Q:QE} {σ:Hp}
   (k:∀ {A fs ι s u v},St T A fs d ι σ s → wpAny (model T.prog T.w) A (t (.int x u) (.int y v)) (PostE T [] Q ι s.heap) (PostX T [] X ι s.heap) s):BinOk T d X t (.int x) (.int y) Q σ :=
 fun zz zz zz zz zz zz S hx hy => Zh hx fun zz e => Zh hy fun zz e' => e ▸ e' ▸ k S
theorem BinOk.strs {T:Tp} {d:Nat} {X:QX} {t:Value → Value → Sem Value} {x y:Str} {Q:QE} {σ:Hp}
   (k:∀ {A fs ι s u v},St T A fs d ι σ s → wpAny (model T.prog T.w) A (t (.str x u) (.str y v)) (PostE T [] Q ι s.heap) (PostX T [] X ι s.heap) s):BinOk T d X t (.str x) (.str y) Q σ :=
 fun zz zz zz zz zz zz S hx hy => Zh hx fun zz e => Zh hy fun zz e' => e ▸ e' ▸ k S
theorem BinOk.strInt {T:Tp} {d:Nat} {X:QX} {t:Value → Value → Sem Value} {x:Str} {y:Int} {Q:QE} {σ:Hp}
   (k:∀ {A fs ι s u v},St T A fs d ι σ s → wpAny (model T.prog T.w) A (t (.str x u) (.int y v)) (PostE T [] Q ι s.heap) (PostX T [] X ι s.heap) s):BinOk T d X t (.str x) (.int y) Q σ :=
 fun zz zz zz zz zz zz S hx hy => Zh hx fun zz e => Zh hy fun zz e' => e ▸ e' ▸ k S
theorem BinOk.lists {T:Tp} {d:Nat} {X:QX} {t:Value → Value → Sem Value} {l m:Nat} {xs ys:List V} {Q:QE} {σ:Hp} (h1:σ[l]? = some (.list xs)) (h2:σ[m]? = some (.list ys))
   (k:∀ {A fs ι s u v i1 i2 n1 n2},St T A fs d ι σ s → IsL s.heap u i1 n1 → VRels T ι s.heap xs i1.toList → IsL s.heap v i2 n2 → VRels T ι s.heap ys i2.toList → wpAny (model T.prog T.w) A (t (.ref u) (.ref v)) (PostE T [] Q ι s.heap) (PostX T [] X ι s.heap) s):BinOk T d X t (.ref l) (.ref m) Q σ :=
 fun zz zz zz zz zz zz S hx hy => Zh hx fun zz hx => Zh hx fun zz hx => Zh hy fun zz hy => Zh hy fun zz hy => Zh (S.rep.list_at h1 hx.2) fun zz l1 => Zh l1 fun zz l1 => Zh (S.rep.list_at h2 hy.2) fun zz l2 => Zh l2 fun zz l2 => hx.1 ▸ hy.1 ▸ k S l1.1 l1.2 l2.1 l2.2
inductive BinR (σ:Hp):Operator → V → V → V → Hp → Prop where
 | add (x y:Int):BinR σ .Add (.int x) (.int y) (.int (x + y)) σ
 | cat (x y:Str) (h:x.length + y.length ≤ sizeLine):BinR σ .Add (.str x) (.str y) (.str (x ++ y)) σ
 | lists (l m:Nat) (xs ys:List V) (h1:σ[l]? = some (.list xs)) (h2:σ[m]? = some (.list ys)) (h3:xs.length + ys.length ≤ sizeLine):BinR σ .Add (.ref l) (.ref m) (.ref σ.length) (σ ++ [.list (xs ++ ys)])
 | mul (x y:Int) (h:small64 x ∨ small64 y):BinR σ .Mult (.int x) (.int y) (.int (x * y)) σ
 | rep (x:Str) (n:Int) (h:MulOk x n):BinR σ .Mult (.str x) (.int n) (.str (Txt.mul x n)) σ
 | sub (x y:Int):BinR σ .Sub (.int x) (.int y) (.int (x - y)) σ
 | fdiv (x y:Int) (h:y ≠ 0) (h2:y.natAbs < 1073741824):BinR σ .FloorDiv (.int x) (.int y) (.int (x.fdiv y)) σ
 | mod (x y:Int) (h:y ≠ 0):BinR σ .Mod (.int x) (.int y) (.int (x.fmod y)) σ
inductive binVC (op:Operator) (a b:V) (Q:QE) (σ:Hp):Prop where
 | mk (v:V) (σ':Hp) (r:BinR σ op a b v σ') (q:Q v σ'):binVC op a b Q σ
theorem bin_lists {T:Tp} {d:Nat} {X:QX} {l m:Nat} {xs ys:List V} {Q:QE} {σ:Hp} (h1:σ[l]? = some (.list xs)) (h2:σ[m]? = some (.list ys)) (h3:xs.length + ys.length ≤ sizeLine) (q:Q (.ref σ.length) (σ ++ [.list (xs ++ ys)])):BinOk T d X (binaryOp .Add) (.ref l) (.ref m) Q σ :=
 .lists h1 h2 fun {A fs ι s u v i1 i2 n1 n2} S l1 v1 l2 v2 => P.add_list l1 l2 (S.newList (items:=i1 ++ i2) (Array.toList_append (xs:=i1) (ys:=i2) ▸ v1.append v2) q) (show i1.size + i2.size ≤ sizeLine by
   rw [← Array.length_toList,← Array.length_toList,v1.length,v2.length]; exact h3)
theorem BinR.ok {T:Tp} {d:Nat} {X:QX} {Q:QE} {σ:Hp} {op:Operator} {a b v:V} {σ':Hp} (r:BinR σ op a b v σ'):Q v σ' → BinOk T d X (binaryOp op) a b Q σ:=by
 induction r with
 | add => exact fun q => .ints fun S => PyProof.Rows.add_int (S.post q .int_mk _)
 | cat z1 z2 h => exact fun q => .strs fun S => PyProof.Rows.add_str (fun t' tk => S.post q .str_mk _) h
 | lists z1 z2 z3 z4 h1 h2 h3 => exact fun q => bin_lists h1 h2 h3 q
 | mul z1 z2 h => exact fun q => .ints fun S => PyProof.Rows.mul_int (S.post q .int_mk _) (h.elim (fun q => .of_left (intBits_le_64 q.1 q.2)) fun q => .of_right (intBits_le_64 q.1 q.2))
 | rep z1 z2 h => exact fun q => .strInt fun S => SB.mul h fun t' k => S.post q .str_mk _
 | sub => exact fun q => .ints fun S => sub_int' (S.post q .int_mk _)
 | fdiv z1 z2 h h2 => exact fun q => .ints fun S => floordiv_int h (S.post q .int_mk _) (.inl (PyProof.noPylong_small h2))
 | mod z1 z2 h => exact fun q => .ints fun S => mod_int' h (S.post q .int_mk _)
theorem bin_ok {T:Tp} {d:Nat} {X:QX} {op:Operator} {a b:V} {Q:QE} {σ:Hp} (h:binVC op a b Q σ):BinOk T d X (binaryOp op) a b Q σ:=h.rec fun zz zz r q => r.ok q
end
section
mutual
inductive Deep (σ:Hp):PyData → V → Prop where
 | none:Deep σ .none .none
 | bool (b:Bool):Deep σ (.bool b) (.bool b)
 | int (i:Int):Deep σ (.int i) (.int i)
 | str {s:Str} (h:PyData.strOk s = true):Deep σ (.str s) (.str s)
 | tup {ds:List PyData} {vs:List V} (h:Deeps σ ds vs):Deep σ (.tuple ds) (.tup vs)
 | list {ds:List PyData} {vs:List V} {l:Nat} (e:σ[l]? = some (.list vs)) (h:Deeps σ ds vs):Deep σ (.list ds) (.ref l)
inductive Deeps (σ:Hp):List PyData → List V → Prop where
 | nil:Deeps σ [] []
 | cons {d:PyData} {v:V} {ds:List PyData} {vs:List V} (h:Deep σ d v) (t:Deeps σ ds vs):Deeps σ (d :: ds) (v :: vs)
end
theorem Deep.lay {σ:Hp} {d:PyData} {v:V} (h:Deep σ d v):d.canLay0 = true:=by
 refine Deep.rec (motive_1:=fun d v zz => d.canLay0 = true) (motive_2:=fun ds vs zz => PyData.canLayAll0 ds = true) ?_ ?_ ?_ ?_ ?_ ?_ ?_ ?_ h
 · unfold PyData.canLay0; rfl
 · intro b; unfold PyData.canLay0; rfl
 · intro b; unfold PyData.canLay0; rfl
 · intro s h; unfold PyData.canLay0; exact h
 · intro ds vs h ih; unfold PyData.canLay0; exact ih
 · intro ds vs l e h ih; unfold PyData.canLay0; exact ih
 · unfold PyData.canLayAll0; rfl
 · intro d v ds vs h t ih1 ih2; unfold PyData.canLayAll0; rw [ih1,ih2]; rfl
theorem Deeps.lay {σ:Hp} {ds:List PyData} {vs:List V} (h:Deeps σ ds vs):PyData.canLayAll0 ds = true:=by have:=(Deep.tup h).lay; unfold PyData.canLay0 at this; exact this
section
variable {T:Tp} {ι:Inj} {σ:Hp} {h:Heap}
noncomputable abbrev RdOne (T:Tp) (ι:Inj) (h:Heap) (d:PyData) (v:V):Prop:=∀ {x:Value},VRel T ι h v x → ∃ as,Reads h x d as
noncomputable abbrev RdAll (T:Tp) (ι:Inj) (h:Heap) (ds:List PyData) (vs:List V):Prop:=∀ {xs:List Value},VRels T ι h vs xs → ∃ as,ReadsAll h xs ds as
theorem rd_none:RdOne T ι h .none .none:=fun r => r.none_inv ▸ ⟨_,.none⟩
theorem rd_bool (b:Bool):RdOne T ι h (.bool b) (.bool b):=fun r => r.bool_inv ▸ ⟨_,.bool b⟩
theorem rd_int (i:Int):RdOne T ι h (.int i) (.int i):=fun r => r.int_inv.elim fun t e => e ▸ ⟨_,.int i t⟩
theorem rd_str {s:Str} (zz:PyData.strOk s = true):RdOne T ι h (.str s) (.str s):=fun r => r.str_inv.elim fun t e => e ▸ ⟨_,.str s t⟩
theorem rd_tup {ds:List PyData} {vs:List V} (zz:Deeps σ ds vs) (ih:RdAll T ι h ds vs):RdOne T ι h (.tuple ds) (.tup vs):=fun r => ex3 r.tup_inv fun a items n e => (ih e.2.2).elim fun as ra => e.1 ▸ ⟨as,.tuple e.2.1 rfl rfl ra⟩
theorem rd_list (R:Rep T ι σ h) {ds:List PyData} {vs:List V} {l:Nat} (e1:σ[l]? = some (.list vs)) (zz:Deeps σ ds vs) (ih:RdAll T ι h ds vs):RdOne T ι h (.list ds) (.ref l):=fun r => ex2 r.ref_inv fun a d e => ex2 (R.list_at e1 e.2) fun items n q => (ih q.2).elim fun as ra => e.1 ▸ ⟨a :: as,.list q.1 rfl rfl ra⟩
theorem rd_nil:RdAll T ι h [] []:=fun r => VRels.nil_iff.mp r ▸ ⟨[],.nil⟩
theorem rd_cons {d:PyData} {v:V} {ds:List PyData} {vs:List V} (zz:Deep σ d v) (zz:Deeps σ ds vs) (i1:RdOne T ι h d v) (i2:RdAll T ι h ds vs):RdAll T ι h (d :: ds) (v :: vs):=fun r => ex2 (VRels.cons_iff.mp r) fun x ys e => (i1 e.2.1).elim fun as h1 => (i2 e.2.2).elim fun bs h2 => e.1 ▸ ⟨as ++ bs,.cons h1 h2⟩
theorem Deep.reads (R:Rep T ι σ h) {d:PyData} {v:V} {x:Value} (e:Deep σ d v) (r:VRel T ι h v x):∃ as,Reads h x d as :=
 Deep.rec (motive_1:=fun d v zz => RdOne T ι h d v) (motive_2:=fun ds vs zz => RdAll T ι h ds vs) rd_none rd_bool rd_int rd_str rd_tup (rd_list R) rd_nil rd_cons e r
theorem Deeps.reads (R:Rep T ι σ h) {ds:List PyData} {vs:List V} {xs:List Value} (e:Deeps σ ds vs) (r:VRels T ι h vs xs):∃ as,ReadsAll h xs ds as :=
 Deeps.rec (motive_1:=fun d v zz => RdOne T ι h d v) (motive_2:=fun ds vs zz => RdAll T ι h ds vs) rd_none rd_bool rd_int rd_str rd_tup (rd_list R) rd_nil rd_cons e r
end
end
section
theorem notIn_of {M:Model} {A:Around} {E:Value → Shared → Prop} {s:Shared} {x y:Value} {Q:Value → Shared → Prop} (h:wpAny M A (compareOp .In x y) (fun v s' => ∀ b,v = .bool b → Q (.bool (!b)) s') E s) :
   wpAny M A (compareOp .NotIn x y) Q E s:=fun Γ p hΓ => by
 have h':=h Γ p hΓ
 change Sem.wp M Γ (contains y x >>= fun r => pure (Value.bool r)) _ _ p s at h'
 show Sem.wp M Γ (contains y x >>= fun r => pure (Value.bool !r)) _ _ p s
 rw [Sem.wp_bind'] at h' ⊢
 exact Sem.wp_mono M Γ _ (fun r zz zz q => q r rfl) (fun zz zz zz q => q) _ _ h'
theorem room40 {u d x:Nat} (h:u + 10 * d + 50 ≤ cLine) (hx:x ≤ 40):u + x < cLine:=by lia
theorem room41 {u d x:Nat} (h:u + 10 * d + 50 ≤ cLine) (hx:x ≤ 40):u + 1 + x < cLine:=by lia
noncomputable def isNoneV (vv:V):Option Bool:=vv.casesOn (some true) (fun _ => some false) (fun _ => some false) (fun _ => some false) (fun _ => some false) (fun _ => some false) (fun _ => none) (fun _ _ => none) (fun _ => none) (fun _ => none) (fun _ => none) (fun _ => some false) (fun _ => none) (fun _ _ => none)
noncomputable def isBoolV (b:Bool) (vv:V):Option Bool:=vv.casesOn (some false) (fun c => some (c == b)) (fun _ => some false) (fun _ => some false) (fun _ => some false) (fun _ => some false) (fun _ => none) (fun _ _ => none) (fun _ => none) (fun _ => none) (fun _ => none) (fun _ => some false) (fun _ => none) (fun _ _ => none)
noncomputable def strIn (x y:Str):Bool:=!(Builtin.Str.occurrences y x 0 y.length 1).isEmpty
inductive InR (σ:Hp):V → V → Bool → Prop where
 | str (x y:Str):InR σ (.str x) (.str y) (strIn x y)
 | list (a:V) (l:Nat) (vs:List V) (ds:List PyData) (d:PyData) (h:σ[l]? = some (.list vs)) (h1:Deeps σ ds vs) (h2:Deep σ d a) (h3:PyData.depthAll ds ≤ 40):InR σ a (.ref l) (ds.any fun y => PyData.eqv y d)
 | dict (k:Str) (l:Nat) (kvs:List (Str × V)) (h:σ[l]? = some (.sdict kvs)):InR σ (.str k) (.ref l) (kvs.any fun kv => kv.1 = k)
 | tdict (k:Str × Int) (l:Nat) (kvs:List ((Str × Int) × V)) (h:σ[l]? = some (.tdict kvs)):InR σ (.tup [.str k.1,.int k.2]) (.ref l) (kvs.any fun kv => kv.1 = k)
inductive CmpR (σ:Hp):CmpOp → V → V → Bool → Prop where
 | lt (x y:Int):CmpR σ .Lt (.int x) (.int y) (decide (x < y))
 | le (x y:Int):CmpR σ .LtE (.int x) (.int y) (decide (x ≤ y))
 | gt (x y:Int):CmpR σ .Gt (.int x) (.int y) (decide (y < x))
 | ge (x y:Int):CmpR σ .GtE (.int x) (.int y) (decide (y ≤ x))
 | eqi (x y:Int):CmpR σ .Eq (.int x) (.int y) (x == y)
 | nei (x y:Int):CmpR σ .NotEq (.int x) (.int y) (x != y)
 | eqs (x y:Str):CmpR σ .Eq (.str x) (.str y) (x == y)
 | nes (x y:Str):CmpR σ .NotEq (.str x) (.str y) (x != y)
 | eq (a b:V) (da db:PyData) (h1:Deep σ da a) (h2:Deep σ db b) (h3:da.depth ≤ 40):CmpR σ .Eq a b (PyData.eqv da db)
 | ne (a b:V) (da db:PyData) (h1:Deep σ da a) (h2:Deep σ db b) (h3:da.depth ≤ 40):CmpR σ .NotEq a b (!PyData.eqv da db)
 | isN (a:V) (r:Bool) (h:isNoneV a = some r):CmpR σ .Is a .none r
 | notN (a:V) (r:Bool) (h:isNoneV a = some r):CmpR σ .IsNot a .none (!r)
 | isB (a:V) (c r:Bool) (h:isBoolV c a = some r):CmpR σ .Is a (.bool c) r
 | notB (a:V) (c r:Bool) (h:isBoolV c a = some r):CmpR σ .IsNot a (.bool c) (!r)
 | isin (a b:V) (r:Bool) (h:InR σ a b r):CmpR σ .In a b r
 | nin (a b:V) (r:Bool) (h:InR σ a b r):CmpR σ .NotIn a b (!r)
 | own (op:CmpOp) (a b:V) (r:Bool) (h:∀ {T:Tp} {d:Nat} {X:QX} {Q:QE},Q (.bool r) σ → BinOk T d X (compareOp op) a b Q σ):CmpR σ op a b r
inductive cmpVC (op:CmpOp) (a b:V) (Q:QE) (σ:Hp):Prop where
 | mk (r:Bool) (c:CmpR σ op a b r) (q:Q (.bool r) σ):cmpVC op a b Q σ
section
variable {T:Tp} {A:Around} {fs:List Env} {d:Nat} {ι:Inj} {σ:Hp} {s:Shared}
theorem is_none {a:V} {x:Value} {h:Heap} {r:Bool} (e:isNoneV a = some r) (v:VRel T ι h a x):plainIs x .none = true ∧ (x == .none) = r:=by
 cases a <;> first | (cases (show (Option.none:Option Bool) = some r from e); done) | (obtain rfl:=Zab (show some _ = some r from e))
 · cases v.none_inv; exact ⟨rfl,rfl⟩
 · cases v.bool_inv; exact ⟨rfl,rfl⟩
 · obtain ⟨t,rfl⟩:=v.int_inv; exact ⟨rfl,rfl⟩
 · obtain ⟨t,rfl⟩:=v.str_inv; exact ⟨rfl,rfl⟩
 · obtain ⟨a,zz,zz,rfl,zz⟩:=v.tup_inv; exact ⟨rfl,rfl⟩
 · obtain ⟨a,zz,rfl,zz⟩:=v.ref_inv; exact ⟨rfl,rfl⟩
 · obtain ⟨a,zz,zz,rfl,zz⟩:=v; exact ⟨rfl,rfl⟩
set_option tactic.hygienic true in
theorem is_bool {a:V} {x:Value} {h:Heap} {b r:Bool} (e:isBoolV b a = some r) (v:VRel T ι h a x):plainIs x (.bool b) = true ∧ (x == .bool b) = r:=by
 cases a <;> first | (cases (show (Option.none:Option Bool) = some r from e); done) | (obtain rfl:=Zab (show some _ = some r from e))
 · cases v.none_inv; exact ⟨rfl,rfl⟩
 · cases v.bool_inv; refine ⟨rfl,?_⟩; rename_i c; cases b <;> cases c <;> rfl
 · obtain ⟨t,rfl⟩:=v.int_inv; exact ⟨rfl,rfl⟩
 · obtain ⟨t,rfl⟩:=v.str_inv; exact ⟨rfl,rfl⟩
 · obtain ⟨a,zz,zz,rfl,zz⟩:=v.tup_inv; exact ⟨rfl,rfl⟩
 · obtain ⟨a,zz,rfl,zz⟩:=v.ref_inv; exact ⟨rfl,rfl⟩
 · obtain ⟨a,zz,zz,rfl,zz⟩:=v; exact ⟨rfl,rfl⟩
theorem KVRel.isSome {h:Heap} {kvs:List (Str × V)} {rvs:List (Str × Value)} {k:Str} (e:KVRel T ι h kvs rvs):(valueAt rvs k).isSome = kvs.any fun kv => kv.1 = k:=e.find.isSome.trans find_some
theorem TKRel.isSome {h:Heap} {kvs:List ((Str × Int) × V)} {xs:List ((Str × Int) × Addr × Value)} {k:Str × Int} (e:TKRel T ι h kvs xs):(atKey xs k).isSome = kvs.any fun kv => kv.1 = k:=e.find.isSome.trans find_some
theorem VRels.two {h:Heap} {v w:V} {xs:List Value} (e:VRels T ι h [v,w] xs):∃ x y,xs = [x,y] ∧ VRel T ι h v x ∧ VRel T ι h w y:=by
 obtain ⟨x,r,rfl,h1,h2⟩:=VRels.cons_iff.mp e
 obtain ⟨y,r,rfl,h3,h4⟩:=VRels.cons_iff.mp h2
 cases VRels.nil_iff.mp h4
 exact ⟨x,y,rfl,h1,h3⟩
theorem VRel.pair {h:Heap} {k:Str × Int} {v:Value} (e:VRel T ι h (.tup [.str k.1,.int k.2]) v):∃ a,v = .ref a ∧ IsPair h k a:=by
 obtain ⟨a,⟨xs⟩,n,e1,ht,hv⟩:=e.tup_inv
 obtain ⟨x,y,e2,⟨t,e3⟩,⟨u,e4⟩⟩:=hv.two
 cases e2; cases e3; cases e4
 exact ⟨a,e1,_,t,u,n,ht,rfl,rfl⟩
theorem Rep.tdict_at {h:Heap} (r:Rep T ι σ h) {l:Nat} {kvs:List ((Str × Int) × V)} {a d:Addr} (e:σ[l]? = some (.tdict kvs)) (q:ι[l]? = some (a,d)) :
   ∃ xs,h.DictOfH (pairKind T.prog T.w) a xs ∧ TKRel T ι h kvs xs ∧ (a == sysModules) = false:=by
 obtain ⟨zz,rvs,hd,hv⟩:=r.objs l _ _ e q
 refine ⟨rvs,hd,hv,?_⟩
 have h1:=(r.fresh _ (Zn q)).1
 have h2:=r.big
 simp only [beq_eq_false_iff_ne,ne_eq]
 intro hq
 have:(sysModules:Nat) = 1:=rfl
 rw [hq] at h1
 have h3:T.b0.objs.size ≤ 1:=h1
 (clear h1 e q; lia)
theorem Rep.sdict_at {h:Heap} (r:Rep T ι σ h) {l:Nat} {kvs:List (Str × V)} {a d:Addr} (e:σ[l]? = some (.sdict kvs)) (q:ι[l]? = some (a,d)) :
   ∃ rvs,h.DictOf (strKind T.prog T.w) a rvs ∧ KVRel T ι h kvs rvs ∧ (a == sysModules) = false:=by
 obtain ⟨zz,rvs,hd,hv⟩:=r.objs l _ _ e q
 refine ⟨rvs,hd,hv,?_⟩
 have h1:=(r.fresh _ (Zn q)).1
 have h2:=r.big
 simp only [beq_eq_false_iff_ne,ne_eq]
 intro hq
 have:(sysModules:Nat) = 1:=rfl
 rw [hq] at h1
 have h3:T.b0.objs.size ≤ 1:=h1
 (clear h1 e q; lia)
end
theorem BinOk.eqR {T:Tp} {d:Nat} {X:QX} {t:Value → Value → Sem Value} {a b:V} {da db:PyData} {Q:QE} {σ:Hp} (h1:Deep σ da a) (h2:Deep σ db b) (h3:da.depth ≤ 40)
   (k:∀ {A fs ι s x y as bs},St T A fs d ι σ s → Reads s.heap x da as → Reads s.heap y db bs → A.units + min da.depth db.depth < cLine → wpAny (model T.prog T.w) A (t x y) (PostE T [] Q ι s.heap) (PostX T [] X ι s.heap) s):BinOk T d X t a b Q σ :=
 fun A zz zz zz zz zz S hx hy => Zh (h1.reads S.rep hx) fun zz ra => Zh (h2.reads S.rep hy) fun zz rb => k S ra rb (room40 S.aok.units (Za (Nat.min_le_left ..) h3))
theorem in_list_ok {T:Tp} {d:Nat} {X:QX} {a:V} {l:Nat} {vs:List V} {ds:List PyData} {dd:PyData} {Q:QE} {σ:Hp} (h:σ[l]? = some (.list vs)) (h1:Deeps σ ds vs) (h2:Deep σ dd a) (h3:PyData.depthAll ds ≤ 40) (q:Q (.bool (ds.any fun y => PyData.eqv y dd)) σ) :
   BinOk T d X (compareOp .In) a (.ref l) Q σ :=
 fun A zz zz zz zz zz S hx hy => Zh hy fun zz hy => Zh hy fun zz hy => hy.1 ▸ Zh (S.rep.list_at h hy.2) fun zz l1 => Zh l1 fun zz l1 => Zh (h1.reads S.rep l1.2) fun zz ra => Zh (h2.reads S.rep hx) fun zz rx =>
   in_list_reads (.list l1.1 rfl rfl ra) rx h1.lay h2.lay (room41 S.aok.units (Za (Nat.min_le_left ..) h3)) (S.post0 (v:=.bool _) q .bool_mk)
theorem in_dict_ok {T:Tp} {d:Nat} {X:QX} {k:Str} {l:Nat} {kvs:List (Str × V)} {Q:QE} {σ:Hp} (h:σ[l]? = some (.sdict kvs)) (q:Q (.bool (kvs.any fun kv => kv.1 = k)) σ):BinOk T d X (compareOp .In) (.str k) (.ref l) Q σ :=
 fun A zz zz zz zz zz S hx hy => Zh hx fun zz hx => Zh hy fun zz hy => Zh hy fun zz hy => hx ▸ hy.1 ▸ Zh (S.rep.sdict_at h hy.2) fun zz hd =>
   wpAny_in_of (knd:=strKind T.prog T.w) (k:=k) (by simp [PySem.strKind,Value.isStrOf]) hd.2.2 hd.1.mapOf (S.post (hd.2.1.isSome ▸ q) .bool_mk _)
theorem in_tdict_ok {T:Tp} {d:Nat} {X:QX} {k:Str × Int} {l:Nat} {kvs:List ((Str × Int) × V)} {Q:QE} {σ:Hp} (h:σ[l]? = some (.tdict kvs)) (q:Q (.bool (kvs.any fun kv => kv.1 = k)) σ):BinOk T d X (compareOp .In) (.tup [.str k.1,.int k.2]) (.ref l) Q σ :=
 fun A zz zz zz zz zz S hx hy => Zh hx.pair fun zz hx => Zh hy fun zz hy => Zh hy fun zz hy => hx.1 ▸ hy.1 ▸ Zh (S.rep.tdict_at h hy.2) fun zz hd =>
   wpAny_in_heap (knd:=pairKind T.prog T.w) (k:=k) (show A.units + 1 < cLine from room41 (x:=0) S.aok.units (by decide)) hx.2 hd.2.2 hd.1 (S.post (hd.2.1.isSome ▸ q) .bool_mk _)
theorem BinOk.nin {T:Tp} {d:Nat} {X:QX} {a b:V} {r:Bool} {Q:QE} {σ:Hp} (q:Q (.bool (!r)) σ) (h:BinOk T d X (compareOp .In) a b (fun v σ' => v = .bool r ∧ σ' = σ) σ):BinOk T d X (compareOp .NotIn) a b Q σ :=
 fun A fs ι s x y S hx hy => notIn_of (Zib (h A fs ι s x y S hx hy) (fun v s' p b e => by
   obtain ⟨v,σ',ι',h0,h1,h2,h3,h4,h5⟩:=p
   cases h0.1; cases h0.2; cases e
   cases VRel.bool_inv h1
   exact ⟨_,_,_,q,.bool_mk,h2,h3,h4,h5⟩) fun zz zz p => p)
theorem InR.ok {T:Tp} {d:Nat} {X:QX} {σ:Hp} {a b:V} {r:Bool} (c:InR σ a b r):∀ {Q:QE},Q (.bool r) σ → BinOk T d X (compareOp .In) a b Q σ:=by
 induction c with
 | str => exact fun q => .strs fun S => in_str (S.post0 q .bool_mk)
 | list z1 z2 z3 z4 z5 h h1 h2 h3 => exact fun q => in_list_ok h h1 h2 h3 q
 | dict z1 z2 z3 h => exact fun q => in_dict_ok h q
 | tdict z1 z2 z3 h => exact fun q => in_tdict_ok h q
theorem CmpR.ok {T:Tp} {d:Nat} {X:QX} {σ:Hp} {op:CmpOp} {a b:V} {r:Bool} (c:CmpR σ op a b r):∀ {Q:QE},Q (.bool r) σ → BinOk T d X (compareOp op) a b Q σ:=by
 induction c with
 | lt => exact fun q => .ints fun S => lt_int (S.post0 q .bool_mk)
 | le => exact fun q => .ints fun S => le_int (S.post0 q .bool_mk)
 | gt => exact fun q => .ints fun S => gt_int (S.post0 q .bool_mk)
 | ge => exact fun q => .ints fun S => ge_int (S.post0 q .bool_mk)
 | eqi => exact fun q => .ints fun S => PyProof.Rows.eq_int (S.post0 q .bool_mk)
 | nei => exact fun q => .ints fun S => ne_int (S.post0 q .bool_mk)
 | eqs => exact fun q => .strs fun S => PyProof.Rows.eq_str (S.post0 q .bool_mk)
 | nes => exact fun q => .strs fun S => ne_str (S.post0 q .bool_mk)
 | eq z1 z2 z3 z4 h1 h2 h3 => exact fun q => .eqR h1 h2 h3 fun S ra rb hr => compareEq_reads ra rb h1.lay h2.lay hr (S.post0 q .bool_mk)
 | ne z1 z2 z3 z4 h1 h2 h3 => exact fun q => .eqR h1 h2 h3 fun S ra rb hr => compareNe_reads ra rb h1.lay h2.lay hr (S.post0 q .bool_mk)
 | isN z1 z2 e => exact fun q zz zz zz zz zz zz S hx hy => hy.none_inv ▸ wpAny_is_plain (is_none e hx).1 (S.post0 ((is_none e hx).2 ▸ q) .bool_mk)
 | notN z1 z2 e => exact fun q zz zz zz zz zz zz S hx hy => hy.none_inv ▸ wpAny_isNot_plain (is_none e hx).1 (S.post0 ((is_none e hx).2 ▸ q) .bool_mk)
 | isB z1 z2 z3 e => exact fun q zz zz zz zz zz zz S hx hy => hy.bool_inv ▸ wpAny_is_plain (is_bool e hx).1 (S.post0 ((is_bool e hx).2 ▸ q) .bool_mk)
 | notB z1 z2 z3 e => exact fun q zz zz zz zz zz zz S hx hy => hy.bool_inv ▸ wpAny_isNot_plain (is_bool e hx).1 (S.post0 ((is_bool e hx).2 ▸ q) .bool_mk)
 | isin z1 z2 z3 h => exact fun q => h.ok q
 | nin z1 z2 z3 h => exact fun q => .nin q (h.ok ⟨rfl,rfl⟩)
 | own z1 z2 z3 z4 h => exact fun q => h q
theorem cmp_ok {T:Tp} {d:Nat} {X:QX} {op:CmpOp} {a b:V} {Q:QE} {σ:Hp} (h:cmpVC op a b Q σ):BinOk T d X (compareOp op) a b Q σ:=h.rec fun zz c q => c.ok q
end
section
structure TopOk (T:Tp):Prop where
 X0:T.K.In T.b0
 lim:T.b0.NoLimit
 own:∀ x C bmB newId,PySem.W.nsIn T.K mainGlobals x = some (some (.ref C)) → PySem.W.excIn T.K C bmB newId = true → ∃ mg,PyProof.Rows.OwnCls x C bmB newId mg T.b0
 gl:∀ x v,T.gv x = some v → ∃ V mg mb,T.b0.Ns mainGlobals mg ∧ T.b0.Ns builtinsNs mb ∧ (mg x = some V ∨ (mg x = none ∧ mb x = some V)) ∧ VRel T [] T.b0 v V
noncomputable def isVar (sc:Scope) (x:Str):Bool:=match sc.names.lookup x with
 | some .local | some .cell | some .free => true
 | z1 => false
theorem isVar_out {sc:Scope} {x:Str} (h:isVar sc x = true):sc.names.lookup x = some .local ∨ sc.names.lookup x = some .cell ∨ sc.names.lookup x = some .free:=by
 unfold isVar at h
 generalize sc.names.lookup x = o at h ⊢
 rcases o with zz | k
 · exact (Zv h).elim
 · cases k <;> first | exact .inl rfl | exact .inr (.inl rfl) | exact .inr (.inr rfl) | exact (Zv h).elim
noncomputable def scOk (sc:Scope):Bool:=sc.names.all fun p => !(p.1 == ("__debug__" : Str)) && !(p.1 == ("__classdict__" : Str))
theorem not_debug {sc:Scope} {x:Str} {k:NameKind} (h:scOk sc = true) (e:sc.names.lookup x = some k):(x == ("__debug__" : Str)) = false ∧ (x == ("__classdict__" : Str)) = false:=by
 unfold scOk at h
 have:∀ l:List (Str × NameKind),(l.all fun p => !(p.1 == ("__debug__" : Str)) && !(p.1 == ("__classdict__" : Str))) = true → l.lookup x = some k → (x == ("__debug__" : Str)) = false ∧ (x == ("__classdict__" : Str)) = false:=by
   intro l
   induction l with
   | nil => intro zz e; cases e
   | cons p r ih =>
     intro h e
     simp only [List.all_cons,Zob,Bool.not_eq_true'] at h
     rw [List.lookup_cons] at e
     by_cases q:(x == p.1) = true
     · rw [beq_iff_eq.mp q]; exact h.1
     · rw [Bool.not_eq_true] at q; rw [q] at e
       exact ih (by simpa using h.2) e
 exact this _ h e
noncomputable def noStar (es:List Expr):Bool:=es.all fun e => e.ctorIdx != 22
theorem starEach_one {env:Env} {e:Expr} {r:List Expr} (h:(e.ctorIdx != 22) = true):starEach (e :: r) env = (false,eval e env) :: starEach r env:=by
 cases e <;> first | rfl | cases h
theorem starEach_eq {env:Env} {pos:Pos} {es:List Expr} (h:noStar es = true):backTo pos (starEach es env) = es.map fun e => (false,eval e env):=by
 induction es with
 | nil => rfl
 | cons e r ih =>
   have h:=Bool.and_eq_true_iff.mp h
   rw [starEach_one h.1]
   exact congrArg (_ :: ·) (ih h.2)
section
variable {T:Tp} {d:Nat} {sc:Scope} {ρ:Loc} {X:QX} {Q:QE} {σ:Hp}
theorem EvOk.mono {e:Expr} {Q':QE} {X':QX} (h:EvOk T d sc ρ X e Q σ) (k:∀ v σ,Q v σ → Q' v σ) (kx:∀ c σ,X c σ → X' c σ):EvOk T d sc ρ X' e Q' σ :=
 fun env A fs F ι s hsc I => Zib (h env A fs F ι s hsc I) (fun zz zz p => p.mono k) fun zz zz p => p.mono kx
theorem EvOk.none {k pos} (h:Q .none σ):EvOk T d sc ρ X (.Constant .none k pos) Q σ:=fun zz zz zz zz zz zz zz I => wpAny_Constant_none (I.st.post0 h .none_mk)
theorem EvOk.bool {b k pos} (h:Q (.bool b) σ):EvOk T d sc ρ X (.Constant (.bool b) k pos) Q σ:=fun zz zz zz zz zz zz zz I => wpAny_Constant_bool (I.st.post0 h .bool_mk)
theorem EvOk.int {i k pos} (h:Q (.int i) σ):EvOk T d sc ρ X (.Constant (.int i) k pos) Q σ:=fun zz zz zz zz zz zz zz I => wpAny_Constant_int (I.st.post h .int_mk _)
theorem EvOk.str {i k pos} (h:Q (.str i) σ):EvOk T d sc ρ X (.Constant (.str i) k pos) Q σ:=fun zz zz zz zz zz zz zz I => wpAny_Constant_str (I.st.post h .str_mk _)
theorem OptR.at {α β:Type} {R:α → β → Prop} {x:Option α} {y:Option β} (h:OptR R x y):∀ {a:α},x = Option.some a → ∃ b,y = Option.some b ∧ R a b:=h.rec (fun e => (by cases e)) fun h e => ⟨_,rfl,Zab e ▸ h⟩
theorem EvOk.local {x:Str} {pos:Pos} {v:V} (h:Q v σ) (hv:ρ x = some v) (hk:sc.names.lookup x = some .local) (ho:scOk sc = true):EvOk T d sc ρ X (.Name x pos) Q σ:=by
 intro env A fs F ι s hsc I
 obtain ⟨c,m,zz,hn,hr⟩:=I.frm.ns
 have hk':env.kindOf x = some .local:=(congrArg (fun z => z.names.lookup x) hsc).trans hk
 obtain ⟨y,hm,r⟩:=(hr x hk').at hv
 exact wpAny_Name (wpAny_loadName_local I.frm.kind hk' hn.ns hm (I.st.post0 h r)) (not_debug ho hk).1
theorem EvOk.cell {x:Str} {pos:Pos} {v:V} {k:NameKind} (h:Q v σ) (hv:ρ x = some v) (hk:sc.names.lookup x = some k) (hk':k = .cell ∨ k = .free) (ho:scOk sc = true):EvOk T d sc ρ X (.Name x pos) Q σ:=by
 intro env A fs F ι s hsc I
 have hkk:env.kindOf x = some k:=(congrArg (fun z => z.names.lookup x) hsc).trans hk
 obtain ⟨c,o,y,e1,e2,zz,e4,r,zz⟩:=I.frm.cells x (hk'.imp (fun e => hkk.trans (congrArg some e)) fun e => hkk.trans (congrArg some e))
 obtain ⟨y,e,r⟩:=r.at hv
 have hc:s.heap.IsCell c (some y):=⟨o,e2,e ▸ e4⟩
 refine wpAny_Name ?_ (not_debug ho hk).1
 rcases hk' with e | e
 · exact wpAny_loadName_cell I.frm.kind (e ▸ hkk) e1 hc (I.st.post0 h r)
 · exact wpAny_loadName_free I.frm.kind (e ▸ hkk) e1 hc (I.st.post0 h r) (not_debug ho hk).2
theorem EvOk.var {x:Str} {pos:Pos} {v:V} (h:Q v σ) (hv:ρ x = some v) (hk:isVar sc x = true) (ho:scOk sc = true):EvOk T d sc ρ X (.Name x pos) Q σ :=
 (isVar_out hk).elim (fun e => .local h hv e ho) fun e => e.elim (fun e => .cell h hv e (.inl rfl) ho) fun e => .cell h hv e (.inr rfl) ho
theorem VRel.up {ι:Inj} {h:Heap} {v:V} {x:Value} (R:Rep T ι σ h) (r:VRel T [] T.b0 v x):VRel T ι h v x :=
 r.mono ⟨⟨ι,rfl⟩,fun zz o e zz => ⟨o,R.base _ _ e,rfl⟩,fun zz zz e zz => R.base _ _ e⟩
theorem EvOk.glob {x:Str} {pos:Pos} {v:V} (TO:TopOk T) (h:Q v σ) (hv:T.gv x = some v) (hk:sc.names.lookup x = some .globalImplicit) (ho:scOk sc = true):EvOk T d sc ρ X (.Name x pos) Q σ:=by
 intro env A fs F ι s hsc I
 subst hsc
 obtain ⟨V,mg,mb,n1,n2,hm,r⟩:=TO.gl x v hv
 have N1:=n1.keeps I.rep.base
 have N2:=n2.keeps I.rep.base
 have p:=I.st.post0 (F:=[]) h (r.up I.rep)
 refine Name_function_global I.frm.kind hk ?_ (not_debug ho hk).1
 rw [← I.frm.glb] at N1
 rw [← I.frm.blt] at N2
 rcases hm with hm | ⟨hm,hb⟩
 · exact loadGlobal_global N1 hm p
 · exact loadGlobal_builtin N1 hm N2 hb p
theorem EvOk.two {l r:Expr} {t:Value → Value → Sem Value} {P:V → V → Hp → Prop} {env:Env} {A:Around} {fs:List Env} {F:List Addr} {ι:Inj} {s:Shared} (hk:∀ {a b σ},P a b σ → BinOk T d X t a b Q σ)
   (h:EvOk T d sc ρ X l (fun a σ₁ => EvOk T d sc ρ X r (fun b σ₂ => P a b σ₂) σ₁) σ) (hsc:env.scope = sc) (I:Inv T A fs d env F ρ ι σ s) :
   wpAny (model T.prog T.w) A (eval l env) (fun x s₁ => wpAny (model T.prog T.w) A (eval r env) (fun y s₂ => wpAny (model T.prog T.w) A (t x y) (PostE T [] Q ι s.heap) (PostX T [] X ι s.heap) s₂) (PostX T [] X ι s.heap) s₁) (PostX T [] X ι s.heap) s:=by
 refine Zib (h env A fs F ι s hsc I) (fun x s₁ p => ?_) fun zz zz p => p
 obtain ⟨v,σ₁,ι₁,q,rv,rp,ex,g,o⟩:=p
 have I₁:=I.ext ex rp g o
 refine Zib (q env A fs F ι₁ s₁ hsc I₁) (fun y s₂ p => ?_) fun zz zz p => p.trans ex
 obtain ⟨v₂,σ₂,ι₂,q₂,rv₂,rp₂,ex₂,g₂,o₂⟩:=p
 exact Zib (hk q₂ A fs ι₂ s₂ x y (I₁.ext ex₂ rp₂ g₂ o₂).st (rv.mono ex₂.mono) rv₂) (fun zz zz p => p.trans (ex.trans ex₂)) fun zz zz p => p.trans (ex.trans ex₂)
theorem EvOk.bin {l r:Expr} {op:Operator} {pos:Pos} (h:EvOk T d sc ρ X l (fun a σ₁ => EvOk T d sc ρ X r (fun b σ₂ => binVC op a b Q σ₂) σ₁) σ):EvOk T d sc ρ X (.BinOp l op r pos) Q σ :=
 fun zz zz zz zz zz zz hsc I => wpAny_BinOp (EvOk.two bin_ok h hsc I)
theorem EvOk.cmp {l r:Expr} {op:CmpOp} {pos:Pos} (h:EvOk T d sc ρ X l (fun a σ₁ => EvOk T d sc ρ X r (fun b σ₂ => cmpVC op a b Q σ₂) σ₁) σ) (hm:behindInMarks op r = false):EvOk T d sc ρ X (.Compare l [op] [r] pos) Q σ :=
 fun zz zz zz zz zz zz hsc I => wpAny_Compare1 (EvOk.two cmp_ok h hsc I) hm
noncomputable def truthV (v:V) (σ:Hp):Option Bool:=match v with
 | .bool b => some b
 | .none => some false
 | .int i => some (i != 0)
 | .ref l => atL (fun vs => if vs.length < 1000000000 then some (!vs.isEmpty) else none) σ[l]?
 | z1 => none
theorem truth_ok {A:Around} {fs:List Env} {ι:Inj} {s:Shared} {v:V} {x:Value} {b:Bool} {Q:Bool → Hp → Prop} (S:St T A fs d ι σ s) (r:VRel T ι s.heap v x) (e:truthV v σ = some b) (q:Q b σ) :
   wpAny (model T.prog T.w) A (truthy x) (PostB T Q ι s.heap) (PostX T [] X ι s.heap) s:=by
 have fin:∀ t,PostB T Q ι s.heap b { s with toks:=t }:=fun t => ⟨σ,ι,q,S.rep,.refl ..,S.gens,S.os⟩
 cases v <;> first | exact (no_some e).elim | skip
 · cases r.none_inv; cases sm_inj e; exact Zjb (fin s.toks)
 · cases r.bool_inv; cases sm_inj e; exact wpAny_truthy_bool (fin s.toks)
 · obtain ⟨t,rfl⟩:=r.int_inv; cases sm_inj e; exact P.truthy_int (fin s.toks)
 · obtain ⟨a,d',rfl,hl⟩:=r.ref_inv
   obtain ⟨vs,hvs,e⟩:=atL_out e
   · split at e
     · rename_i hlt
       simp only [Option.some.injEq] at e
       obtain ⟨items,n,hL,hv⟩:=S.rep.list_at hvs hl
       have hlen:=hv.length
       simp only [Array.length_toList] at hlen
       refine wpAny_truthy_list hL.isList (by (clear hvs fin hl; lia)) ?_
       have:(!items.isEmpty) = b:=by
         rw [← e]; congr 1
         rw [Bool.eq_iff_iff,Array.isEmpty_iff_size_eq_zero,List.isEmpty_iff_length_eq_zero,hlen]
       rw [this]; exact fin _
     · cases e
end
end
section
section
variable {T:Tp} {d:Nat} {sc:Scope} {ρ:Loc} {X:QX} {Q:QE} {B:Bool → Hp → Prop} {σ:Hp}
theorem TsOk.cmp {l r:Expr} {op:CmpOp} {pos:Pos} (h:EvOk T d sc ρ X l (fun a σ₁ => EvOk T d sc ρ X r (fun b σ₂ => cmpVC op a b (fun v σ₃ => ∃ c,v = .bool c ∧ B c σ₃) σ₂) σ₁) σ) (hm:behindInMarks op r = false):TsOk T d sc ρ X (.Compare l [op] [r] pos) B σ:=by
 intro env A fs F ι s hsc I
 refine wpAny_isTrue_Compare1 (Zib (h env A fs F ι s hsc I) (fun x s₁ p => ?_) fun zz zz p => p) hm
 obtain ⟨v,σ₁,ι₁,q,rv,rp,ex,g,o⟩:=p
 have I₁:=I.ext ex rp g o
 refine Zib (q env A fs F ι₁ s₁ hsc I₁) (fun y s₂ p => ?_) fun zz zz p => p.trans ex
 obtain ⟨v₂,σ₂,ι₂,q₂,rv₂,rp₂,ex₂,g₂,o₂⟩:=p
 have I₂:=I₁.ext ex₂ rp₂ g₂ o₂
 refine Zib (cmp_ok q₂ A fs ι₂ s₂ x y I₂.st (rv.mono ex₂.mono) rv₂) (fun z s₃ p => ?_) fun zz zz p => p.trans (ex.trans ex₂)
 obtain ⟨v₃,σ₃,ι₃,⟨c,rfl,q₃⟩,rv₃,rp₃,ex₃,g₃,o₃⟩:=p
 cases rv₃.bool_inv
 exact wpAny_truthy_bool ⟨σ₃,ι₃,q₃,rp₃,(ex.trans ex₂).trans ex₃,g₃,o₃⟩
theorem TsOk.not {x:Expr} {pos:Pos} (h:TsOk T d sc ρ X x (fun b σ₁ => B (!b) σ₁) σ):TsOk T d sc ρ X (.UnaryOp .Not x pos) B σ:=by
 intro env A fs F ι s hsc I
 exact wpAny_isTrue_Not (Zib (h env A fs F ι s hsc I) (fun b s₁ p => by obtain ⟨σ₁,ι₁,q,rp,ex,g,o⟩:=p; exact ⟨σ₁,ι₁,q,rp,ex,g,o⟩) fun zz zz p => p)
noncomputable def AllOk (T:Tp) (d:Nat) (sc:Scope) (ρ:Loc) (X:QX) (op:BoolOp) (es:List Expr) (B:Bool → Hp → Prop) (σ:Hp):Prop :=
 ∀ env A fs F ι s,env.scope = sc → Inv T A fs d env F ρ ι σ s → wpAny (model T.prog T.w) A (allTrue op es env) (PostB T B ι s.heap) (PostX T [] X ι s.heap) s
theorem TsOk.bool {op:BoolOp} {es:List Expr} {pos:Pos} (h:AllOk T d sc ρ X op es B σ):TsOk T d sc ρ X (.BoolOp op es pos) B σ :=
 fun env A fs F ι s hsc I => wpAny_isTrue_BoolOp (h env A fs F ι s hsc I)
theorem PostB.here {A:Around} {fs:List Env} {ι:Inj} {s:Shared} {b:Bool} (S:St T A fs d ι σ s) (q:B b σ):PostB T B ι s.heap b s:=⟨σ,ι,q,S.rep,.refl ..,S.gens,S.os⟩
theorem AllOk.and_nil (q:B true σ):AllOk T d sc ρ X .And [] B σ:=fun zz zz zz zz zz zz zz I => wpAny_allTrue_And_nil (.here I.st q)
theorem AllOk.or_nil (q:B false σ):AllOk T d sc ρ X .Or [] B σ:=fun zz zz zz zz zz zz zz I => wpAny_allTrue_Or_nil (.here I.st q)
theorem AllOk.and_cons {x:Expr} {r:List Expr} (h:TsOk T d sc ρ X x (fun b σ₁ => if b then AllOk T d sc ρ X .And r B σ₁ else B false σ₁) σ):AllOk T d sc ρ X .And (x :: r) B σ:=by
 intro env A fs F ι s hsc I
 refine wpAny_allTrue_And_cons (Zib (h env A fs F ι s hsc I) (fun b s₁ p => ?_) fun zz zz p => p)
 obtain ⟨σ₁,ι₁,q,rp,ex,g,o⟩:=p
 cases b
 · exact ⟨σ₁,ι₁,q,rp,ex,g,o⟩
 · exact Zib (q env A fs F ι₁ s₁ hsc (I.ext ex rp g o)) (fun zz zz p => p.trans ex) fun zz zz p => p.trans ex
theorem AllOk.or_cons {x:Expr} {r:List Expr} (h:TsOk T d sc ρ X x (fun b σ₁ => if b then B true σ₁ else AllOk T d sc ρ X .Or r B σ₁) σ):AllOk T d sc ρ X .Or (x :: r) B σ:=by
 intro env A fs F ι s hsc I
 refine wpAny_allTrue_Or_cons (Zib (h env A fs F ι s hsc I) (fun b s₁ p => ?_) fun zz zz p => p)
 obtain ⟨σ₁,ι₁,q,rp,ex,g,o⟩:=p
 cases b
 · exact Zib (q env A fs F ι₁ s₁ hsc (I.ext ex rp g o)) (fun zz zz p => p.trans ex) fun zz zz p => p.trans ex
 · exact ⟨σ₁,ι₁,q,rp,ex,g,o⟩
noncomputable def plainTest (e:Expr):Bool:=!(Nat.beq e.ctorIdx 0 || Nat.beq e.ctorIdx 3 || Nat.beq e.ctorIdx 5 || Nat.beq e.ctorIdx 15)
theorem TsOk.val {e:Expr} (h:EvOk T d sc ρ X e (fun v σ₁ => ∃ b,truthV v σ₁ = some b ∧ B b σ₁) σ) (hp:plainTest e = true):TsOk T d sc ρ X e B σ:=by
 intro env A fs F ι s hsc I
 refine wpAny_isTrue_value (Zib (h env A fs F ι s hsc I) (fun x s₁ p => ?_) fun zz zz p => p) ?_
 · obtain ⟨v,σ₁,ι₁,⟨b,e1,q⟩,rv,rp,ex,g,o⟩:=p
   exact Zib (truth_ok (I.ext ex rp g o).st rv e1 q) (fun zz zz p => p.trans ex) fun zz zz p => p.trans ex
 · cases e <;> first | rfl | exact (Zv hp).elim
theorem TsOk.cmp2 {l m r:Expr} {op1 op2:CmpOp} {pos:Pos} (h:EvOk T d sc ρ X l (fun a σ₁ => EvOk T d sc ρ X m (fun b σ₂ => cmpVC op1 a b (fun v σ₃ => ∃ c,v = .bool c ∧ (if c then EvOk T d sc ρ X r (fun w σ₄ => cmpVC op2 b w (fun v σ₅ => ∃ c,v = .bool c ∧ B c σ₅) σ₄) σ₃ else B false σ₃)) σ₂) σ₁) σ)
   (hm:behindInMarks op2 r = false):TsOk T d sc ρ X (.Compare l [op1,op2] [m,r] pos) B σ:=by
 intro env A fs F ι s hsc I
 show wpAny _ _ (eval l env >>= fun a => testChain pos a [op1,op2] [eval m env,markedBehindIn op2 r (eval r env)]) _ _ _
 rw [markedBehindIn_of_false hm]
 refine Zhb (Zib (h env A fs F ι s hsc I) (fun x s₁ p => ?_) fun zz zz p => p)
 obtain ⟨v,σ₁,ι₁,q,rv,rp,ex,g,o⟩:=p
 have I₁:=I.ext ex rp g o
 refine Zhb (wpAny_holding (Zib (q env A fs F ι₁ s₁ hsc I₁) (fun y s₂ p => ?_) fun zz zz p => p.trans ex))
 obtain ⟨v₂,σ₂,ι₂,q₂,rv₂,rp₂,ex₂,g₂,o₂⟩:=p
 have I₂:=I₁.ext ex₂ rp₂ g₂ o₂
 refine Zhb (wpAny_standAt (Zhb (wpAny_holding (Zib (cmp_ok q₂ A fs ι₂ s₂ x y I₂.st (rv.mono ex₂.mono) rv₂) (fun z s₃ p => ?_) fun zz zz p => p.trans (ex.trans ex₂)))))
 obtain ⟨v₃,σ₃,ι₃,⟨c,rfl,q₃⟩,rv₃,rp₃,ex₃,g₃,o₃⟩:=p
 cases rv₃.bool_inv
 have I₃:=I₂.ext ex₃ rp₃ g₃ o₃
 have ex123:=(ex.trans ex₂).trans ex₃
 refine Zhb (wpAny_release (Zhb (wpAny_holding (wpAny_truthy_bool ?_))))
 cases c
 · exact Zjb ⟨σ₃,ι₃,q₃,rp₃,ex123,g₃,o₃⟩
 · show wpAny _ _ (testChain pos y [op2] [eval r env]) _ _ _
   refine Zhb (wpAny_holding (Zib (q₃ env A fs F ι₃ s₃ hsc I₃) (fun u s₄ p => ?_) fun zz zz p => p.trans ex123))
   obtain ⟨v₄,σ₄,ι₄,q₄,rv₄,rp₄,ex₄,g₄,o₄⟩:=p
   have I₄:=I₃.ext ex₄ rp₄ g₄ o₄
   have ex1234:=ex123.trans ex₄
   refine Zhb (wpAny_standAt (Zhb (wpAny_operateT (Zib (cmp_ok q₄ A fs ι₄ s₄ y u I₄.st (rv₂.mono (ex₃.trans ex₄).mono) rv₄) (fun z s₅ p => ?_) fun zz zz p => p.trans ex1234))))
   obtain ⟨v₅,σ₅,ι₅,⟨c,rfl,q₅⟩,rv₅,rp₅,ex₅,g₅,o₅⟩:=p
   cases rv₅.bool_inv
   exact wpAny_holding (wpAny_truthy_bool ⟨σ₅,ι₅,q₅,rp₅,ex1234.trans ex₅,g₅,o₅⟩)
theorem EvOk.cmp2 {l m r:Expr} {op1 op2:CmpOp} {pos:Pos} (h:EvOk T d sc ρ X l (fun a σ₁ => EvOk T d sc ρ X m (fun b σ₂ => cmpVC op1 a b (fun v σ₃ => ∃ c,v = .bool c ∧ (if c then EvOk T d sc ρ X r (fun w σ₄ => cmpVC op2 b w Q σ₄) σ₃ else Q (.bool false) σ₃)) σ₂) σ₁) σ)
   (hm:behindInMarks op2 r = false):EvOk T d sc ρ X (.Compare l [op1,op2] [m,r] pos) Q σ:=by
 intro env A fs F ι s hsc I
 show wpAny _ _ (eval l env >>= fun a => compareChain pos a [op1,op2] [eval m env,markedBehindIn op2 r (eval r env)]) _ _ _
 rw [markedBehindIn_of_false hm]
 refine Zhb (Zib (h env A fs F ι s hsc I) (fun x s₁ p => ?_) fun zz zz p => p)
 obtain ⟨v,σ₁,ι₁,q,rv,rp,ex,g,o⟩:=p
 have I₁:=I.ext ex rp g o
 refine Zhb (wpAny_holding (Zib (q env A fs F ι₁ s₁ hsc I₁) (fun y s₂ p => ?_) fun zz zz p => p.trans ex))
 obtain ⟨v₂,σ₂,ι₂,q₂,rv₂,rp₂,ex₂,g₂,o₂⟩:=p
 have I₂:=I₁.ext ex₂ rp₂ g₂ o₂
 refine Zhb (wpAny_standAt (Zhb (wpAny_holding (Zib (cmp_ok q₂ A fs ι₂ s₂ x y I₂.st (rv.mono ex₂.mono) rv₂) (fun z s₃ p => ?_) fun zz zz p => p.trans (ex.trans ex₂)))))
 obtain ⟨v₃,σ₃,ι₃,⟨c,rfl,q₃⟩,rv₃,rp₃,ex₃,g₃,o₃⟩:=p
 cases rv₃.bool_inv
 have I₃:=I₂.ext ex₃ rp₃ g₃ o₃
 have ex123:=(ex.trans ex₂).trans ex₃
 refine Zhb (wpAny_release (Zhb (wpAny_holding (wpAny_truthy_bool ?_))))
 cases c
 · exact Zjb ⟨_,σ₃,ι₃,q₃,.bool_mk,rp₃,ex123,g₃,o₃⟩
 · show wpAny _ _ (compareChain pos y [op2] [eval r env]) _ _ _
   refine Zhb (wpAny_holding (Zib (q₃ env A fs F ι₃ s₃ hsc I₃) (fun u s₄ p => ?_) fun zz zz p => p.trans ex123))
   obtain ⟨v₄,σ₄,ι₄,q₄,rv₄,rp₄,ex₄,g₄,o₄⟩:=p
   have I₄:=I₃.ext ex₄ rp₄ g₄ o₄
   have ex1234:=ex123.trans ex₄
   exact Zhb (wpAny_standAt (wpAny_operateT (Zib (cmp_ok q₄ A fs ι₄ s₄ y u I₄.st (rv₂.mono (ex₃.trans ex₄).mono) rv₄) (fun z s₅ p => p.trans ex1234) fun zz zz p => p.trans ex1234)))
theorem EvOk.not {x:Expr} {pos:Pos} (h:EvOk T d sc ρ X x (fun v σ₁ => ∃ b,truthV v σ₁ = some b ∧ Q (.bool (!b)) σ₁) σ):EvOk T d sc ρ X (.UnaryOp .Not x pos) Q σ:=by
 intro env A fs F ι s hsc I
 refine wpAny_UnaryOp (Zib (h env A fs F ι s hsc I) (fun x s₁ p => ?_) fun zz zz p => p)
 obtain ⟨v,σ₁,ι₁,⟨b,e1,q⟩,rv,rp,ex,g,o⟩:=p
 refine not_value (Zib (truth_ok (Q:=fun c σ' => Q (.bool (!c)) σ') (I.ext ex rp g o).st rv e1 q) (fun c s₂ p => ?_) fun zz zz p => p.trans ex)
 obtain ⟨σ₂,ι₂,q₂,rp₂,ex₂,g₂,o₂⟩:=p
 exact ⟨_,σ₂,ι₂,q₂,.bool_mk,rp₂,ex.trans ex₂,g₂,o₂⟩
theorem EvOk.neg {x:Expr} {pos:Pos} (h:EvOk T d sc ρ X x (fun v σ₁ => ∃ i,v = .int i ∧ Q (.int (-i)) σ₁) σ):EvOk T d sc ρ X (.UnaryOp .USub x pos) Q σ:=by
 intro env A fs F ι s hsc I
 refine wpAny_UnaryOp (Zib (h env A fs F ι s hsc I) (fun x s₁ p => ?_) fun zz zz p => p)
 obtain ⟨v,σ₁,ι₁,⟨i,rfl,q⟩,rv,rp,ex,g,o⟩:=p
 obtain ⟨t,rfl⟩:=rv.int_inv
 exact P.neg_int (((I.ext ex rp g o).st.post q .int_mk _).trans ex)
noncomputable def BoolsOk (T:Tp) (d:Nat) (sc:Scope) (ρ:Loc) (X:QX) (op:BoolOp) (es:List Expr) (Q:QE) (σ:Hp):Prop :=
 ∀ env A fs F ι s pos,env.scope = sc → Inv T A fs d env F ρ ι σ s → wpAny (model T.prog T.w) A (boolOp pos op (evalEach es env)) (PostE T [] Q ι s.heap) (PostX T [] X ι s.heap) s
theorem EvOk.bools {op:BoolOp} {es:List Expr} {pos:Pos} (h:BoolsOk T d sc ρ X op es Q σ):EvOk T d sc ρ X (.BoolOp op es pos) Q σ :=
 fun env A fs F ι s hsc I => h env A fs F ι s pos hsc I
theorem BoolsOk.one {op:BoolOp} {x:Expr} (h:EvOk T d sc ρ X x Q σ):BoolsOk T d sc ρ X op [x] Q σ :=
 fun env A fs F ι s zz hsc I => h env A fs F ι s hsc I
theorem BoolsOk.and {x y:Expr} {r:List Expr} (h:EvOk T d sc ρ X x (fun v σ₁ => ∃ b,truthV v σ₁ = some b ∧ (if b then BoolsOk T d sc ρ X .And (y :: r) Q σ₁ else Q v σ₁)) σ):BoolsOk T d sc ρ X .And (x :: y :: r) Q σ:=by
 intro env A fs F ι s pos hsc I
 show wpAny _ _ (eval x env >>= fun v => standAt pos >>= fun zz => holding [v] (truthy v) >>= fun t => match BoolOp.And,t with
   | .And,false | .Or,true => pure v
   | z1,z2 => boolOp pos .And (evalEach (y :: r) env)) _ _ _
 refine Zhb (Zib (h env A fs F ι s hsc I) (fun x s₁ p => ?_) fun zz zz p => p)
 obtain ⟨v,σ₁,ι₁,⟨b,e1,q⟩,rv,rp,ex,g,o⟩:=p
 have I₁:=I.ext ex rp g o
 refine Zhb (wpAny_standAt (Zhb (wpAny_holding (Zib (truth_ok (Q:=fun c σ' => c = b ∧ σ' = σ₁) I₁.st rv e1 ⟨rfl,rfl⟩) (fun c s₂ p => ?_) fun zz zz p => p.trans ex))))
 obtain ⟨σ₂,ι₂,⟨rfl,rfl⟩,rp₂,ex₂,g₂,o₂⟩:=p
 cases c
 · exact Zjb ⟨v,σ₂,ι₂,q,rv.mono ex₂.mono,rp₂,ex.trans ex₂,g₂,o₂⟩
 · exact Zib (q env A fs F ι₂ s₂ pos hsc (I₁.ext ex₂ rp₂ g₂ o₂)) (fun zz zz p => p.trans (ex.trans ex₂)) fun zz zz p => p.trans (ex.trans ex₂)
theorem BoolsOk.or {x y:Expr} {r:List Expr} (h:EvOk T d sc ρ X x (fun v σ₁ => ∃ b,truthV v σ₁ = some b ∧ (if b then Q v σ₁ else BoolsOk T d sc ρ X .Or (y :: r) Q σ₁)) σ):BoolsOk T d sc ρ X .Or (x :: y :: r) Q σ:=by
 intro env A fs F ι s pos hsc I
 show wpAny _ _ (eval x env >>= fun v => standAt pos >>= fun zz => holding [v] (truthy v) >>= fun t => match BoolOp.Or,t with
   | .And,false | .Or,true => pure v
   | z1,z2 => boolOp pos .Or (evalEach (y :: r) env)) _ _ _
 refine Zhb (Zib (h env A fs F ι s hsc I) (fun x s₁ p => ?_) fun zz zz p => p)
 obtain ⟨v,σ₁,ι₁,⟨b,e1,q⟩,rv,rp,ex,g,o⟩:=p
 have I₁:=I.ext ex rp g o
 refine Zhb (wpAny_standAt (Zhb (wpAny_holding (Zib (truth_ok (Q:=fun c σ' => c = b ∧ σ' = σ₁) I₁.st rv e1 ⟨rfl,rfl⟩) (fun c s₂ p => ?_) fun zz zz p => p.trans ex))))
 obtain ⟨σ₂,ι₂,⟨rfl,rfl⟩,rp₂,ex₂,g₂,o₂⟩:=p
 cases c
 · exact Zib (q env A fs F ι₂ s₂ pos hsc (I₁.ext ex₂ rp₂ g₂ o₂)) (fun zz zz p => p.trans (ex.trans ex₂)) fun zz zz p => p.trans (ex.trans ex₂)
 · exact Zjb ⟨v,σ₂,ι₂,q,rv.mono ex₂.mono,rp₂,ex.trans ex₂,g₂,o₂⟩
theorem EvsOk.nil {L:List V → Hp → Prop} (q:L [] σ):EvsOk T d sc ρ X [] L σ:=fun zz zz zz zz ι zz zz I => Zjb ⟨[],σ,ι,q,VRels.nil_iff.mpr rfl,I.rep,.refl ..,I.gens,I.os⟩
theorem EvsOk.cons {L:List V → Hp → Prop} {e:Expr} {r:List Expr} (h:EvOk T d sc ρ X e (fun v σ₁ => EvsOk T d sc ρ X r (fun vs σ₂ => L (v :: vs) σ₂) σ₁) σ):EvsOk T d sc ρ X (e :: r) L σ:=by
 intro env A fs F ι s hsc I
 refine spliced_cons (Zib (h env A fs F ι s hsc I) (fun x s₁ p => ?_) fun zz zz p => p)
 obtain ⟨v,σ₁,ι₁,q,rv,rp,ex,g,o⟩:=p
 refine Zib (q env A fs F ι₁ s₁ hsc (I.ext ex rp g o)) (fun xs s₂ p => ?_) fun zz zz p => p.trans ex
 obtain ⟨vs,σ₂,ι₂,q₂,rvs,rp₂,ex₂,g₂,o₂⟩:=p
 exact ⟨v :: vs,σ₂,ι₂,q₂,VRels.cons_iff.mpr ⟨_,_,rfl,rv.mono ex₂.mono,rvs⟩,rp₂,ex.trans ex₂,g₂,o₂⟩
theorem EvOk.tup {es:List Expr} {k:Nat} {pos:Pos} (h:EvsOk T d sc ρ X es (fun vs σ₁ => vs.length ≤ sizeLine ∧ Q (.tup vs) σ₁) σ) (ns:noStar es = true):EvOk T d sc ρ X (.Tuple es k pos) Q σ:=by
 intro env A fs F ι s hsc I
 refine wpAny_Tuple ?_
 rw [starEach_eq ns]
 refine Zib (h env A fs F ι s hsc I) (fun xs s₁ p => ?_) fun zz zz p => p
 obtain ⟨vs,σ₁,ι₁,⟨hl,q⟩,rv,rp,ex,g,o⟩:=p
 exact ⟨by rw [rv.length]; exact hl,((I.ext ex rp g o).st.newTup (items:=xs.toArray) (by simpa using rv) q (t:=s₁.toks)).trans ex⟩
theorem EvOk.list {es:List Expr} {pos:Pos} (h:EvsOk T d sc ρ X es (fun vs σ₁ => vs.length ≤ sizeLine ∧ Q (.ref σ₁.length) (σ₁ ++ [.list vs])) σ) (ns:noStar es = true):EvOk T d sc ρ X (.List es pos) Q σ:=by
 intro env A fs F ι s hsc I
 refine wpAny_List ?_
 rw [starEach_eq ns]
 refine Zib (h env A fs F ι s hsc I) (fun xs s₁ p => ?_) fun zz zz p => p
 obtain ⟨vs,σ₁,ι₁,⟨hl,q⟩,rv,rp,ex,g,o⟩:=p
 exact ⟨by rw [rv.length]; exact hl,((I.ext ex rp g o).st.newList (items:=xs.toArray) (by simpa using rv) q (t:=s₁.toks)).trans ex⟩
end
end
section
noncomputable def sm63 (k:Int):Prop:=-(2 ^ 63) ≤ k ∧ k < 2 ^ 63
inductive ItemR (σ:Hp):V → V → V → Prop where
 | tup (vs:List V) (k:Int) (j:Nat) (v:V) (e1:seqIndex? k vs.length = some j) (e2:vs[j]? = some v) (e3:sm63 k):ItemR σ (.tup vs) (.int k) v
 | list (l:Nat) (vs:List V) (k:Int) (j:Nat) (v:V) (e0:σ[l]? = some (.list vs)) (e1:seqIndex? k vs.length = some j) (e2:vs[j]? = some v) (e3:sm63 k):ItemR σ (.ref l) (.int k) v
 | str (s:Str) (k:Int) (c:Nat) (e1:(seqIndex? k s.length).bind (s.cps[·]?) = some c) (e3:sm63 k):ItemR σ (.str s) (.int k) (.str ⟨#[c]⟩)
 | scr (xs:List Int) (k i:Int) (h0:0 ≤ k) (h1:k < 2 ^ 63) (h2:xs[k.toNat]? = some i):ItemR σ (.scr xs) (.int k) (.int i)
 | dict (l:Nat) (x:Str) (kvs:List (Str × V)) (v:V) (e0:σ[l]? = some (.sdict kvs)) (e1:(kvs.find? fun kv => kv.1 = x).map (·.2) = some v):ItemR σ (.ref l) (.str x) v
 | tdict (l:Nat) (k:Str × Int) (kvs:List ((Str × Int) × V)) (v:V) (e0:σ[l]? = some (.tdict kvs)) (e1:(kvs.find? fun kv => kv.1 = k).map (·.2) = some v):ItemR σ (.ref l) (.tup [.str k.1,.int k.2]) v
inductive itemVC (o i:V) (Q:QE) (σ:Hp):Prop where
 | mk (v:V) (r:ItemR σ o i v) (q:Q v σ):itemVC o i Q σ
noncomputable def notSlice (e:Expr):Bool:=e.ctorIdx != 26
theorem subscripted_eq {slice:Expr} {o i:Value} (h:notSlice slice = true):subscripted slice false o i = operate [o,i] (getItem o i):=by
 cases slice <;> first | rfl | cases h
section
variable {T:Tp} {d:Nat} {sc:Scope} {ρ:Loc} {X:QX} {Q:QE} {σ:Hp}
theorem seqIndex_inv {k:Int} {n j:Nat} (h:seqIndex? k n = some j):(0 ≤ k ∧ j = k.toNat) ∨ (k < 0 ∧ -(n:Int) ≤ k ∧ j = (k + n).toNat):=by
 unfold seqIndex? at h
 by_cases hk:k < 0
 · right
   simp only [hk,if_true] at h
   split at h
   · rename_i hb
     simp only [Zob,decide_eq_true_eq] at hb
     simp only [Option.some.injEq] at h
     exact ⟨hk,by (clear h hk; lia),h.symm⟩
   · cases h
 · left
   simp only [hk,if_false] at h
   split at h
   · simp only [Option.some.injEq] at h; exact ⟨by (clear h; lia),h.symm⟩
   · cases h
noncomputable def ItemOk (T:Tp) (d:Nat) (X:QX) (o i:V) (Q:QE) (σ:Hp):Prop:=∀ A fs ι s x y,St T A fs d ι σ s → VRel T ι s.heap o x → VRel T ι s.heap i y → ∃ ty id,s.TypeIs x ty ∧ typeLookup (.type ty) "__getitem__" = pure (some (.builtin id)) ∧ wpAny (model T.prog T.w) A (getItem x y) (PostE T [] Q ι s.heap) (PostX T [] X ι s.heap) s
theorem size_eq {T:Tp} {ι:Inj} {h:Heap} {vs:List V} {items:Array Value} (hv:VRels T ι h vs items.toList):items.size = vs.length:=Array.length_toList.symm.trans hv.length
theorem sm_big {k:Int} (h:sm63 k):(decide (k < -(2 ^ 63)) || decide (2 ^ 63 ≤ k)) = false:=by
 rw [decide_eq_false (Int.not_lt.mpr h.1),decide_eq_false (Int.not_le.mpr h.2)]; rfl
theorem item_tup {vs:List V} {k:Int} {j:Nat} {v:V} (e1:seqIndex? k vs.length = some j) (e2:vs[j]? = some v) (e3:sm63 k) (q:Q v σ):ItemOk T d X (.tup vs) (.int k) Q σ:=fun A fs ι s x y S rx ry => by
 obtain ⟨a,items,n,rfl,ht,hv⟩:=rx.tup_inv
 obtain ⟨t,rfl⟩:=ry.int_inv
 obtain ⟨z,hz,rz⟩:=hv.get e2
 exact ⟨_,_,⟨_,ht,rfl⟩,PySem.F.slot_tuple_getitem.lookup,P.getItem_tuple ht e3.1 e3.2 ((size_eq hv).symm ▸ e1) (Array.getElem?_toList ▸ hz) (S.post0 q rz)⟩
theorem item_list {l:Nat} {vs:List V} {k:Int} {j:Nat} {v:V} (e0:σ[l]? = some (.list vs)) (e1:seqIndex? k vs.length = some j) (e2:vs[j]? = some v) (e3:sm63 k) (q:Q v σ):ItemOk T d X (.ref l) (.int k) Q σ:=fun A fs ι s x y S rx ry => by
 obtain ⟨a,d',rfl,hl⟩:=rx.ref_inv
 obtain ⟨t,rfl⟩:=ry.int_inv
 obtain ⟨items,n,hL,hv⟩:=S.rep.list_at e0 hl
 obtain ⟨z,hz,rz⟩:=hv.get e2
 refine ⟨_,_,⟨_,hL,rfl⟩,PySem.F.slot_list_getitem.lookup,?_⟩
 rcases seqIndex_inv e1 with ⟨k0,rfl⟩ | ⟨k0,k1,rfl⟩
 · exact wpAny_getItem_list hL.isList k0 e3.2 (Array.getElem?_toList ▸ hz) (S.post0 q rz)
 · rw [← size_eq hv] at k1 hz
   exact wpAny_getItem_list_neg hL.isList k0 k1 e3.1 (Array.getElem?_toList ▸ hz) (S.post0 q rz)
theorem item_dict {l:Nat} {k:Str} {kvs:List (Str × V)} {v:V} (e0:σ[l]? = some (.sdict kvs)) (e1:(kvs.find? fun kv => kv.1 = k).map (·.2) = some v) (q:Q v σ):ItemOk T d X (.ref l) (.str k) Q σ:=fun A fs ι s x y S rx ry => by
 obtain ⟨a,d',rfl,hl⟩:=rx.ref_inv
 obtain ⟨t,rfl⟩:=ry.str_inv
 obtain ⟨rvs,hd,hv,zz⟩:=S.rep.sdict_at e0 hl
 obtain ⟨z,hm,r⟩:=hv.find.at e1
 exact ⟨_,_,hd.mapOf.typeIs,PySem.F.slot_dict_getitem.lookup,wpAny_getItem_of (knd:=strKind T.prog T.w) (k:=k) (by simp [PySem.strKind,Value.isStrOf]) hd.mapOf hm (S.post q r _)⟩
theorem item_tdict {l:Nat} {k:Str × Int} {kvs:List ((Str × Int) × V)} {v:V} (e0:σ[l]? = some (.tdict kvs)) (e1:(kvs.find? fun kv => kv.1 = k).map (·.2) = some v) (q:Q v σ):ItemOk T d X (.ref l) (.tup [.str k.1,.int k.2]) Q σ:=fun A fs ι s x y S rx ry => by
 obtain ⟨a,d',rfl,hl⟩:=rx.ref_inv
 obtain ⟨a',rfl,hk⟩:=ry.pair
 obtain ⟨xs,hd,hv,zz⟩:=S.rep.tdict_at e0 hl
 obtain ⟨z,hm,r⟩:=hv.find.at e1
 exact ⟨_,_,hd.typeIs,PySem.F.slot_dict_getitem.lookup,wpAny_getItem_heap (knd:=pairKind T.prog T.w) (k:=k) (show A.units + 1 < cLine from room41 (x:=0) S.aok.units (by decide)) hk hd hm (S.post q r _)⟩
theorem item_scr {xs:List Int} {k i:Int} (k0:0 ≤ k) (k1:k < 2 ^ 63) (e1:xs[k.toNat]? = some i) (q:Q (.int i) σ):ItemOk T d X (.scr xs) (.int k) Q σ:=fun A fs ι s x y S rx ry => by
 obtain ⟨a,ob,items,n,rfl,ho,hc,hd,l,hl,rfl⟩:=rx
 obtain ⟨t,rfl⟩:=ry.int_inv
 have ho':=S.rep.base _ _ ho
 rw [Zdb] at e1
 obtain ⟨p,hp,rfl⟩:=Zpb.mp e1
 refine ⟨_,_,⟨_,ho',hc⟩,PySem.F.slot_list_getitem.lookup,wpAny_getItem_list (x:=.int p.1 p.2) ⟨_,ho',hc,n,hd⟩ k0 k1 ?_ (S.post0 q .int_mk)⟩
 rw [← Array.getElem?_toList,hl,Zdb,hp]; rfl
theorem ItemR.ok {o i v:V} (r:ItemR σ o i v):∀ {Q:QE},Q v σ → ItemOk T d X o i Q σ:=by
 induction r with
 | tup z1 z2 z3 z4 e1 e2 e3 => exact fun q => item_tup e1 e2 e3 q
 | list z1 z2 z3 z4 z5 e0 e1 e2 e3 => exact fun q => item_list e0 e1 e2 e3 q
 | str z1 z2 z3 e1 e3 => exact fun q A fs ι s x y S rx ry => Zh rx fun zz h => Zh ry fun zz h' => h ▸ h' ▸ ⟨"str",_,rfl,PySem.F.slot_str_getitem.lookup,PyProof.Rows.getItem_str (sm_big e3) e1 (S.post q .str_mk _)⟩
 | scr z1 z2 z3 h0 h1 h2 => exact fun q => item_scr h0 h1 h2 q
 | dict z1 z2 z3 z4 e0 e1 => exact fun q => item_dict e0 e1 q
 | tdict z1 z2 z3 z4 e0 e1 => exact fun q => item_tdict e0 e1 q
theorem item_ok {o i:V} {value slice:Expr} (ns:notSlice slice = true) (h:itemVC o i Q σ):BinOk T d X (subscriptTail value slice) o i Q σ:=fun A fs ι s x y S rx ry =>
 h.rec fun zz r q => Zh (r.ok q A fs ι s x y S rx ry) fun zz h => Zh h fun zz h => tail_any h.1 h.2.1 h.2.2 (subscripted_eq ns)
theorem EvOk.item {value slice:Expr} {pos:Pos} (h:EvOk T d sc ρ X value (fun o σ₁ => EvOk T d sc ρ X slice (fun i σ₂ => itemVC o i Q σ₂) σ₁) σ) (ns:notSlice slice = true):EvOk T d sc ρ X (.Subscript value slice pos) Q σ :=
 fun zz zz zz zz zz zz hsc I => Subscript_ (EvOk.two (item_ok ns) h hsc I)
noncomputable def callable (vv:V):Bool:=vv.casesOn (false) (fun _ => false) (fun _ => false) (fun _ => false) (fun _ => false) (fun _ => false) (fun _ => false) (fun _ _ => false) (fun _ => true) (fun _ => true) (fun _ => false) (fun _ => false) (fun _ => false) (fun _ _ => false)
noncomputable def KeepsIn (T:Tp) (f:V):Prop:=callable f = true ∨ ∀ v,(∃ x,f = .glob x ∧ T.g x = some v) ∨ (∃ c x,f = .mth c x ∧ T.m c x = some v) → PySem.W.keepIn T.K v = true
theorem keeps_any {f:V} {fv:Value} {ι:Inj} {h:Heap} {M:Model} (hk:KeepsIn T f) (r:VRel T ι h f fv) (hc:callable f = true ∨ (∃ x,f = .glob x) ∨ (∃ c x,f = .mth c x)) :
   ∀ h',T.K.In h' → ∃ k,(k = Keeper.frame ∨ k = Keeper.machine ∨ k = Keeper.boundFrame) ∧ PySem.W.Looks M h' (keeperOf fv) k:=by
 intro h' X'
 have triv:(∀ a,fv ≠ .ref a) → ∃ k,(k = Keeper.frame ∨ k = Keeper.machine ∨ k = Keeper.boundFrame) ∧ PySem.W.Looks M h' (keeperOf fv) k:=fun ne =>
   ⟨.machine,.inr (.inl rfl),PySem.W.Looks.of_pure (by cases fv <;> first | rfl | exact absurd rfl (ne _))⟩
 have key:PySem.W.keepIn T.K fv = true → ∃ k,(k = Keeper.frame ∨ k = Keeper.machine ∨ k = Keeper.boundFrame) ∧ PySem.W.Looks M h' (keeperOf fv) k:=fun e => PySem.W.keeps_K e h' X'
 rcases hc with hc | ⟨x,rfl⟩ | ⟨c,x,rfl⟩
 · cases f <;> first | (cases hc; done) | skip
   · subst r; exact triv fun a e => by cases e
   · subst r; exact triv fun a e => by cases e
 · rcases hk with hk | hk
   · cases hk
   · exact key (hk fv (.inl ⟨x,rfl,r⟩))
 · rcases hk with hk | hk
   · cases hk
   · exact key (hk fv (.inr ⟨c,x,rfl,r⟩))
theorem evalArgs_list {M:Model} {A:Around} {E:Value → Shared → Prop} {s:Shared} {f:Value} {env:Env} {es:List Expr} {Q:Args → Shared → Prop}
   (h:wpAny M A (spliced (es.map fun e => (false,eval e env))) (fun vs s' => Q ⟨vs,[]⟩ s') E s):wpAny M A (evalArgs f true (es.map fun e => (false,eval e env)) []) Q E s:=by
 cases es with
 | nil =>
   unfold evalArgs
   show wpAny M A (spliced [] >>= _) Q E s
   refine Zhb (Zib h (fun vs s' h' => ?_) fun zz zz x => x)
   refine wpAny_holding ?_
   exact Zhb (Zjb (Zhb (Zjb (Zjb h'))))
 | cons e r => exact evalArgs_plain h
theorem EvOk.call {x:Str} {np pos:Pos} {args:List Expr} (TO:TopOk T) (ns:noStar args = true)
   (h:EvOk T d sc ρ X (.Name x np) (fun f σ₁ => (callable f = true ∨ (∃ x,f = .glob x) ∨ (∃ c x,f = .mth c x)) ∧ KeepsIn T f ∧ EvsOk T d sc ρ X args (fun vs σ₂ => CallOk T d X f vs Q σ₂) σ₁) σ) :
   EvOk T d sc ρ X (.Call (.Name x np) args [] pos) Q σ:=by
 intro env A fs F ι s hsc I
 rw [arm_eval_Call_Name']
 refine Zhb (Zib (h env A fs F ι s hsc I) (fun fv s₁ p => ?_) fun zz zz p => p)
 obtain ⟨f,σ₁,ι₁,⟨hc,hk,q⟩,rv,rp,ex,g,o⟩:=p
 have I₁:=I.ext ex rp g o
 rw [starEach_eq ns]
 refine PySem.W.callWith_of (P:=T.K.In) (by rw [show backToKw pos (keywordEach [] env) = [] from rfl]; simp) (keeps_any hk rv hc) (evalArgs_list (Zib (q env A fs F ι₁ s₁ hsc I₁) (fun xs s₂ p => ?_) fun zz zz p => p.trans ex))
 obtain ⟨vs,σ₂,ι₂,q₂,rvs,rp₂,ex₂,g₂,o₂⟩:=p
 have I₂:=I₁.ext ex₂ rp₂ g₂ o₂
 refine ⟨TO.X0.keeps I₂.rep.base,?_⟩
 exact Zib (q₂ A fs ι₂ s₂ fv xs I₂.st (rv.mono ex₂.mono) rvs) (fun zz zz p => p.trans (ex.trans ex₂)) fun zz zz p => p.trans (ex.trans ex₂)
end
end
section
structure Touch (S:List Addr) (lo:Nat) (ea:Addr) (h h':Heap):Prop where
 size:h.objs.size ≤ h'.objs.size
 cls:∀ a o,h.get? a = some o → ∃ o',h'.get? a = some o' ∧ o'.cls = o.cls
 keep:∀ a o,h.get? a = some o → a ≠ ea → (a < lo ∨ o.cls ≠ .type "traceback") → a ∉ S → h'.get? a = some o
 frm:∀ a o,h.get? a = some o → a ≠ ea → (a < lo ∨ o.cls ≠ .type "traceback") → ∃ sl,h'.get? a = some { o with slots:=sl }
theorem Touch.refl {S lo ea} (h:Heap):Touch S lo ea h h:=⟨Zl _,fun zz o e => ⟨o,e,rfl⟩,fun zz zz e zz zz zz => e,fun zz o e zz zz => ⟨o.slots,e⟩⟩
theorem Touch.trans {S lo ea} {h h₁ h₂:Heap} (x:Touch S lo ea h h₁) (y:Touch S lo ea h₁ h₂):Touch S lo ea h h₂ where
 size:=Za x.size y.size
 cls:=fun a o e => (by obtain ⟨o₁,e₁,c₁⟩:=x.cls a o e; obtain ⟨o₂,e₂,c₂⟩:=y.cls a o₁ e₁; exact ⟨o₂,e₂,c₂.trans c₁⟩)
 keep:=fun a o e n c s => y.keep a o (x.keep a o e n c s) n c s
 frm:=fun a o e n c => (by obtain ⟨_,e₁⟩:=x.frm a o e n c; obtain ⟨sl,e₂⟩:=y.frm a _ e₁ n c; exact ⟨sl,e₂⟩)
theorem Touch.of_slots {S lo ea} {h h':Heap} (x:Heap.SlotsOnly S h h'):Touch S lo ea h h' where
 size:=Zr x.1.symm
 cls:=fun a o e => (by obtain ⟨_,e₁⟩:=x.2.2 a o e; exact ⟨_,e₁,rfl⟩)
 keep:=fun a o e zz zz s => (x.2.1 a s).trans e
 frm:=fun a o e zz zz => x.2.2 a o e
theorem Touch.of_push {S lo ea} (h:Heap) (o:Obj):Touch S lo ea h (h.push o) :=
 ⟨by rw [Zqb]; exact Zq (Zs h.objs.size),fun zz o e => ⟨o,Zx _ e,rfl⟩,fun zz zz e zz zz zz => Zx _ e,fun zz o e zz zz => ⟨o.slots,Zx _ e⟩⟩
theorem Touch.of_set {S} {lo:Nat} {ea:Addr} {h:Heap} {a:Addr} {o:Obj} {vs:Array Value} (ho:h.get? a = some o) (hd:o.data = .fields vs) (f:Array Value → Array Value) (ha:a = ea ∨ (lo ≤ a ∧ o.cls = .type "traceback")) :
   Touch S lo ea h (h.update a (Obj.mapFields f)):=by
 have hself:=Heap.get?_update_self (Obj.mapFields f) ho (Obj.isFreed_of_fields (Obj.data_mapFields hd f))
 have ne:∀ b x,h.get? b = some x → b ≠ ea → (b < lo ∨ x.cls ≠ .type "traceback") → b ≠ a:=fun b x hb n c q => by
   subst q
   rcases ha with ha | ⟨ha,hc⟩
   · exact n ha
   · rw [ho] at hb; cases hb
     rcases c with c | c
     · exact absurd c (Zo.mpr ha)
     · exact c hc
 refine ⟨Zr (Heap.size_after_update ..).symm,fun b x hb => ?_,fun b x hb n c zz => ?_,fun b x hb n c => ⟨x.slots,?_⟩⟩
 · by_cases q:b = a
   · subst q; rw [ho] at hb; cases hb; exact ⟨_,hself,Obj.cls_mapFields _ _⟩
   · exact ⟨x,(Heap.get?_update_other h _ (Ne.symm q)).trans hb,rfl⟩
 · exact (Heap.get?_update_other h _ (Ne.symm (ne b x hb n c))).trans hb
 · exact (Heap.get?_update_other h _ (Ne.symm (ne b x hb n c))).trans hb
noncomputable def frs (fs:List Env):List Addr:=fs.filterMap (·.frame)
section
variable {T:Tp} {A:Around} {fs:List Env} {d:Nat} {ι:Inj} {σ:Hp} {s:Shared} {F:List Addr} {env:Env} {ρ:Loc} {lo:Nat} {ea:Addr} {c:Str}
theorem AOk.mem {h:Heap} (x:AOk T A fs d ι h) {a:Addr} (ha:a ∈ frs fs):a ∉ own ι ∧ T.b0.objs.size ≤ a ∧ ∃ o es ep,h.get? a = some o ∧ o.cls = .type "frame" ∧ o.data = .dict es ep:=by
 obtain ⟨e,he,hf⟩:=List.mem_filterMap.mp ha
 obtain ⟨zz,L,o,es,ep,f,n,b,g,c,dd⟩:=x.funs e he
 rw [hf] at f; cases f
 exact ⟨n,b,o,es,ep,g,c,dd⟩
theorem Rep.own_cls {h:Heap} (r:Rep T ι σ h) {a:Addr} (ha:a ∈ own ι) {o:Obj} (ho:h.get? a = some o):o.cls ≠ .type "traceback" ∧ o.cls ≠ .type "frame":=by
 obtain ⟨p,hp,e⟩:=mem_own.mp ha
 obtain ⟨l,hl,rfl⟩:=List.getElem_of_mem hp
 have hl':l < σ.length:=r.len ▸ hl
 obtain ⟨o',ho',hc⟩:=(r.objs l σ[l] ι[l] (Zp hl') (Zp hl)).cls e
 rw [ho] at ho'
 rw [sm_inj ho']
 rcases hc with ⟨C,hc⟩ | hc | hc <;> rw [hc]
 · exact ⟨nofun,nofun⟩
 · exact ⟨fun q => absurd (Value.type.inj q) (by decide),fun q => absurd (Value.type.inj q) (by decide)⟩
 · exact ⟨fun q => absurd (Value.type.inj q) (by decide),fun q => absurd (Value.type.inj q) (by decide)⟩
theorem Touch.mono {S:List Addr} {h h':Heap} (t:Touch S lo ea h h') (hS:∀ a ∈ S,∃ o,h.get? a = some o ∧ o.cls = .type "frame") (he:∃ o C,h.get? ea = some o ∧ o.cls = .ref C) (ι:Inj):Mono ι h ι h' where
 pre:=⟨[],by simp⟩
 cls:=fun a o e zz => t.cls a o e
 frz:=fun a o ho hf => t.keep a o ho (fun q => by
     obtain ⟨o',C,g,gc⟩:=he
     subst q; rw [ho] at g; cases g
     simp [frozen,gc] at hf) (.inr fun q => by simp [frozen,q] at hf) fun q => by
     obtain ⟨o',g,gc⟩:=hS a q
     rw [ho] at g; cases g
     simp [frozen,gc] at hf
theorem Rep.touch {S:List Addr} {h h':Heap} (r:Rep T ι σ h) (t:Touch S lo ea h h') (hS:∀ a ∈ S,a ∉ own ι ∧ T.b0.objs.size ≤ a ∧ ∃ o,h.get? a = some o ∧ o.cls = .type "frame") (he:∃ o C,h.get? ea = some o ∧ o.cls = .ref C)
   (hn:ea ∉ own ι) (hl:T.b0.objs.size ≤ lo) (hle:lo ≤ ea):Rep T ι σ h' :=
 r.keeps (t.mono (fun a ha => (hS a ha).2.2) he ι) t.size
   (fun a o e => t.keep a o (r.base a o e) (fun q => by
     have:=Zu e; rw [q] at this
     exact absurd (Za hl hle) (Nat.not_le.mpr this)) (.inl (Zz (Zu e) hl)) fun q => absurd (hS a q).2.1 (Nat.not_le.mpr (Zu e)))
   fun a ha o e => t.keep a o e (fun q => hn (q ▸ ha)) (.inr (r.own_cls ha e).1) fun q => (hS a q).1 ha
theorem Ext.touch {S:List Addr} {ι':Inj} {h₀ h h':Heap} (x:Ext T F ι h₀ ι' h) (t:Touch S h₀.objs.size ea h h') (hS:∀ a ∈ S,∃ o,h.get? a = some o ∧ o.cls = .type "frame") (hle:h₀.objs.size ≤ ea):Ext T F ι h₀ ι' h' where
 pre:=x.pre
 size:=Za x.size t.size
 cls:=fun a o e i => (by obtain ⟨o₁,e₁,c₁⟩:=x.cls a o e i; obtain ⟨o₂,e₂,c₂⟩:=t.cls a o₁ e₁; exact ⟨o₂,e₂,c₂.trans c₁⟩)
 frz:=fun a o e f => t.keep a o (x.frz a o e f) (fun q => absurd (Zu e) (Zo.mpr (q ▸ hle))) (.inl (Zu e)) fun q => by
   obtain ⟨o',g,gc⟩:=hS a q
   rw [x.frz a o e f] at g; cases g
   simp [frozen,gc] at f
 keep:=fun a o e n f c => t.keep a o (x.keep a o e n f c) (fun q => absurd (Zu e) (Zo.mpr (q ▸ hle))) (.inl (Zu e)) fun q => by
   obtain ⟨o',g,gc⟩:=hS a q
   rw [x.keep a o e n f c] at g; cases g
   exact c gc
 frm:=fun a o e n f => by
   obtain ⟨sl,e₁⟩:=x.frm a o e n f
   obtain ⟨sl',e₂⟩:=t.frm a _ e₁ (fun q => absurd (Zu e) (Zo.mpr (q ▸ hle))) (.inl (Zu e))
   exact ⟨sl',e₂⟩
theorem AOk.touch {S:List Addr} {h h':Heap} (x:AOk T A fs d ι h) (hT:T.hd = false) (t:Touch S lo ea h h') (he:∃ o C,h.get? ea = some o ∧ o.cls = .ref C):AOk T A fs d ι h' :=
 x.keeps (fun zz n zz => n) (fun a o g zz c => t.frm a o g (fun q => Zh he fun zz he => Zh he fun zz he => ne_type he.2 (sm_inj ((q ▸ g).symm.trans he.1) ▸ c)) (.inr fun q => absurd (Value.type.inj (c.symm.trans q)) (by decide))) (.none (x.hd hT))
theorem Frm.touch {S:List Addr} {h h':Heap} (x:Frm T env F ρ ι h) (t:Touch S lo ea h h') (he:∃ o C,h.get? ea = some o ∧ o.cls = .ref C) (hS:∀ a ∈ S,∃ o,h.get? a = some o ∧ o.cls = .type "frame"):Frm T env F ρ ι h' :=
 x.keeps (t.mono hS he ι) (fun zz n zz => n) (fun a o g zz zz => t.cls a o g) fun a o g zz hc zz => t.frm a o g (fun q => Zh he fun zz he => Zh he fun zz he => itr_ref hc.itr ((sm_inj (he.1.symm.trans (q ▸ g))) ▸ he.2)) (.inr hc.tb)
theorem Fly.hd {h:Heap} (x:Fly T lo ea c h):T.hd = false:=by obtain ⟨zz,zz,zz,zz,a,zz⟩:=x; exact a.1
theorem Fly.there {h:Heap} (x:Fly T lo ea c h):∃ o C vs,h.get? ea = some o ∧ o.cls = .ref C ∧ o.data = .fields vs:=by obtain ⟨C,oe,vs,zz,zz,zz,d,e,f,zz⟩:=x; exact ⟨oe,C,vs,d,e,f⟩
theorem Inv.touch {h':Heap} (I:Inv T A fs d env F ρ ι σ s) (t:Touch (frs fs) lo ea s.heap h') (f:Fly T lo ea c s.heap) (hn:ea ∉ own ι) (hl:T.b0.objs.size ≤ lo) (hle:lo ≤ ea):Inv T A fs d env F ρ ι σ { s with heap:=h' }:=by
 have hS:∀ a ∈ frs fs,a ∉ own ι ∧ T.b0.objs.size ≤ a ∧ ∃ o,s.heap.get? a = some o ∧ o.cls = .type "frame":=fun a ha => (by obtain ⟨a1,a2,o,_,_,a3,a4,_⟩:=I.aok.mem ha; exact ⟨a1,a2,o,a3,a4⟩)
 obtain ⟨o,C,vs,e1,e2,e3⟩:=f.there
 exact ⟨I.rep.touch t hS ⟨o,C,e1,e2⟩ hn hl hle,I.aok.touch f.hd t ⟨o,C,e1,e2⟩,I.frm.touch t ⟨o,C,e1,e2⟩ fun a ha => (hS a ha).2.2,I.top,I.gens,I.os⟩
theorem AOk.funFrames {h:Heap} (x:AOk T A fs d ι h):h.FunFrames T.b0 fs:=by
 have:∀ l:List Env,(∀ e ∈ l,e ∈ fs) → h.FunFrames T.b0 l:=by
   intro l
   induction l with
   | nil => intro zz; trivial
   | cons e r ih =>
     intro hl
     obtain ⟨k,L,o,es,ep,f,n,b,g,c,dd⟩:=x.funs e (hl e Zt)
     exact ⟨by rw [k]; decide,⟨L,o,f,Heap.get?_none_of_le b,g,fun vs q => by rw [dd] at q; cases q⟩,ih fun y hy => hl y (Zd _ hy)⟩
 exact this fs fun zz h => h
theorem frameOf_top {M:Model} {E:Value → Shared → Prop} {e:Env} {r:List Env} {L:Addr} {base:Heap} {Q:Value → Shared → Prop} (hfr:A.frames = some (e :: r)) (hl:s.heap.FunFrames base (e :: r)) (hf:e.frame = some L) (hv:env.frame = some L)
   (h:∀ h',Heap.SlotsOnly (frs (e :: r)) s.heap h' → Q (.ref L) { s with heap:=h' }):wpAny M A (PySem.frameOf env) Q E s:=by
 unfold PySem.frameOf
 refine Zhb (wpAny_frameEnvs hfr ?_)
 have hdw:((e :: r).dropWhile fun x => x.frame != env.frame) = e :: r:=by simp [List.dropWhile,hf,hv]
 rw [hdw]
 unfold frameObject
 refine Zhb (Zhb (wpAny_readyFrames_fun hl fun h₁ hs₁ => Zjb ?_))
 rw [hf]
 exact Zjb (h h₁ hs₁)
theorem entry_ok {M:Model} {E:Value → Shared → Prop} {e:Env} {r:List Env} {L:Addr} {base:Heap} {head:Value} {hadNext:Bool} {Q:Unit → Shared → Prop} {oe:Obj} {vs:Array Value} (hfr:A.frames = some (e :: r)) (hl:s.heap.FunFrames base (e :: r))
   (hf:e.frame = some L) (hv:env.frame = some L) (he:s.heap.get? ea = some oe) (hd:oe.data = .fields vs) (hsz:1 < vs.size) (hlo:lo ≤ s.heap.objs.size)
   (h:∀ h' tb,Touch (frs (e :: r)) lo ea s.heap h' → (∃ oe',h'.get? ea = some oe' ∧ oe'.cls = oe.cls ∧ oe'.data = .fields (vs.setIfInBounds 1 (.ref tb))) → TbAt lo ea h' (.ref tb) → Q () { s with heap:=h' }) :
   wpAny M A (do let a ← PySem.frameOf env; let pl ← entryPlaceOf L hadNext; let b ← EntryCells.newEntry head a .none (rawInt L) .none pl; setField (.ref ea) 1 b) Q E s:=by
 have hene:ea ∉ frs (e :: r):=fun hm => by
   obtain ⟨zz,o,ho,hnf⟩:=hl.mem hm
   rw [he] at ho; injection ho with ho; subst ho; exact hnf vs hd
 refine Zhb (frameOf_top hfr hl hf hv fun h₁ hs₁ => ?_)
 refine Zhb (wpAny_entryPlaceOf fun pl hpl => ?_)
 unfold EntryCells.newEntry newFields
 refine Zhb (wpAny_newObj_type ?_ (hpl.sizeOk5 _ _ _ _ _))
 have he₁:h₁.get? ea = some oe:=(hs₁.2.1 ea hene).trans he
 have he₂:=Zx (h:=h₁) { cls:=.type "traceback",dict:=none,data:=.fields ([head,.ref L,.none,rawInt L,.none] ++ (if pl.isEmpty then List.replicate 6 Value.none else pl)).toArray } he₁
 refine wpAny_setField he₂ hd hsz ?_
 have hTe:h₁.objs.size ≠ ea:=Nat.ne_of_gt (Zu he₁)
 have hd₃:=Obj.data_mapFields hd (·.setIfInBounds 1 (Value.ref h₁.objs.size))
 have he₃:=Heap.get?_update_self (Obj.mapFields (·.setIfInBounds 1 (Value.ref h₁.objs.size))) he₂ (Obj.isFreed_of_fields hd₃)
 have hT₃:=(Heap.get?_update_other (h₁.push { cls:=.type "traceback",dict:=none,data:=.fields ([head,.ref L,.none,rawInt L,.none] ++ (if pl.isEmpty then List.replicate 6 Value.none else pl)).toArray })
   (Obj.mapFields (·.setIfInBounds 1 (Value.ref h₁.objs.size))) (Ne.symm hTe)).trans (Heap.get?_push_size h₁ rfl)
 refine h _ h₁.objs.size (((Touch.of_slots hs₁).trans (.of_push ..)).trans (.of_set he₂ hd _ (.inl rfl))) ⟨_,he₃,Obj.cls_mapFields _ _,hd₃⟩ ⟨_,_,_,rfl,?_,hTe,hT₃,rfl,rfl,?_⟩
 · rw [hs₁.1]; exact hlo
 · simp only [List.size_toArray,Zf,List.length_cons,List.length_nil]; (clear hsz hlo h he₂ hTe hd₃ he₃ hT₃; lia)
theorem note_ok {M:Model} {E:Value → Shared → Prop} {Q:Unit → Shared → Prop} (I:Inv T A fs d env F ρ ι σ s) (f:Fly T lo ea c s.heap) (hlo:lo ≤ s.heap.objs.size)
   (h:∀ h',Touch (frs fs) lo ea s.heap h' → FlyT T lo ea c h' → Q () { s with heap:=h' }):wpAny M A (noteFrame (.ref ea) env) Q E s:=by
 obtain ⟨e,r,L,rfl,hf,hv⟩:=I.top
 obtain ⟨C,oe,vs,v,f1,f2,f3,f4,f5,f6,f7,f8,f9⟩:=f
 unfold noteFrame
 simp only [hv]
 refine Zhb (wpAny_field f3 f5 f8 ?_)
 have fin:∀ (s':Shared) (head:Value) (hn:Bool),s'.heap.get? ea = some oe → s'.heap.FunFrames T.b0 (e :: r) → lo ≤ s'.heap.objs.size → (∀ h',Touch (frs (e :: r)) lo ea s'.heap h' → FlyT T lo ea c h' → Q () { s' with heap:=h' }) →
     wpAny M A (do let a ← PySem.frameOf env; let pl ← entryPlaceOf L hn; let b ← EntryCells.newEntry head a .none (rawInt L) .none pl; setField (.ref ea) 1 b) Q E s':=fun s' head hn g1 g2 g3 k =>
   entry_ok I.aok.frames g2 hf hv g1 f5 (by (clear f7 f8 g3 f2 hlo; lia)) g3 fun h' tb t o tb' => k h' t (by
     obtain ⟨oe',o1,o2,o3⟩:=o
     refine ⟨C,oe',_,.ref tb,f1,f2,o1,o2.trans f4,o3,by simpa using f6,?_,?_,tb'⟩
     · rw [Array.getElem?_setIfInBounds_ne (by decide)]; exact f7
     · rw [Array.getElem?_setIfInBounds_self_of_lt (by (clear f7 f8 g3 o3 f2 hlo; lia))])
 rcases f9 with rfl | ⟨tb,ot,ts,rfl,t2,t3,t4,t5,t6,t7⟩
 · rw [if_neg (by decide)]
   exact fin s _ _ f3 I.aok.funFrames hlo h
 · rw [if_pos (show (Value.ref tb != Value.none) = true from by simp)]
   have t8:ts[3]? = some ts[3]:=Array.getElem?_eq_getElem t7
   refine Zhb (wpAny_field t4 t6 t8 ?_)
   by_cases q:(ts[3] == rawInt L) = true
   · rw [if_pos q]
     exact Zjb (h _ (.refl _) ⟨C,oe,vs,_,f1,f2,f3,f4,f5,f6,f7,f8,⟨tb,ot,ts,rfl,t2,t3,t4,t5,t6,t7⟩⟩)
   · rw [if_neg q]
     refine Zhb (wpAny_setField t4 t6 t7 ?_)
     have other:∀ b,b ≠ tb → (s.heap.update tb (Obj.mapFields (·.setIfInBounds 3 Value.none))).get? b = s.heap.get? b:=fun b hb => Heap.get?_update_other _ _ (Ne.symm hb)
     have tt:Touch (frs (e :: r)) lo ea s.heap (s.heap.update tb (Obj.mapFields (·.setIfInBounds 3 Value.none))):=.of_set t4 t6 _ (.inr ⟨t2,t5⟩)
     refine fin _ _ _ ((other ea (Ne.symm t3)).trans f3) (I.aok.touch f1.1 tt ⟨oe,C,f3,f4⟩).funFrames ?_ fun h' t k => h h' (tt.trans t) k
     rw [Heap.size_after_update]; exact hlo
theorem flight_ok {M:Model} {E:Value → Shared → Prop} {Q:Unit → Shared → Prop} {fr:Option Addr} {S:List Addr} (f:FlyT T lo ea c s.heap)
   (h:∀ h',Touch S lo ea s.heap h' → FlyT T lo ea c h' → Q () { s with heap:=h' }):wpAny M A (setFlight (.ref ea) fr) Q E s:=by
 obtain ⟨C,oe,vs,v,f1,f2,f3,f4,f5,f6,f7,f8,tb,ot,ts,rfl,t2,t3,t4,t5,t6,t7⟩:=f
 unfold setFlight
 refine Zhb (wpAny_field f3 f5 f8 ?_)
 rw [if_pos (show (Value.ref tb != Value.none) = true from by simp)]
 refine wpAny_setField t4 t6 t7 (h _ (.of_set t4 t6 _ (.inr ⟨t2,t5⟩)) ⟨C,oe,vs,_,f1,f2,(Heap.get?_update_other _ _ t3).trans f3,f4,f5,f6,f7,f8,tb,_,_,rfl,t2,t3,Heap.get?_update_self _ t4 (Obj.isFreed_of_fields (Obj.data_mapFields t6 _)),(Obj.cls_mapFields _ _).trans t5,Obj.data_mapFields t6 _,by simpa using t7⟩)
end
end
set_option genSizeOf false
section
set_option genCtorIdx false in
inductive Fl where
 | next | brk | cont
 | ret (v:V)
inductive FlRel (T:Tp) (ι:Inj) (h:Heap):Fl → Flow → Prop where
 | next:FlRel T ι h .next .next
 | brk:FlRel T ι h .brk .brk
 | cont:FlRel T ι h .cont .cont
 | ret {v:V} {x:Value} (r:VRel T ι h v x):FlRel T ι h (.ret v) (.ret x)
noncomputable abbrev QS:=Fl → Loc → Hp → Prop
noncomputable abbrev XS:=Str → Hp → Prop
inductive PostS (T:Tp) (A:Around) (fs:List Env) (d:Nat) (env:Env) (F:List Addr) (Q:QS) (ι:Inj) (h:Heap) (f:Flow) (s':Shared):Prop where
 | mk (fl:Fl) (ρ':Loc) (σ':Hp) (ι':Inj) (h0:Q fl ρ' σ') (h1:FlRel T ι' s'.heap fl f) (h2:Inv T A fs d env F ρ' ι' σ' s') (h3:Ext T F ι h ι' s'.heap):PostS T A fs d env F Q ι h f s'
inductive PostSX (T:Tp) (A:Around) (fs:List Env) (d:Nat) (env:Env) (F:List Addr) (X:XS) (ι:Inj) (h:Heap) (x:Value) (s':Shared):Prop where
 | mk (ea:Addr) (c:Str) (ρ':Loc) (σ':Hp) (ι':Inj) (h0:x = .ref ea) (h1:X c σ') (h2:Fly T h.objs.size ea c s'.heap) (h3:ea ∉ own ι') (h4:Inv T A fs d env F ρ' ι' σ' s') (h5:Ext T F ι h ι' s'.heap):PostSX T A fs d env F X ι h x s'
noncomputable def ExOk (T:Tp) (d:Nat) (sc:Scope) (ρ:Loc) (X:XS) (ss:List Stmt) (Q:QS) (σ:Hp):Prop :=
 ∀ env A fs F ι s,env.scope = sc → Inv T A fs d env F ρ ι σ s → wpAny (model T.prog T.w) A (execs ss env) (PostS T A fs d env F Q ι s.heap) (PostSX T A fs d env F X ι s.heap) s
noncomputable def StOk (T:Tp) (d:Nat) (sc:Scope) (ρ:Loc) (X:XS) (st:Stmt) (Q:QS) (σ:Hp):Prop :=
 ∀ env A fs F ι s,env.scope = sc → Inv T A fs d env F ρ ι σ s → wpAny (model T.prog T.w) A (exec st env) (PostS T A fs d env F Q ι s.heap) (PostSX T A fs d env F X ι s.heap) s
section
variable {T:Tp} {A:Around} {fs:List Env} {d:Nat} {env:Env} {F:List Addr} {ι ι₁:Inj} {h h₁:Heap} {s s':Shared} {ρ:Loc} {σ:Hp} {sc:Scope}
theorem PostS.trans {Q:QS} {f:Flow} (e:Ext T F ι h ι₁ h₁) (p:PostS T A fs d env F Q ι₁ h₁ f s'):PostS T A fs d env F Q ι h f s' :=
 by obtain ⟨fl,ρ',σ',ι',q,r,i,e'⟩:=p; exact ⟨fl,ρ',σ',ι',q,r,i,e.trans e'⟩
theorem PostSX.trans {X:XS} {x:Value} (e:Ext T F ι h ι₁ h₁) (p:PostSX T A fs d env F X ι₁ h₁ x s'):PostSX T A fs d env F X ι h x s' :=
 by obtain ⟨ea,c,ρ',σ',ι',a,b,f,n,i,e'⟩:=p; exact ⟨ea,c,ρ',σ',ι',a,b,f.lo e.size,n,i,e.trans e'⟩
theorem PostS.mono {Q Q':QS} {f:Flow} (p:PostS T A fs d env F Q ι h f s') (k:∀ fl ρ σ,Q fl ρ σ → Q' fl ρ σ):PostS T A fs d env F Q' ι h f s' :=
 by obtain ⟨fl,ρ',σ',ι',q,r,i,e'⟩:=p; exact ⟨fl,ρ',σ',ι',k _ _ _ q,r,i,e'⟩
theorem PostSX.mono {X X':XS} {x:Value} (p:PostSX T A fs d env F X ι h x s') (k:∀ c σ,X c σ → X' c σ):PostSX T A fs d env F X' ι h x s' :=
 by obtain ⟨ea,c,ρ',σ',ι',a,b,f,n,i,e'⟩:=p; exact ⟨ea,c,ρ',σ',ι',a,k _ _ b,f,n,i,e'⟩
theorem Ext.up (e:Ext T [] ι h ι₁ h₁):Ext T F ι h ι₁ h₁:=e.weaken fun a ha => by simp at ha
theorem PostX.sx {X:QX} {XX:XS} {x:Value} (I:Inv T A fs d env F ρ ι σ s) (p:PostX T [] X ι s.heap x s') (k:∀ c σ,X c σ → XX c σ):PostSX T A fs d env F XX ι s.heap x s' :=
 by obtain ⟨ea,c,σ',ι',a,b,f,n,rp,e',g,o⟩:=p; exact ⟨ea,c,ρ,σ',ι',a,k _ _ b,f,n,I.ext e' rp g o,e'.up⟩
theorem StOk.mono {X X':XS} {st:Stmt} {Q Q':QS} (x:StOk T d sc ρ X st Q σ) (k:∀ fl ρ σ,Q fl ρ σ → Q' fl ρ σ) (kx:∀ c σ,X c σ → X' c σ):StOk T d sc ρ X' st Q' σ :=
 fun env A fs F ι s hsc I => Zib (x env A fs F ι s hsc I) (fun zz zz p => p.mono k) fun zz zz p => p.mono kx
theorem ExOk.mono {X X':XS} {st:List Stmt} {Q Q':QS} (x:ExOk T d sc ρ X st Q σ) (k:∀ fl ρ σ,Q fl ρ σ → Q' fl ρ σ) (kx:∀ c σ,X c σ → X' c σ):ExOk T d sc ρ X' st Q' σ :=
 fun env A fs F ι s hsc I => Zib (x env A fs F ι s hsc I) (fun zz zz p => p.mono k) fun zz zz p => p.mono kx
theorem ExOk.nil {X:XS} {Q:QS} (q:Q .next ρ σ):ExOk T d sc ρ X [] Q σ:=fun env A fs F ι s zz I => wpAny_execs_nil ⟨.next,ρ,σ,ι,q,.next,I,.refl ..⟩
theorem ExOk.cons {X:XS} {Q:QS} {st:Stmt} {r:List Stmt} (x:StOk T d sc ρ X st (fun fl ρ' σ' => match fl with | .next => ExOk T d sc ρ' X r Q σ' | fl => Q fl ρ' σ') σ):ExOk T d sc ρ X (st :: r) Q σ:=by
 intro env A fs F ι s hsc I
 refine wpAny_execs_cons (Zib (x env A fs F ι s hsc I) (fun f s₁ p => ?_) fun zz zz p => p)
 obtain ⟨fl,ρ',σ',ι',q,r,i,e⟩:=p
 induction r with
 | next => exact Zib (q env A fs F ι' s₁ hsc i) (fun zz zz p => p.trans e) fun zz zz p => p.trans e
 | brk => exact ⟨_,ρ',σ',ι',q,.brk,i,e⟩
 | cont => exact ⟨_,ρ',σ',ι',q,.cont,i,e⟩
 | ret r => exact ⟨_,ρ',σ',ι',q,.ret r,i,e⟩
theorem StOk.pass {X:XS} {Q:QS} {pos} (q:Q .next ρ σ):StOk T d sc ρ X (.Pass pos) Q σ:=fun env A fs F ι s zz I => wpAny_Pass ⟨.next,ρ,σ,ι,q,.next,I,.refl ..⟩
theorem StOk.brk {X:XS} {Q:QS} {pos} (q:Q .brk ρ σ):StOk T d sc ρ X (.Break pos) Q σ:=fun env A fs F ι s zz I => wpAny_Break ⟨.brk,ρ,σ,ι,q,.brk,I,.refl ..⟩
theorem StOk.cont {X:XS} {Q:QS} {pos} (q:Q .cont ρ σ):StOk T d sc ρ X (.Continue pos) Q σ:=fun env A fs F ι s zz I => wpAny_Continue ⟨.cont,ρ,σ,ι,q,.cont,I,.refl ..⟩
theorem StOk.retNone {X:XS} {Q:QS} {pos} (q:Q (.ret .none) ρ σ):StOk T d sc ρ X (.Return none pos) Q σ:=fun env A fs F ι s zz I => wpAny_Return_none ⟨.ret .none,ρ,σ,ι,q,.ret (VRel.none_mk (T:=T) (ι:=ι) (h:=s.heap)),I,.refl ..⟩
theorem StOk.ret {X:XS} {Q:QS} {e:Expr} {pos} (q:EvOk T d sc ρ X e (fun v σ' => Q (.ret v) ρ σ') σ):StOk T d sc ρ X (.Return (some e) pos) Q σ:=by
 intro env A fs F ι s hsc I
 refine wpAny_Return_some (Zib (q env A fs F ι s hsc I) (fun x s₁ p => ?_) fun zz zz p => p.sx I fun zz zz k => k)
 obtain ⟨v,σ₁,ι₁,q,rv,rp,ex,g,o⟩:=p
 exact ⟨.ret v,ρ,σ₁,ι₁,q,.ret rv,I.ext ex rp g o,ex.up⟩
noncomputable def noComp (e:Expr):Bool:=!(Nat.beq e.ctorIdx 8 || Nat.beq e.ctorIdx 9 || Nat.beq e.ctorIdx 10)
theorem swaps_no {e:Expr} {t:Option Expr} {l:Nat} (h:noComp e = true):swapsWith e t l env = pure false:=by
 cases e <;> first | rfl | exact (Zv h).elim
theorem Inv.inter (I:Inv T A fs d env F ρ ι σ s):interactive env = false:=by simp [interactive,I.frm.kind]
theorem StOk.expr {X:XS} {Q:QS} {e:Expr} {pos} (q:EvOk T d sc ρ X e (fun zz σ' => Q .next ρ σ') σ) (hc:noComp e = true):StOk T d sc ρ X (.Expr e pos) Q σ:=by
 intro env A fs F ι s hsc I
 refine wpAny_Expr_any (Zib (q env A fs F ι s hsc I) (fun x s₁ p => ?_) fun zz zz p => p.sx I fun zz zz k => k) I.inter (swaps_no hc)
 obtain ⟨v,σ₁,ι₁,q,rv,rp,ex,g,o⟩:=p
 exact ⟨.next,ρ,σ₁,ι₁,q,.next,I.ext ex rp g o,ex.up⟩
theorem StOk.ite {X:XS} {Q:QS} {e:Expr} {b o:List Stmt} {pos} (q:TsOk T d sc ρ X e (fun t σ' => if t then ExOk T d sc ρ X b Q σ' else ExOk T d sc ρ X o Q σ') σ):StOk T d sc ρ X (.If e b o pos) Q σ:=by
 intro env A fs F ι s hsc I
 refine wpAny_If (Zib (q env A fs F ι s hsc I) (fun t s₁ p => ?_) fun zz zz p => p.sx I fun zz zz k => k)
 obtain ⟨σ₁,ι₁,q,rp,ex,g,o⟩:=p
 have I₁:=I.ext ex rp g o
 cases t
 · exact Zib (q env A fs F ι₁ s₁ hsc I₁) (fun zz zz p => p.trans ex.up) fun zz zz p => p.trans ex.up
 · exact Zib (q env A fs F ι₁ s₁ hsc I₁) (fun zz zz p => p.trans ex.up) fun zz zz p => p.trans ex.up
noncomputable def DStay (h h':Heap):Prop:=∀ a o es ep,h.get? a = some o → o.data = .dict es ep → ∃ o' es' ep',h'.get? a = some o' ∧ o'.data = .dict es' ep'
noncomputable def isStore (sc:Scope) (x:Str):Bool:=match sc.names.lookup x with
 | some .local | some .cell => true
 | z1 => false
theorem isStore_out {sc:Scope} {x:Str} (h:isStore sc x = true):sc.names.lookup x = some .local ∨ sc.names.lookup x = some .cell:=by
 unfold isStore at h
 generalize sc.names.lookup x = o at h ⊢
 rcases o with zz | k
 · exact (Zv h).elim
 · cases k <;> first | exact .inl rfl | exact .inr rfl | exact (Zv h).elim
theorem isStore_of {sc:Scope} {x:Str} (h:sc.names.lookup x = some .local ∨ sc.names.lookup x = some .cell):isStore sc x = true:=by
 unfold isStore; rcases h with h | h <;> rw [h]
theorem storeCell {M:Model} {A:Around} {E:Value → Shared → Prop} {x:Str} {c:Addr} {o:Obj} {v₀:Option Value} {y:Value} {Q:Unit → Shared → Prop} (hk:env.scope.kind = .function) (hl:env.kindOf x = some .cell) (hc:env.cells.lookup x = some c)
   (ho:s.heap.get? c = some o) (hd:o.data = .cell v₀) (k:∀ h',h'.get? c = some { o with data:=.cell (some y) } → Heap.SameBut c s.heap h' → Q () { s with heap:=h' }):wpAny M A (storeName env x y) Q E s:=by
 unfold storeName
 rw [hl,hk]
 refine Zhb (wpAny_cellOf hc ?_)
 unfold cellSet
 refine Zhb (wpAny_load ho ?_)
 rw [hd]
 exact wpAny_update ho (k _ (Heap.get?_update_self _ ho rfl) (Heap.SameBut.update ..))
theorem Frm.at1 {a:Addr} {o:Obj} (H:Frm T env F ρ ι h) (ha:a ∈ F) (ho:h.get? a = some o):frozen o = false ∧ itr o = false:=(H.there a ha).at ho
structure Turn (F:List Addr) (h h':Heap) (a:Addr) (o o':Obj):Prop where
 mem:a ∈ F
 get:h.get? a = some o
 get':h'.get? a = some o'
 cls:o'.cls = o.cls
 same:Heap.SameBut a h h'
section
variable {h':Heap} {a:Addr} {o o':Obj}
theorem Turn.ext (x:Turn F h h' a o o') (H:Frm T env F ρ ι h):Ext T F ι h ι h':=.of_sameBut x.same x.get x.get' x.cls (H.at1 x.mem x.get).1 (.inr x.mem)
theorem Turn.rep (x:Turn F h h' a o o') (R:Rep T ι σ h) (H:Frm T env F ρ ι h):Rep T ι σ h' :=
 R.keeps (x.ext H).mono (x.ext H).size (fun b z hz => (x.same.2 b fun q => absurd (Zu hz) (Zo.mpr (q ▸ (H.apart a x.mem).2))).trans (R.base b z hz)) fun b hb z hz => (x.same.2 b fun q => (H.apart a x.mem).1 (q ▸ hb)).trans hz
theorem Turn.there (x:Turn F h h' a o o') (H:Frm T env F ρ ι h):∀ b ∈ F,There h' b:=fun b hb =>
 if q:b = a then ⟨o',q ▸ x.get',(frozen_eq x.cls).trans (H.at1 x.mem x.get).1,(itr_eq x.cls).trans (H.at1 x.mem x.get).2⟩ else (H.there b hb).rec fun z g1 g2 g3 => ⟨z,(x.same.2 b q).trans g1,g2,g3⟩
theorem Turn.stay (x:Turn F h h' a o o') (hd:∀ es ep,o.data = .dict es ep → ∃ es' ep',o'.data = .dict es' ep'):DStay h h':=fun b z es ep hz hzd =>
 if q:b = a then Zh (hd es ep (Zab (x.get.symm.trans (q ▸ hz)) ▸ hzd)) fun es' g => Zh g fun ep' g => ⟨o',es',ep',q ▸ x.get',g⟩ else ⟨z,es,ep,(x.same.2 b q).trans hz,hzd⟩
end
theorem upd_at {x:Str} {v:Option V}:upd ρ x v x = v:=if_pos rfl
theorem upd_ne {x z:Str} {v:Option V} (h:z ≠ x):upd ρ x v z = ρ z:=if_neg h
theorem ORelV.upd {x z:Str} {v:V} {y:Value} {m:Option Value} (r:VRel T ι h v y) (k:ORelV T ι h (ρ z) m):ORelV T ι h (Mine.upd ρ x (some v) z) (if z = x then some y else m) :=
 if q:z = x then by rw [q,upd_at,if_pos rfl]; exact .some r else by rw [upd_ne q,if_neg q]; exact k
theorem Frm.locTurn {h':Heap} {x:Str} {v:Option V} {c:String} {m m':Str → Option Value} (R:Rep T ι σ h) (H:Frm T env F ρ ι h) (hk:env.kindOf x = some .local) (hc:nsCls env c) (hn:NsC h env.locals c m) (hn':NsC h' env.locals c m') (hs:Heap.SameBut env.locals h h')
   (hm:∀ z,env.kindOf z = some .local → Mono ι h ι h' → ORelV T ι h' (upd ρ x v z) (m' z)):Rep T ι σ h' ∧ Frm T env F (upd ρ x v) ι h' ∧ Ext T F ι h ι h' ∧ DStay h h':=by
 obtain ⟨o,es,ep,ho,ocl,zz⟩:=hn
 obtain ⟨o',es',ep',ho',ocl',zz,od',zz⟩:=id hn'
 have tn:Turn F h h' env.locals o o':=⟨H.loc,ho,ho',ocl'.trans ocl.symm,hs⟩
 have e:=tn.ext H
 refine ⟨tn.rep R H,⟨H.kind,H.glb,H.blt,⟨c,_,hc,hn',fun z hz => hm z hz e.mono⟩,fun z hz => ?_,H.inj,H.loc,H.cin,H.apart,tn.there H⟩,e,tn.stay fun zz zz zz => ⟨_,_,od'⟩⟩
 obtain ⟨cc,oc,vc,e1,e2,e3,e4,e5,e6⟩:=H.cells z hz
 have ne:cc ≠ env.locals:=fun q => by
   rw [q,ho] at e2; rw [← sm_inj e2,ocl] at e3
   rcases hc.1 with q | q <;> rw [q] at e3 <;> exact absurd (Value.type.inj e3) (by decide)
 have ne2:z ≠ x:=fun q => by rw [q,hk] at hz; rcases hz with hz | hz <;> cases hz
 exact ⟨cc,oc,vc,e1,(hs.2 cc ne).trans e2,e3,e4,upd_ne ne2 ▸ e5.mono e.mono,e6⟩
theorem store_local {M:Model} {A:Around} {E:Value → Shared → Prop} {x:Str} {v:V} {y:Value} {Q:Unit → Shared → Prop} (R:Rep T ι σ s.heap) (H:Frm T env F ρ ι s.heap) (hk:env.kindOf x = some .local) (r:VRel T ι s.heap v y)
   (k:∀ h' t,Rep T ι σ h' → Frm T env F (upd ρ x (some v)) ι h' → Ext T F ι s.heap ι h' → DStay s.heap h' → (∃ a,Heap.SameBut a s.heap h' ∧ (a = env.locals ∨ (env.kindOf x = some .cell ∧ env.cells.lookup x = some a))) → Q () { s with heap:=h',toks:=t }):wpAny M A (storeName env x y) Q E s:=by
 obtain ⟨c,m,hc,hn,hr⟩:=H.ns
 rw [storeName_local hk (by rw [H.kind]; rfl)]
 refine nsSetC hn fun h' hn' hs => ?_
 obtain ⟨R',H',e,ds⟩:=H.locTurn R hk hc hn hn' hs fun z hz mo => .upd (r.mono mo) ((hr z hz).mono mo)
 exact k h' _ R' H' e ds ⟨env.locals,hs,.inl rfl⟩
theorem store_cell {M:Model} {A:Around} {E:Value → Shared → Prop} {x:Str} {v:V} {y:Value} {Q:Unit → Shared → Prop} (R:Rep T ι σ s.heap) (H:Frm T env F ρ ι s.heap) (hk:env.kindOf x = some .cell) (r:VRel T ι s.heap v y)
   (k:∀ h' t,Rep T ι σ h' → Frm T env F (upd ρ x (some v)) ι h' → Ext T F ι s.heap ι h' → DStay s.heap h' → (∃ a,Heap.SameBut a s.heap h' ∧ (a = env.locals ∨ (env.kindOf x = some .cell ∧ env.cells.lookup x = some a))) → Q () { s with heap:=h',toks:=t }):wpAny M A (storeName env x y) Q E s:=by
 obtain ⟨c,m,hc,hn,hr⟩:=H.ns
 obtain ⟨cc,oc,vc,e1,e2,e3,e4,e5,e6⟩:=H.cells x (.inl hk)
 refine storeCell H.kind hk e1 e2 e4 fun h' ho' hs => ?_
 have tn:Turn F s.heap h' cc oc { oc with data:=.cell (some y) }:=⟨H.cin x cc hk e1,e2,ho',rfl,hs⟩
 have e:=tn.ext H
 have lne:env.locals ≠ cc:=fun q => by
   obtain ⟨o,es,ep,ho,zz,zz,od,zz⟩:=id hn
   rw [q,e2] at ho; rw [← sm_inj ho,e4] at od; cases od
 refine k h' _ (tn.rep R H) ⟨H.kind,H.glb,H.blt,⟨c,m,hc,hn.sameBut hs lne,fun z hz => ?_⟩,fun z hz => ?_,H.inj,H.loc,H.cin,H.apart,tn.there H⟩ e (tn.stay fun zz zz q => by rw [e4] at q; cases q) ⟨cc,hs,.inr ⟨hk,e1⟩⟩
 · have ne:z ≠ x:=fun q => by rw [q,hk] at hz; cases hz
   exact upd_ne ne ▸ (hr z hz).mono e.mono
 · by_cases q:z = x
   · exact ⟨cc,_,some y,q ▸ e1,ho',e3,rfl,by rw [q,upd_at]; exact .some (r.mono e.mono),e6⟩
   · obtain ⟨c2,o2,v2,f1,f2,f3,f4,f5,f6⟩:=H.cells z hz
     have ne:c2 ≠ cc:=fun p => q (H.inj z x c2 hz (.inl hk) f1 (p ▸ e1))
     exact ⟨c2,o2,v2,f1,(hs.2 c2 ne).trans f2,f3,f4,upd_ne q ▸ f5.mono e.mono,f6⟩
theorem store_at {M:Model} {A:Around} {E:Value → Shared → Prop} {x:Str} {v:V} {y:Value} {Q:Unit → Shared → Prop} (R:Rep T ι σ s.heap) (H:Frm T env F ρ ι s.heap) (hk:isStore env.scope x = true) (r:VRel T ι s.heap v y)
   (k:∀ h' t,Rep T ι σ h' → Frm T env F (upd ρ x (some v)) ι h' → Ext T F ι s.heap ι h' → DStay s.heap h' → (∃ a,Heap.SameBut a s.heap h' ∧ (a = env.locals ∨ (env.kindOf x = some .cell ∧ env.cells.lookup x = some a))) → Q () { s with heap:=h',toks:=t }):wpAny M A (storeName env x y) Q E s :=
 (isStore_out hk).elim (fun e => store_local R H e r k) fun e => store_cell R H e r k
theorem store_ok {M:Model} {A:Around} {E:Value → Shared → Prop} {x:Str} {v:V} {y:Value} {Q:Unit → Shared → Prop} (R:Rep T ι σ s.heap) (H:Frm T env F ρ ι s.heap) (hk:isStore env.scope x = true) (r:VRel T ι s.heap v y)
   (k:∀ h' t,Rep T ι σ h' → Frm T env F (upd ρ x (some v)) ι h' → Ext T F ι s.heap ι h' → DStay s.heap h' → Q () { s with heap:=h',toks:=t }):wpAny M A (storeName env x y) Q E s :=
 store_at R H hk r fun h' t R' H' e ds zz => k h' t R' H' e ds
theorem Inv.stored {ρ':Loc} {h':Heap} {t:Nat} (I:Inv T A fs d env F ρ ι σ s) (R:Rep T ι σ h') (H:Frm T env F ρ' ι h') (e:Ext T F ι s.heap ι h') (ds:DStay s.heap h'):Inv T A fs d env F ρ' ι σ { s with heap:=h',toks:=t } :=
 ⟨R,I.aok.ext e (fun en hen L hf zz => by
   obtain ⟨zz,L',o,es,ep,f,zz,zz,g,zz,dd⟩:=I.aok.funs en hen
   rw [hf] at f; cases f
   exact ds L o es ep g dd) (fun a ha => (by obtain ⟨o,g,_,gi⟩:=I.frm.there a ha; exact ⟨o,g,gi⟩)),H,I.top,I.gens,I.os⟩
theorem StOk.assign {X:XS} {Q:QS} {x:Str} {pos' pos:Pos} {e:Expr} (q:EvOk T d sc ρ X e (fun v σ' => Q .next (upd ρ x (some v)) σ') σ) (hc:noComp e = true) (hk:isStore sc x = true) :
   StOk T d sc ρ X (.Assign [.Name x pos'] e pos) Q σ:=by
 intro env A fs F ι s hsc I
 refine wpAny_Assign_Name (Zib (q env A fs F ι s hsc I) (fun y s₁ p => ?_) fun zz zz p => p.sx I fun zz zz k => k) (swaps_no hc)
 obtain ⟨v,σ₁,ι₁,q,rv,rp,ex,g,o⟩:=p
 have I₁:=I.ext ex rp g o
 refine store_ok I₁.rep I₁.frm (hsc ▸ hk) rv fun h' t R' H' e' ds => ?_
 exact ⟨.next,_,σ₁,ι₁,q,.next,I₁.stored R' H' e' ds,ex.up.trans e'⟩
end
end
section
noncomputable def bindLoc (ρ:Loc):List Str → List V → Loc
 | p :: ps,v :: vs => bindLoc (upd ρ p (some v)) ps vs
 | z1,z2 => ρ
noncomputable def noFree (sc:Scope):Bool:=sc.names.all fun p => p.2 != .free
inductive FnAt (T:Tp) (v:Value) (ps:List Str) (body:List Stmt) (sc:Scope):Prop where
 | mk (f:Addr) (o:Obj) (fd:FuncData) (h0:v = .ref f) (ho:T.K.lookup f = some o) (hd:o.data = .func fd) (hs:fd.scope = sc) (hbody:fd.body = .stmts body) (hclo:fd.closure = []) (hg:fd.globals = mainGlobals) (hbu:fd.builtins = builtinsNs) (hcd:PySem.W.codeIn T.K fd.code fd.qualname = true)
     (hbind:∀ vals:List Value,vals.length = ps.length → bindArgs fd ⟨vals,[]⟩ = pure (ps.zip vals)) (co:sc.isCoroutine = false) (gen:sc.isGenerator = false) (kind:sc.kind = .function) (par:(ps.all fun p => isStore sc p) = true) (free:noFree sc = true):FnAt T v ps body sc
noncomputable def nodupS:List Str → Bool
 | [] => true
 | x :: r => !r.contains x && nodupS r
theorem zip_lookup {n:Str}:∀ {ps:List Str} {vs:List Value},vs.length = ps.length → n ∈ ps → ((ps.zip vs).lookup n).isNone = false
 | p :: ps,v :: vs,hl,hn => by
   rw [List.zip_cons_cons,List.lookup_cons]
   cases h:n == p
   · exact zip_lookup (Nat.succ.inj hl) ((Zg.mp hn).resolve_left fun e => by rw [e,beq_self_eq_true] at h; cases h)
   · rfl
 | p :: ps,[],hl,z1 => (by cases hl)
theorem fmap_eq {α β:Type} {f g:α → Option β}:∀ {l:List α},(∀ x ∈ l,f x = g x) → l.filterMap f = l.filterMap g:=by
 intro xx
 induction xx with
 | nil =>
   intro z1
   exact rfl
 | cons x r ih =>
   intro h
   rw [List.filterMap_cons,List.filterMap_cons,h x Zt,ih fun y hy => h y (Zd _ hy)]
theorem zip_keys:∀ {ps:List Str} {vs:List Value},vs.length = ps.length → nodupS ps = true → ps.filterMap (fun n => ((ps.zip vs).lookup n).map (n,·)) = ps.zip vs
 | [],z1,z2,z3 => rfl
 | p :: ps,[],hl,z1 => (by cases hl)
 | p :: ps,v :: vs,hl,hn => by
   have h:=Bool.and_eq_true_iff.mp hn
   have hp:p ∉ ps:=fun q => by have:=h.1; rw [List.contains_iff_mem.mpr q] at this; cases this
   rw [List.zip_cons_cons,List.filterMap_cons_some (b:=(p,v)) (by rw [List.lookup_cons,beq_self_eq_true]; rfl)]
   refine congrArg ((p,v) :: ·) (.trans (fmap_eq fun n hn => ?_) (zip_keys (Nat.succ.inj hl) h.2))
   have ne:(n == p) = false:=beq_eq_false_iff_ne.mpr fun e => hp (e ▸ hn)
   rw [List.lookup_cons,ne]
theorem bind_plain {fd:FuncData} {as:List Arg} {kd:List (Option Expr)} {df:List Expr} {vals:List Value} (hp:fd.params = ⟨[],as,none,[],kd,none,df⟩) (hd:fd.defaults = .none) (hn:nodupS (as.map Arg.arg) = true) (hl:vals.length = (as.map Arg.arg).length) :
   bindArgs fd ⟨vals,[]⟩ = pure ((as.map Arg.arg).zip vals):=by
 have e1:((as.map Arg.arg).filter fun n => (((as.map Arg.arg).zip vals).lookup n).isNone) = []:=List.filter_eq_nil_iff.mpr fun n h => by rw [zip_lookup hl h]; exact Zv
 have e2:=zip_keys hl hn
 obtain ⟨nm,qn,pr,bd,sc,g,clo,dfl,kdf,doc,pm,an,code,ct,bu⟩:=fd
 cases hp; cases hd
 have n1:¬ (decide (vals.length > (as.map Arg.arg).length) && (none:Option Arg).isNone) = true:=by rw [hl,decide_eq_false (Zub _)]; exact Zv
 have n2:¬ (!(List.filter (fun n => (List.lookup n ((as.map Arg.arg).zip vals)).isNone) (List.take ((as.map Arg.arg).length - (List.drop (([]:List Value).length - (as.map Arg.arg).length) ([]:List Value)).length) (as.map Arg.arg))).isEmpty) = true:=by
   rw [List.drop_nil]; show ¬ (!(List.filter _ (List.take (as.map Arg.arg).length (as.map Arg.arg))).isEmpty) = true; rw [List.take_length,e1]; exact Zv
 have n3:∀ {α:Type} {f:List (Str × Value) → Sem α} {g:Str × Value → List (Str × Value) → Sem (ForInStep (List (Str × Value)))} {k m:Nat},((forIn ((List.drop k (as.map Arg.arg)).zip (List.drop m ([]:List Value))) ((as.map Arg.arg).zip vals) g:Sem _) >>= f) = f ((as.map Arg.arg).zip vals):=fun {zz f g k m} => by rw [List.drop_nil,List.zip_nil_right]; rfl
 show (if (decide (vals.length > (as.map Arg.arg).length) && (none:Option Arg).isNone) = true then _ else _) = _
 refine (if_neg n1).trans ?_
 show (if (!(List.filter (fun n => (List.lookup n ((as.map Arg.arg).zip vals)).isNone) (List.take ((as.map Arg.arg).length - (List.drop (([]:List Value).length - (as.map Arg.arg).length) ([]:List Value)).length) (as.map Arg.arg))).isEmpty) = true then _ else _) = _
 refine (if_neg n2).trans ?_
 show ((forIn ((List.drop _ (as.map Arg.arg)).zip (List.drop _ ([]:List Value))) ((as.map Arg.arg).zip vals) _:Sem _) >>= _) = _
 refine n3.trans ?_
 show (pure (((as.map Arg.arg) ++ []).filterMap fun n => (((as.map Arg.arg).zip vals).lookup n).map (n,·)):Sem _) = _
 rw [List.append_nil,e2]
noncomputable def scFine (ps:List Str) (sc:Scope):Bool:=(!sc.isCoroutine && !sc.isGenerator) && ((sc.kind == .function && (ps.all fun p => isStore sc p)) && (noFree sc && scOk sc))
noncomputable def plainPr (p:Arguments):Bool:=(p.posonlyargs.isEmpty && p.vararg.isNone) && (p.kwonlyargs.isEmpty && p.kwarg.isNone)
noncomputable def bodyIn:FuncBody → Option (List Stmt)
 | .stmts b => some b
 | z1 => none
noncomputable def fdIn (K:PySem.W.Frag):FuncData → Option (List Str × List Stmt × Scope)
 | ⟨z1,qual,pr,bd,sc,g,clo,dfl,z2,z3,z4,z5,code,z6,bu⟩ =>
   (bodyIn bd).bind fun body => bif ((g == mainGlobals && bu == builtinsNs) && ((clo.isEmpty && dfl == .none) && plainPr pr)) && (PySem.W.codeIn K code qual && (nodupS (pr.args.map (·.arg)) && scFine (pr.args.map (·.arg)) sc)) then some (pr.args.map (·.arg),body,sc) else none
theorem plainPr_out {p:Arguments} (h:plainPr p = true):p = ⟨[],p.args,none,[],p.kw_defaults,none,p.defaults⟩:=by
 obtain ⟨po,as,va,ko,kd,kw,df⟩:=p
 have h:=Bool.and_eq_true_iff.mp h
 cases List.isEmpty_iff.mp (Bool.and_eq_true_iff.mp h.1).1; cases Option.isNone_iff_eq_none.mp (Bool.and_eq_true_iff.mp h.1).2
 cases List.isEmpty_iff.mp (Bool.and_eq_true_iff.mp h.2).1; cases Option.isNone_iff_eq_none.mp (Bool.and_eq_true_iff.mp h.2).2
 rfl
theorem bodyIn_out {b:FuncBody} {x:List Stmt} (h:bodyIn b = some x):b = .stmts x:=by
 cases b <;> first | exact (no_some h).elim | exact congrArg _ (sm_inj h)
theorem cond_some {α:Type} {c:Bool} {a x:α} (h:(bif c then some a else none) = some x):c = true ∧ a = x:=by
 cases c
 · exact (no_some h).elim
 · exact ⟨rfl,sm_inj h⟩
noncomputable def dataIn (K:PySem.W.Frag):Data → Option (List Str × List Stmt × Scope)
 | .func fd => fdIn K fd
 | z1 => none
noncomputable def fnIn (K:PySem.W.Frag):Value → Option (List Str × List Stmt × Scope)
 | .ref f => (K.lookup f).bind fun o => dataIn K o.data
 | z1 => none
theorem fdIn_out {T:Tp} {f:Addr} {o:Obj} {fd:FuncData} {r:List Str × List Stmt × Scope} (ho:T.K.lookup f = some o) (hd:o.data = .func fd) (h:fdIn T.K fd = some r):FnAt T (.ref f) r.1 r.2.1 r.2.2 ∧ scOk r.2.2 = true:=by
 obtain ⟨body,h0,h⟩:=Option.bind_eq_some_iff.mp h
 obtain ⟨hb,h⟩:=cond_some h
 rw [← h]
 unfold scFine at hb
 simp only [Zob,Bool.not_eq_true',beq_iff_eq] at hb
 obtain ⟨⟨⟨h1,h2⟩,⟨hc,hn⟩,hp⟩,h3,h4,⟨h5,h6⟩,⟨h7,h8⟩,h9,h10⟩:=hb
 exact ⟨⟨_,o,fd,rfl,ho,hd,rfl,bodyIn_out h0,List.isEmpty_iff.mp hc,h1,h2,h3,fun vals hl => bind_plain (plainPr_out hp) hn h4 hl,h5,h6,h7,h8,h9⟩,h10⟩
theorem fnIn_out {T:Tp} {v:Value} {ps:List Str} {body:List Stmt} {sc:Scope} (h:fnIn T.K v = some (ps,body,sc)):FnAt T v ps body sc ∧ scOk sc = true:=by
 cases v <;> first | exact (no_some h).elim | skip
 obtain ⟨o,ho,h⟩:=Option.bind_eq_some_iff.mp h
 generalize hd:o.data = dt at h
 cases dt <;> first | exact (no_some h).elim | exact fdIn_out ho hd h
noncomputable def FnV (T:Tp) (f:V) (ps:List Str) (body:List Stmt) (sc:Scope):Prop:=∀ ι h fv,VRel T ι h f fv → FnAt T fv ps body sc
theorem FnV.glob {T:Tp} {x:Str} {v:Value} {ps body sc} (e:T.g x = some v) (h:FnAt T v ps body sc):FnV T (.glob x) ps body sc:=fun zz zz fv r => by
 cases e.symm.trans r; exact h
theorem FnV.mth {T:Tp} {c x:Str} {v:Value} {ps body sc} (e:T.m c x = some v) (h:FnAt T v ps body sc):FnV T (.mth c x) ps body sc:=fun zz zz fv r => by
 cases e.symm.trans r; exact h
noncomputable def retQ (Q:QE):QS:=fun fl zz σ => match fl with | .ret v => Q v σ | _ => Q .none σ
theorem pushCells_cls:∀ (names:List (Str × NameKind)) (h:Heap) (c:Addr) (o:Obj),(pushCells h names).get? c = some o → h.objs.size ≤ c → o.cls = .type "cell":=by
 intro xx
 induction xx with
 | nil =>
   intro h c o e hl
   exact absurd (Zu e) (Zo.mpr hl)
 | cons pp r ih =>
   obtain ⟨z1,kind⟩:=pp
   intro h c o e hl
   unfold pushCells at e
   split at e
   · by_cases q:c = h.objs.size
     · subst q
       rw [pushCells_keeps r _ _ _ (Heap.get?_push_size h rfl)] at e
       cases e; rfl
     · exact ih _ c o e (by rw [Zqb]; exact Nat.lt_of_le_of_ne hl (Ne.symm q))
   · exact ih h c o e hl
theorem pushCells_size:∀ (names:List (Str × NameKind)) (h:Heap),h.objs.size ≤ (pushCells h names).objs.size:=by
 intro xx
 induction xx with
 | nil =>
   intro z1
   exact Zl _
 | cons pp r ih =>
   obtain ⟨z1,kind⟩:=pp
   intro h
   unfold pushCells
   split
   · exact Za (by rw [Zqb]; exact Zq (Zs h.objs.size)) (ih _)
   · exact ih h
theorem cellsFrom_acc:∀ (names:List (Str × NameKind)) (n:Nat) (acc:List (Str × Addr)) (x:Str × Addr),x ∈ acc → x ∈ cellsFrom n names acc:=by
 intro xx
 induction xx with
 | nil =>
   intro z1 z2 z3 h
   exact h
 | cons pp r ih =>
   obtain ⟨z1,kind⟩:=pp
   intro n acc x h
   unfold cellsFrom
   split
   · exact ih _ _ x (Zd _ h)
   · exact ih _ _ x h
theorem cellsFrom_mem:∀ (names:List (Str × NameKind)) (n:Nat) (acc:List (Str × Addr)) (x:Str),(x,NameKind.cell) ∈ names → ∃ c,(x,c) ∈ cellsFrom n names acc:=by
 intro xx
 induction xx with
 | nil => intros; contradiction
 | cons pp r ih =>
   obtain ⟨y,kind⟩:=pp
   intro n acc x h
   unfold cellsFrom
   rcases Zg.mp h with e | h
   · cases e
     exact ⟨n,cellsFrom_acc r _ _ _ (by simp)⟩
   · split
     · exact ih _ _ x h
     · exact ih _ _ x h
theorem lookup_of_mem {α:Type}:∀ {l:List (Str × α)} {x:Str} {c:α},(x,c) ∈ l → ∃ c',l.lookup x = some c':=by
 intro xx
 induction xx with
 | nil => intros; contradiction
 | cons pp r ih =>
   obtain ⟨k,v⟩:=pp
   intro x c h
   rw [List.lookup_cons]
   cases hb:x == k with
   | true => exact ⟨v,rfl⟩
   | false =>
     rcases Zg.mp h with e | h
     · cases e; simp at hb
     · exact ih h
section
variable {T:Tp} {A:Around} {fs:List Env} {d:Nat} {ι:Inj} {σ:Hp} {s:Shared} {sc:Scope}
theorem binds_ok {M:Model} {A:Around} {E:Value → Shared → Prop} {env:Env} {F:List Addr} (f:Str × Value → PUnit → Sem (ForInStep PUnit)) (hf:∀ n v u,f (n,v) u = (do storeName env n v; pure (.yield ⟨⟩))) :
   ∀ (ps:List Str) (vs:List V) (xs:List Value) (ρ:Loc) (s:Shared) (Q:PUnit → Shared → Prop),Rep T ι σ s.heap → Frm T env F ρ ι s.heap → VRels T ι s.heap vs xs → xs.length = ps.length → (ps.all fun p => isStore env.scope p) = true →
     (∀ h' t,Rep T ι σ h' → Frm T env F (bindLoc ρ ps vs) ι h' → Ext T F ι s.heap ι h' → DStay s.heap h' → Q ⟨⟩ { s with heap:=h',toks:=t }) → wpAny M A (forIn (ps.zip xs) ⟨⟩ f) Q E s
 | [],vs,xs,ρ,s,Q,R,H,r,hl,z1,k => by
   cases xs with
   | nil =>
     cases vs with
     | nil => rw [List.zip_nil_left,List.forIn_nil]; exact Zjb (k s.heap s.toks R H (.refl ..) fun a o es ep e q => ⟨o,es,ep,e,q⟩)
     | cons => exact (show False from r).elim
   | cons => simp at hl
 | p :: ps,vs,xs,ρ,s,Q,R,H,r,hl,ha,k => by
   cases xs with
   | nil => simp at hl
   | cons x xs =>
     cases vs with
     | nil => exact (show False from r).elim
     | cons v vs =>
       rw [List.zip_cons_cons,List.forIn_cons,hf]
       simp only [List.all_cons,Zob] at ha
       refine Zhb (Zhb (store_ok R H ha.1 r.1 fun h' t R' H' e' ds => Zjb ?_))
       refine binds_ok f hf ps vs xs _ _ Q R' H' (r.2.mono e'.mono) (by simpa using hl) (by simpa using ha.2) fun h'' t' R'' H'' e'' ds' => ?_
       exact k h'' t' R'' H'' (e'.trans e'') fun a o es ep e q => by
         obtain ⟨o₁,es₁,ep₁,g,gd⟩:=ds a o es ep e q
         exact ds' a o₁ es₁ ep₁ g gd
theorem frame_new {L:Addr} {qual:Str} {func:Option Addr} {code:Value} (R:Rep T ι σ s.heap) (hL:L = s.heap.objs.size) (hk:sc.kind = .function) (hf:noFree sc = true) (h₁:Heap) (hh:h₁ = pushCells (s.heap.push { cls:=.type "frame",data:=.dict #[] }) sc.names)
   (env:Env) (he:env = newEnv sc L mainGlobals (cellsFrom (L + 1) sc.names []) qual func code none builtinsNs) :
   ∃ F,(∀ a ∈ F,s.heap.objs.size ≤ a) ∧ Rep T ι σ h₁ ∧ Frm T env F (fun zz => none) ι h₁ ∧ Ext T F ι s.heap ι h₁ ∧ (∃ o,h₁.get? L = some o ∧ o.cls = .type "frame" ∧ o.data = .dict #[] 0):=by
 subst hh he hL
 have ok:=cellsFrom_ok sc.names (s.heap.push { cls:=.type "frame",data:=.dict #[] }) (s.heap.objs.size + 1) [] ⟨fun zz zz hm => ((by cases hm)),List.Pairwise.nil⟩ (by rw [Zqb]; exact Zl _)
 rw [Zqb] at ok
 have keep:∀ b o,s.heap.get? b = some o → (pushCells (s.heap.push { cls:=.type "frame",data:=.dict #[] }) sc.names).get? b = some o:=fun b o e => pushCells_keeps _ _ b o (Zx _ e)
 have hsz:s.heap.objs.size ≤ (pushCells (s.heap.push { cls:=.type "frame",data:=.dict #[] }) sc.names).objs.size:=Za (by rw [Zqb]; (clear ok keep; exact Zq (Zs s.heap.objs.size))) (pushCells_size _ _)
 have hL:=pushCells_keeps sc.names (s.heap.push { cls:=.type "frame",data:=.dict #[] }) _ _ (Heap.get?_push_size s.heap rfl)
 have no:∀ a,s.heap.objs.size ≤ a → a ∉ own ι:=fun a ha q => absurd (R.own_lt q) (Zo.mpr ha)
 have cellAt:∀ x c,(x,c) ∈ cellsFrom (s.heap.objs.size + 1) sc.names [] → s.heap.objs.size + 1 ≤ c ∧ ∃ o,(pushCells (s.heap.push { cls:=.type "frame",data:=.dict #[] }) sc.names).get? c = some o ∧ o.cls = .type "cell" ∧ o.data = .cell none:=fun x c hm => by
   obtain ⟨⟨o,g,gd⟩,hc⟩:=ok.empty x c hm
   exact ⟨hc,o,g,pushCells_cls _ _ c o g (by rw [Zqb]; exact hc),gd⟩
 refine ⟨s.heap.objs.size :: (cellsFrom (s.heap.objs.size + 1) sc.names []).map (·.2),fun a ha => ?_,R.grow hsz keep,?_,.of_keeps hsz keep,⟨_,hL,rfl,rfl⟩⟩
 · rcases Zg.mp ha with rfl | ha
   · exact Zl _
   · obtain ⟨⟨x,c⟩,hm,rfl⟩:=Zsb.mp ha
     exact Nat.le_of_succ_le (cellAt x c hm).1
 · refine ⟨hk,rfl,rfl,⟨"frame",fun zz => none,⟨.inl rfl,fun q => absurd rfl q⟩,⟨_,#[],0,hL,rfl,rfl,rfl,fun e he => by simp at he,List.Pairwise.nil,fun zz => rfl⟩,fun x zz => .none⟩,fun x hx => ?_,fun x y c hx hy h1 h2 => name_of_addr ok.apart (mem_of_lookup h1) (mem_of_lookup h2),Zt,fun x c zz h => Zd _ (Zsb.mpr ⟨(x,c),mem_of_lookup h,rfl⟩),fun a ha => ?_,fun a ha => ?_⟩
   · have hx':sc.names.lookup x = some .cell:=by
       rcases hx with hx | hx
       · exact hx
       · have:=List.all_eq_true.mp hf _ (mem_of_lookup (show sc.names.lookup x = some .free from hx))
         simp at this
     obtain ⟨c,hc⟩:=cellsFrom_mem sc.names (s.heap.objs.size + 1) [] x (mem_of_lookup hx')
     obtain ⟨c',hc'⟩:=lookup_of_mem hc
     obtain ⟨g1,o,g2,g3,g4⟩:=cellAt x c' (mem_of_lookup hc')
     exact ⟨c',o,none,hc',g2,g3,g4,.none,no c' (Nat.le_of_succ_le g1)⟩
   · have hs:s.heap.objs.size ≤ a:=by
       rcases Zg.mp ha with rfl | ha
       · exact Zl _
       · obtain ⟨⟨x,c⟩,hm,rfl⟩:=Zsb.mp ha
         exact Nat.le_of_succ_le (cellAt x c hm).1
     exact ⟨no a hs,Za R.size hs⟩
   · rcases Zg.mp ha with rfl | ha
     · exact ⟨_,hL,rfl,rfl⟩
     · obtain ⟨⟨x,c⟩,hm,rfl⟩:=Zsb.mp ha
       obtain ⟨zz,o,g2,g3,zz⟩:=cellAt x c hm
       exact ⟨o,g2,by simp [frozen,g3],itr_no g3 (by decide)⟩
end
end
section
section
variable {T:Tp} {A:Around} {fs:List Env} {d:Nat} {ι:Inj} {σ:Hp} {s:Shared} {sc:Scope}
theorem PostSX.touched {env:Env} {F:List Addr} {X:XS} {h:Heap} {ρ':Loc} {σ':Hp} {ι':Inj} {ea:Addr} {c:Str} {h':Heap} (x:X c σ') (hn:ea ∉ own ι') (I:Inv T A fs d env F ρ' ι' σ' s) (e:Ext T F ι h ι' s.heap) (f:Fly T h.objs.size ea c s.heap) (hb:T.b0.objs.size ≤ h.objs.size)
   (t:Touch (frs fs) h.objs.size ea s.heap h'):Inv T A fs d env F ρ' ι' σ' { s with heap:=h' } ∧ Ext T F ι h ι' h':=by
 have hle:h.objs.size ≤ ea:=by obtain ⟨zz,zz,zz,zz,zz,q,zz⟩:=f; exact q
 exact ⟨I.touch t f hn hb hle,e.touch t (fun a ha => (by obtain ⟨_,_,o,_,_,g,gc,_⟩:=I.aok.mem ha; exact ⟨o,g,gc⟩)) hle⟩
theorem noted_ok {env:Env} {F:List Addr} {X:XS} {h:Heap} {x:Value} {E:Value → Shared → Prop} {Q:Unit → Shared → Prop} (hb:T.b0.objs.size ≤ h.objs.size) (p:PostSX T A fs d env F X ι h x s)
   (k:∀ ea c ρ' σ' ι' h',x = .ref ea → X c σ' → FlyT T h.objs.size ea c h' → ea ∉ own ι' → Inv T A fs d env F ρ' ι' σ' { s with heap:=h' } → Ext T F ι h ι' h' → Q () { s with heap:=h' }) :
   wpAny (model T.prog T.w) A (noteFrame x env) Q E s:=by
 obtain ⟨ea,c,ρ',σ',ι',rfl,b,f,n,I,e⟩:=p
 refine note_ok I f e.size fun h' t f' => ?_
 obtain ⟨I',e'⟩:=PostSX.touched b n I e f hb t
 exact k ea c ρ' σ' ι' h' rfl b f' n I' e'
theorem leaving_ok {env:Env} {F:List Addr} {X:XS} {h:Heap} {x:Value} {E:Value → Shared → Prop} {Q:Unit → Shared → Prop} (hb:T.b0.objs.size ≤ h.objs.size) (p:PostSX T A fs d env F X ι h x s)
   (k:∀ s',PostSX T A fs d env F X ι h x s' → Q () s'):wpAny (model T.prog T.w) A (leaving env x) Q E s:=by
 unfold leaving
 refine Zhb (noted_ok hb p fun ea c ρ' σ' ι' h' hx b f n I e => ?_)
 subst hx
 refine flight_ok (S:=frs fs) f fun h'' t f' => ?_
 obtain ⟨I',e'⟩:=PostSX.touched b n I e f.fly hb t
 exact k _ ⟨ea,c,ρ',σ',ι',rfl,b,f'.fly,n,I',e'⟩
theorem loop_ok {env:Env} {F:List Addr} {X:XS} {h:Heap} {x:Value} (hb:T.b0.objs.size ≤ h.objs.size) (p:PostSX T A fs d env F X ι h x s) :
   notedBy (model T.prog T.w) A env (fun e s' => cameBackBy (model T.prog T.w) A env (PostSX T A fs d env F X ι h) e s') x s:=by
 unfold notedBy
 refine noted_ok hb p fun ea c ρ' σ' ι' h' hx b f n I e => ?_
 subst hx
 unfold cameBackBy
 have f₀:=f
 obtain ⟨C,oe,vs,v,f1,f2,f3,f4,f5,f6,f7,f8,tb,ot,ts,rfl,zz⟩:=f
 refine Zhb (wpAny_field f3 f5 f8 ?_)
 rw [if_neg (by simp)]
 refine flight_ok (S:=frs fs) f₀ fun h'' t f' => ?_
 obtain ⟨I',e'⟩:=PostSX.touched b n I e f₀.fly hb t
 exact ⟨ea,c,ρ',σ',ι',rfl,b,f'.fly,n,I',e'⟩
noncomputable def CodeOk (T:Tp) (d:Nat) (X:QX) (f:V) (args:List V) (Q:QE) (σ:Hp):Prop :=
 ∀ A fs ι s fv xs,St T A fs d ι σ s → VRel T ι s.heap f fv → VRels T ι s.heap args xs → codeAny (model T.prog T.w) A (.call fv ⟨xs,[]⟩)
   (fun r s' => match r with | .ok (.ret v) => PostE T [] Q ι s.heap v s' | .ok _ => False | .error e => PostX T [] X ι s.heap e s') s
theorem CodeOk.call {f:V} {args:List V} {Q:QE} {X:QX} (h:CodeOk T d X f args Q σ):CallOk T d X f args Q σ:=fun A fs ι s fv xs S rf rxs => wpAny_call (h A fs ι s fv xs S rf rxs)
set_option tactic.hygienic true in
theorem CodeOk.fn {f:V} {ps:List Str} {body:List Stmt} {args:List V} {Q:QE} {X:QX} (TO:TopOk T) (hf:FnV T f ps body sc) (hl:args.length = ps.length)
   (hb:ExOk T d sc (bindLoc (fun _ => none) ps args) X body (retQ Q) σ):CodeOk T (d + 1) X f args Q σ:=by
 intro A fs ι s fv xs S rf rxs
 obtain ⟨fa,o,fd,rfl,ho,hd,rfl,hbody,hclo,hg,hbu,hcd,hbind,co,gen,kind,par,free⟩:=hf ι s.heap fv rf
 have X₁:=TO.X0.keeps S.rep.base
 refine codeAny_call_function (by have:=S.aok.depth; (clear hbind hl S; lia)) (X₁ _ _ ho) hd co gen hbody (PySem.W.codeRec_of X₁ hcd) ?_
 have hlen:xs.length = ps.length:=rxs.length.trans hl
 rw [hbind xs hlen,hclo,hg,hbu]
 refine Zjb ?_
 simp only [newFunctionEnv,Option.isSome_none,Bool.false_eq_true,if_false]
 refine Zhb (wpAny_alloc ?_)
 refine Zhb (wpAny_layCells _ (fun name kind cells => by cases hkc:kind == NameKind.cell <;> simp [hkc]) _ _ _ _ ?_)
 rw [show ({ s with heap:=s.heap.push { cls:=.type "frame",data:=.dict #[] } }:Shared).heap.objs.size = s.heap.objs.size + 1 from Zqb ..]
 refine (frame_new (T:=T) (L:=s.heap.objs.size) (sc:=fd.scope) (qual:=fd.qualname ++ ".<locals>.") (func:=some fa) (code:=fd.code) S.rep rfl kind free _ rfl _ rfl).elim fun F h => and5 h fun hF R₁ H₁ e₁ h => h.elim fun oL h => and3 h fun hoL hcL hdL => ?_
 have d0:A.depth + 1 + d ≤ recursionLimit:=Za (Zr (Nat.succ_add_eq_add_succ A.depth d)) S.aok.depth
 have u0:A.units + 3 + 10 * d + 50 ≤ cLine:=by have:=S.aok.units; clear hbind hl hlen hF R₁ H₁ e₁ hoL hdL; lia
 unfold newEnv at H₁
 generalize hE:({ scope:=fd.scope,locals:=s.heap.objs.size,globals:=mainGlobals,cells:=cellsFrom (s.heap.objs.size + 1) fd.scope.names [],qual:=fd.qualname ++ ".<locals>.",func:=some fa,code:=fd.code,frame:=some s.heap.objs.size,builtins:=builtinsNs }:Env) = env at H₁ ⊢
 have fE:env.frame = some s.heap.objs.size:=hE ▸ rfl
 have sE:env.scope = fd.scope:=hE ▸ rfl
 refine Zhb (binds_ok (T:=T) (ι:=ι) (σ:=σ) (env:=env) (F:=F) _ (fun _ _ _ => rfl) ps args xs (fun _ => none) _ _ R₁ H₁ (rxs.mono e₁.mono) hlen (sE ▸ par) fun h₂ t R₂ H₂ e₂ ds => Zjb ⟨?_,codeAny_func ?_⟩)
 · exact TO.lim.keeps R₂.base
 have e₃:=e₁.trans e₂
 clear e₁ H₁ R₁
 refine ex3 (ds _ _ _ _ hoL hdL) fun oL₂ es ep hL2 => (e₂.cls _ _ hoL (by simp [loose,hcL])).elim fun oL' hL' => ?_
 have hcL₂:oL₂.cls = .type "frame":=(congrArg Obj.cls (sm_inj (hL2.1.symm.trans hL'.1))).trans (hL'.2.trans hcL)
 clear hL' ds e₂ hoL hdL
 have no:∀ a,s.heap.objs.size ≤ a → a ∉ own ι:=fun a ha q => absurd (S.rep.own_lt q) (Zo.mpr ha)
 have aok:AOk T (A.deeper env) (env :: fs) d ι h₂ :=
   ⟨Around.frames_deeper S.aok.frames,fun e he => (Zg.mp he).elim (fun q => q ▸ ⟨sE ▸ kind,s.heap.objs.size,oL₂,es,ep,fE,no _ (Zl _),S.rep.size,hL2.1,hcL₂,hL2.2⟩) fun he => (S.aok.funs e he).rec fun k1 L' o' es' ep' f1 n1 b1 g1 c1 d1 => (e₃.frm L' o' g1 n1 fun q => absurd (Zu g1) (Zo.mpr (hF L' q))).elim fun sl g2 => ⟨k1,L',_,es',ep',f1,n1,b1,g2,c1,d1⟩,
     d0,u0,S.aok.hd,S.aok.hx.keep fun a o C e1 e2 e3 => ⟨e₃.keep a o e1 e3 (fun q => absurd (Zu e1) (Zo.mpr (hF a q))) (by rw [e2]; simp),e3⟩⟩
 have I:Inv T (A.deeper env) (env :: fs) d _ F (bindLoc (fun _ => none) ps args) ι σ { s with heap:=h₂,toks:=t }:=⟨R₂,aok,H₂,⟨env,fs,s.heap.objs.size,rfl,fE,fE⟩,S.gens,S.os⟩
 have dn:∀ {ι':Inj} {h':Heap},Ext T F ι s.heap ι' h' → Ext T [] ι s.heap ι' h':=fun e => e.weaken fun a ha hlt => absurd hlt (Zo.mpr (hF a ha))
 refine Zib (hb _ _ _ F ι _ sE I) (fun fl s' p => ?_) fun e s' p => ?_
 · exact p.rec fun fl' ρ' σ' ι' q r i ex => by
     have ex':=dn (e₃.trans ex)
     induction r with
     | ret r => exact ⟨_,σ',ι',q,r,i.rep,ex',i.gens,i.os⟩
     | _ => exact ⟨.none,σ',ι',q,.none_mk,i.rep,ex',i.gens,i.os⟩
 · refine leaving_ok R₂.size p fun s'' p' => ?_
   obtain ⟨ea,c,ρ',σ',ι',rfl,b,f,n,i,ex⟩:=p'
   exact ⟨ea,c,σ',ι',rfl,b,f.lo e₃.size,n,i.rep,dn (e₃.trans ex),i.gens,i.os⟩
theorem CallOk.fn {f:V} {ps:List Str} {body:List Stmt} {args:List V} {Q:QE} {X:QX} (TO:TopOk T) (hf:FnV T f ps body sc) (hl:args.length = ps.length)
 (hb:ExOk T d sc (bindLoc (fun zz => none) ps args) X body (retQ Q) σ):CallOk T (d + 1) X f args Q σ:=(CodeOk.fn TO hf hl hb).call
end
end
section
structure Kept (P:Heap → Prop):Prop where
 upd:∀ h a f,(h.get? a).isSome = true → P h → P (h.update a f)
 new:∀ h o,P h → P (h.push o)
set_option tactic.hygienic true in
theorem runs_keep {P:Heap → Prop} (K:Kept P) {M:Model} {Γ:Ctx} {p:Pos} {t:Sem Fin} {fs:List Frame} {s s':Shared} {e:End} (h:Runs M Γ p t fs s e s'):P s.heap → P s'.heap:=by
 induction h with
 | done | raise | yield => exact id
 | update ho _ ih => exact fun x => ih (K.upd _ _ _ ho x)
 | alloc _ ih => exact fun x => ih (K.new _ _ x)
 | call _ _ i1 i2 => exact fun x => i2 (i1 x)
 | resumeFresh _ _ _ _ i1 i2 => exact fun x => i2 (i1 x)
 | resumeSuspended _ _ _ _ i1 i2 => exact fun x => i2 (i1 x)
 | segRet _ _ i1 i2 => exact fun x => i2 (i1 x)
 | segGen _ _ i1 i2 => exact fun x => i2 (i1 x)
 | segSuspGen _ _ _ _ i1 i2 => exact fun x => i2 (i1 x)
 | _ => assumption
set_option tactic.hygienic true in
theorem wp_keep {P:Heap → Prop} (K:Kept P) {α:Type} {M:Model} {Γ:Ctx}:∀ (m:Sem α) (Q:α → Pos → Shared → Prop) (E:Value → Pos → Shared → Prop) (p:Pos) (s:Shared),P s.heap → Sem.wp M Γ m Q E p s →
   Sem.wp M Γ m (fun a p' s' => Q a p' s' ∧ P s'.heap) (fun a p' s' => E a p' s' ∧ P s'.heap) p s:=by
 intro m
 induction m with
 | pure a => intro Q E p s hn h; exact ⟨h,hn⟩
 | raise e => intro Q E p s hn h; exact ⟨h,hn⟩
 | unsupported => intro Q E p s hn h; exact h
 | finish => intro Q E p s hn h; exact h
 | update a part f k ih => intro Q E p s hn h; exact ⟨h.1,ih () Q E p _ (K.upd _ _ _ h.1 hn) h.2⟩
 | alloc o k ih => intro Q E p s hn h; exact ih _ Q E p _ (K.new _ _ hn) h
 | load a part k ih => intro Q E p s hn h; obtain ⟨o,ho,h⟩:=h; exact ⟨o,ho,ih o Q E p s hn h⟩
 | call c hh g l k ih => intro Q E p s hn h; obtain ⟨r,s',hr,h⟩:=h; exact ⟨r,s',hr,ih r Q E p s' (runs_keep K hr hn) h⟩
 | choose src m k ih => intro Q E p s hn h; exact ⟨h.1,ih _ Q E p _ hn h.2⟩
 | genState g k ih => intro Q E p s hn h; obtain ⟨st,hs,h⟩:=h; exact ⟨st,hs,ih _ Q E p s hn h⟩
 | resume g r l k ih =>
   intro Q E p s hn h
   obtain ⟨res,s',hw,h⟩:=h
   refine ⟨res,s',hw,ih _ Q E p s' ?_ h⟩
   unfold Wakes at hw
   split at hw
   · exact hw.elim
   · split at hw
     · obtain ⟨e₁,s₁,hr,_,_,rfl⟩:=hw; exact (runs_keep K hr hn :)
     · rw [hw.2]; exact hn
     · rw [hw.2]; exact hn
   · obtain ⟨e₁,s₁,hr,_,_,rfl⟩:=hw; exact (runs_keep K hr hn :)
   · rw [hw.2]; exact hn
   · rw [hw.2]; exact hn
 | await => intro Q E p s hn h; exact h.elim
 | register => intro Q E p s hn h; exact h
 | yield => intro Q E p s hn h; exact h
 | fork => intro Q E p s hn h; exact h
 | _ => rename_i ih; intro Q E p s hn h; exact ih _ Q E _ _ hn h
theorem wpAny_keep {P:Heap → Prop} (K:Kept P) {α:Type} {M:Model} {A:Around} {m:Sem α} {Q:α → Shared → Prop} {E:Value → Shared → Prop} {s:Shared} (hn:P s.heap) (h:wpAny M A m Q E s) :
 wpAny M A m (fun a s' => Q a s' ∧ P s'.heap) (fun a s' => E a s' ∧ P s'.heap) s:=fun Γ p hΓ => wp_keep K m _ _ p s hn (h Γ p hΓ)
theorem wpAny_size {α:Type} {M:Model} {A:Around} {m:Sem α} {Q:α → Shared → Prop} {E:Value → Shared → Prop} {s:Shared} (h:wpAny M A m Q E s) :
   wpAny M A m (fun a s' => Q a s' ∧ s.heap.objs.size ≤ s'.heap.objs.size) (fun a s' => E a s' ∧ s.heap.objs.size ≤ s'.heap.objs.size) s :=
 wpAny_keep (P:=fun h => s.heap.objs.size ≤ h.objs.size) ⟨fun zz zz zz zz x => by rw [Heap.size_after_update]; exact x,fun zz zz x => by rw [Zqb]; exact Zeb x⟩ (Zl _) h
end
section
noncomputable def iterV (σ:Hp) (vv:V):Option (List V):=vv.casesOn (none) (fun _ => none) (fun _ => none) (fun x => some (x.cps.toList.map fun c => .str ⟨#[c]⟩)) (fun vs => some vs) (fun l => atL some σ[l]?) (fun _ => none) (fun _ _ => none) (fun _ => none) (fun _ => none) (fun n => if -(2 ^ 62) ≤ n ∧ n < 2 ^ 62 then some ((List.range n.toNat).map fun (k:Nat) => .int k) else none) (fun _ => none) (fun _ => none) (fun l n => atL (fun vs => if vs.length = n then some vs.reverse else none) σ[l]?)
inductive ItI (T:Tp) (ι:Inj) (h:Heap) (I:Addr) (i:Nat):V → Prop where
 | asc (x:Str) (t:Tok) (it:h.IsStrIter I "str_ascii_iterator" x t i):ItI T ι h I i (.str x)
 | wide (x:Str) (t:Tok) (it:h.IsStrIter I "str_iterator" x t i):ItI T ι h I i (.str x)
 | tup (vs:List V) (a:Addr) (items:Array Value) (n:Nat) (ht:IsT h a items n) (hv:VRels T ι h vs items.toList) (it:h.IsTupleIter I a i):ItI T ι h I i (.tup vs)
 | lst (l:Nat) (a d:Addr) (e:ι[l]? = some (a,d)) (it:h.IsListIter I a i):ItI T ι h I i (.ref l)
 | rng (n:Int) (it:IsRangeIter h I i ((n.toNat:Int) - i) 1):ItI T ι h I i (.rng n)
 | rev (l n:Nat) (a d:Addr) (hi:i ≤ n) (e:ι[l]? = some (a,d)) (it:h.IsRevIter I a ((n:Int) - 1 - i)):ItI T ι h I i (.rev l n)
noncomputable abbrev ItAt (T:Tp) (ι:Inj) (h:Heap) (v:V) (I:Addr) (i:Nat):Prop:=ItI T ι h I i v
section
variable {T:Tp} {A:Around} {fs:List Env} {d:Nat} {env:Env} {F:List Addr} {ι ι':Inj} {h h':Heap} {s:Shared} {ρ:Loc} {σ:Hp} {sc:Scope} {v:V} {I:Addr} {i:Nat}
inductive ItO (h:Heap) (I:Addr):Prop where
 | mk (o:Obj) (n:String) (vs:Array Value) (ho:h.get? I = some o) (hc:o.cls = .type n) (hn:n ∈ itTypes) (hd:o.data = .fields vs):ItO h I
theorem ItO.of {n:String} {P:Obj → Prop} (hn:n ∈ itTypes) (x:∃ o,h.get? I = some o ∧ o.cls = .type n ∧ P o) (k:∀ o,P o → ∃ vs,o.data = .fields vs):ItO h I :=
 Zh x fun o x => Zh (k o x.2.2) fun vs hd => ⟨o,n,vs,x.1,x.2.1,hn,hd⟩
theorem ItI.obj (x:ItAt T ι h v I i):ItO h I:=by
 induction x with
 | asc x t it => exact .of (by decide) it fun zz hd => ⟨_,hd⟩
 | wide x t it => exact .of (by decide) it fun zz hd => ⟨_,hd⟩
 | tup vs a items n ht hv it => exact .of (by decide) it fun zz hd => ⟨_,hd⟩
 | lst l a d e it => exact .of (by decide) it fun zz hd => ⟨_,hd⟩
 | rng n it => exact ⟨_,_,_,it,rfl,by decide,rfl⟩
 | rev l n a d hi e it => exact .of (by decide) it fun zz hd => ⟨_,hd⟩
theorem ItI.iterish (x:ItAt T ι h v I i):∃ o,h.get? I = some o ∧ iterish o = true:=x.obj.rec fun o n zz ho hc hn zz => ⟨o,ho,iterish_of hc hn⟩
theorem keep_it {P:Obj → Prop} (k:∀ o,h.get? I = some o → h'.get? I = some o) (x:∃ o,h.get? I = some o ∧ P o):∃ o,h'.get? I = some o ∧ P o:=Zh x fun o x => ⟨o,k o x.1,x.2⟩
theorem ItI.keep (x:ItAt T ι h v I i) (m:Mono ι h ι' h') (k:∀ o,h.get? I = some o → h'.get? I = some o):ItAt T ι' h' v I i:=by
 induction x with
 | asc x t it => exact .asc x t (keep_it k it)
 | wide x t it => exact .wide x t (keep_it k it)
 | tup vs a items n ht hv it => exact .tup vs a items n (m.frz a _ ht (by simp [frozen])) (hv.mono m) (keep_it k it)
 | lst l a d e it => exact .lst l a d (m.get e) (keep_it k it)
 | rng n it => exact .rng n (k _ it)
 | rev l n a d hi e it => exact .rev l n a d hi (m.get e) (keep_it k it)
theorem Mono.but (hs:∀ b o,b ≠ I → h.get? b = some o → h'.get? b = some o) (ho:∃ o,h.get? I = some o ∧ loose o = true ∧ frozen o = false) (ι:Inj):Mono ι h ι h' where
 pre:=⟨[],by simp⟩
 cls:=fun b o e i => ⟨o,hs b o (fun q => by obtain ⟨o',g,gi,zz⟩:=ho; subst q; rw [e] at g; cases g; rw [i] at gi; cases gi) e,rfl⟩
 frz:=fun b o e f => hs b o (fun q => by
   obtain ⟨o',g,zz,gi⟩:=ho; subst q; rw [e] at g; cases g
   rw [f] at gi; cases gi) e
theorem iterish_frozen {o:Obj} (h:iterish o = true):frozen o = false:=by
 cases f:frozen o with
 | false => rfl
 | true =>
   simp only [frozen,Bool.or_eq_true,beq_iff_eq] at f
   rcases f with f | f <;> rw [iterish_no f (by decide)] at h <;> cases h
theorem Mono.free (hs:∀ b o,b ≠ I → h.get? b = some o → h'.get? b = some o) (ho:∃ o,h.get? I = some o ∧ iterish o = true) (ι:Inj):Mono ι h ι h' :=
 .but hs ((by obtain ⟨o,a,b⟩:=ho; exact ⟨o,a,iterish_loose b,iterish_frozen b⟩)) ι
theorem Inv.free {t:Nat} (I0:Inv T A fs d env F ρ ι σ s) (hs:∀ b o,b ≠ I → s.heap.get? b = some o → h'.get? b = some o) (hz:s.heap.objs.size ≤ h'.objs.size) (ho:∃ o,s.heap.get? I = some o ∧ iterish o = true) (hn:I ∉ own ι) (hb:T.b0.objs.size ≤ I) :
   Inv T A fs d env F ρ ι σ { s with heap:=h',toks:=t }:=by
 have m:Mono ι s.heap ι h':=.free hs ho ι
 have ne:∀ b o,s.heap.get? b = some o → iterish o = false → b ≠ I:=fun b o e i q => Zh ho fun o' g => Zv (i.symm.trans (sm_inj (g.1.symm.trans (q ▸ e)) ▸ g.2))
 exact ⟨I0.rep.keeps m hz (fun a o e => hs a o (fun q => absurd (Zu e) (Zo.mpr (q ▸ hb))) (I0.rep.base a o e)) fun a ha o e => hs a o (fun q => hn (q ▸ ha)) e,
   I0.aok.keeps (fun zz n zz => n) (fun a o g zz c => ⟨o.slots,hs a o (ne a o g (itr_iterish (nsO.itr ⟨_,c,.inl rfl⟩))) g⟩) (I0.aok.hx.keep fun a o C e1 e2 e3 => ⟨hs a o (ne a o e1 (iterish_ref e2)) e1,e3⟩),
   I0.frm.keeps m (fun zz n zz => n) (fun a o g zz i => ⟨o,hs a o (ne a o g (itr_iterish i)) g,rfl⟩) fun a o g zz c zz => ⟨o.slots,hs a o (ne a o g (itr_iterish c.itr)) g⟩,I0.top,I0.gens,I0.os⟩
theorem Ext.free {h₀:Heap} (x:Ext T F ι h₀ ι' h) (hs:∀ b o,b ≠ I → h.get? b = some o → h'.get? b = some o) (hz:h.objs.size ≤ h'.objs.size) (hI:h₀.objs.size ≤ I):Ext T F ι h₀ ι' h':=by
 have ne:∀ b o,h₀.get? b = some o → b ≠ I:=fun b o e q => absurd (Zu e) (Zo.mpr (q ▸ hI))
 refine ⟨x.pre,Za x.size hz,fun a o e i => ?_,fun a o e f => hs a o (ne a o e) (x.frz a o e f),fun a o e n f c => hs a o (ne a o e) (x.keep a o e n f c),fun a o e n f => ?_⟩
 · obtain ⟨o',g,gc⟩:=x.cls a o e i
   exact ⟨o',hs a o' (ne a o e) g,gc⟩
 · obtain ⟨sl,g⟩:=x.frm a o e n f
   exact ⟨sl,hs a _ (ne a o e) g⟩
set_option tactic.hygienic true in
theorem iter_ok {E:Value → Shared → Prop} {x:Value} {items:List V} {Q:Value → Shared → Prop} (R:Rep T ι σ s.heap) (r:VRel T ι s.heap v x) (hi:iterV σ v = some items)
   (k:∀ o,ItAt T ι (s.heap.push o) v s.heap.objs.size 0 → Q (.ref s.heap.objs.size) { s with heap:=s.heap.push o }):wpAny (model T.prog T.w) A (pyIter x) Q E s:=by
 cases v <;> first | exact (no_some hi).elim | skip
 · obtain ⟨t,rfl⟩:=r.str_inv
   rename_i x
   cases ha:x.cps.all (· < 128)
   · exact wpAny_pyIter_wide ha (k _ (.wide _ t ⟨_,Heap.get?_push_size _ rfl,rfl,rfl⟩))
   · exact wpAny_pyIter_ascii ha (k _ (.asc _ t ⟨_,Heap.get?_push_size _ rfl,rfl,rfl⟩))
 · obtain ⟨a,its,n,rfl,ht,hv⟩:=r.tup_inv
   exact wpAny_pyIter_tuple ⟨_,ht,rfl,n,rfl⟩ (k _ (.tup _ a its n (Zx _ ht) (hv.mono (Ext.push T [] ι s.heap _).mono) ⟨_,Heap.get?_push_size _ rfl,rfl,rfl⟩))
 · obtain ⟨a,dd,rfl,e⟩:=r.ref_inv
   obtain ⟨vs,hvs,hi⟩:=atL_out hi
   obtain ⟨its,n,hL,hv⟩:=R.list_at hvs e
   exact wpAny_pyIter_list hL.isList (k _ (.lst _ a dd e ⟨_,Heap.get?_push_size _ rfl,rfl,rfl⟩))
 · rename_i n
   obtain ⟨hn,hi⟩:=ite_some hi
   obtain ⟨a,t1,t2,t3,rfl,hr⟩:=r
   refine wpAny_pyIter_range hr (small_one (by decide) (by decide) hn.1 hn.2) (k _ (.rng n ?_))
   have:Builtin.Range.rangeSize 0 n 1 = (n.toNat:Int):=by unfold Builtin.Range.rangeSize; simp; split <;> (clear k hn hi hr; lia)
   rw [this]
   show _ = _
   rw [Heap.get?_push_size _ rfl]; simp [rawInt]
 · exact r.elim
theorem next_str {x:Str} {i:Nat} {y:V} (hy:(x.cps.toList.map fun c => V.str ⟨#[c]⟩)[i]? = some y):∃ c,x.cps[i]? = some c ∧ y = .str ⟨#[c]⟩:=by
 rw [Zdb] at hy
 obtain ⟨c,hc,e⟩:=Zpb.mp hy
 exact ⟨c,Array.getElem?_toList ▸ hc,e.symm⟩
theorem next_ok {E:Value → Shared → Prop} {items:List V} {y:V} {Q:Option Value → Shared → Prop} (R:Rep T ι σ s.heap) (it:ItAt T ι s.heap v I i) (hn:I ∉ own ι) (hi:iterV σ v = some items) (hy:items[i]? = some y)
   (k:∀ h' t x,Heap.SameBut I s.heap h' → VRel T ι h' y x → ItAt T ι h' v I (i + 1) → Q (some x) { s with heap:=h',toks:=t }):wpAny (model T.prog T.w) A (pyNext (.ref I)) Q E s:=by
 have hit:=it.iterish
 have mono:∀ {h'},Heap.SameBut I s.heap h' → Mono ι s.heap ι h':=fun hs => .free (fun b o hb e => (hs.2 b hb).trans e) hit ι
 induction it with
 | asc x t it =>
   obtain ⟨c,hc,rfl⟩:=next_str (sm_inj hi ▸ hy)
   exact wpAny_pyNext_ascii_item it hc fun h' it' hs => k h' _ _ hs .str_mk (.asc x t it')
 | wide x t it =>
   obtain ⟨c,hc,rfl⟩:=next_str (sm_inj hi ▸ hy)
   exact wpAny_pyNext_wide_item it hc fun h' it' hs => k h' _ _ hs .str_mk (.wide x t it')
 | tup vs a its n ht hv it =>
   obtain ⟨x,hx,rx⟩:=hv.get (sm_inj hi ▸ hy)
   exact wpAny_pyNext_tuple_item it ⟨_,ht,rfl,n,rfl⟩ (Array.getElem?_toList ▸ hx) fun h' it' hs => k h' s.toks x hs (rx.mono (mono hs)) (.tup vs a its n ((mono hs).frz a _ ht (by simp [frozen])) (hv.mono (mono hs)) it')
 | lst l a dd e it =>
   obtain ⟨vs,hvs,hi⟩:=atL_out hi
   obtain ⟨its,n,hL,hv⟩:=R.list_at hvs e
   obtain ⟨x,hx,rx⟩:=hv.get (sm_inj hi ▸ hy)
   exact wpAny_pyNext_list_item it hL.isList (Array.getElem?_toList ▸ hx) fun h' it' hs => k h' s.toks x hs (rx.mono (mono hs)) (.lst l a dd e it')
 | rng n it =>
   obtain ⟨zz,rfl⟩:=ite_some hi
   rw [Zdb] at hy
   obtain ⟨j,hj,rfl⟩:=Zpb.mp hy
   obtain ⟨hlt,hj⟩:=Zb.mp hj
   rw [List.getElem_range] at hj
   rw [List.length_range] at hlt
   subst hj
   refine wpAny_pyNext_range_item it (by (clear k it; lia)) fun h' it' hs => k h' _ _ hs .int_mk (.rng n ?_)
   rw [show ((n.toNat:Int) - ((i + 1:Nat):Int)) = (n.toNat:Int) - i - 1 by (clear it hlt k it'; lia)]
   exact it'
 | rev l n a dd hin e it =>
   obtain ⟨vs,hvs,hi⟩:=atL_out hi
   obtain ⟨hl,rfl⟩:=ite_some hi
   subst hl
   obtain ⟨its,m,hL,hv⟩:=R.list_at hvs e
   have hlt:i < vs.length:=by have:=(Zb.mp hy).1; rwa [List.length_reverse] at this
   rw [List.getElem?_reverse hlt] at hy
   obtain ⟨x,hx,rx⟩:=hv.get hy
   have e1:(vs.length:Int) - 1 - i = ((vs.length - 1 - i:Nat):Int):=by clear k hv it rx; lia
   rw [e1] at it
   refine wpAny_pyNext_rev_item it hL.isList (Array.getElem?_toList ▸ hx) fun h' it' hs => k h' s.toks x hs (rx.mono (mono hs)) (.rev l _ a dd hlt e ?_)
   rw [show (vs.length:Int) - 1 - ((i + 1:Nat):Int) = ((vs.length - 1 - i:Nat):Int) - 1 by clear k hv it rx it'; lia]; exact it'
theorem entry_unchain:entryFor table "proto.unchain" = some Builtin.«proto.unchain»:=entryFor_of_fast (by kernel_rfl)
theorem raiseNew_h {α:Type} {E:Value → Shared → Prop} {e:Addr} {oe:Obj} {vs:Array Value} {Q:α → Shared → Prop} (hx:HandAt A ι s.heap) (he:s.heap.get? e = some oe) (hd:oe.data = .fields vs) (h2:2 < vs.size)
   (k:∀ h',Heap.SameBut e s.heap h' → (∃ oe',h'.get? e = some oe' ∧ oe'.cls = oe.cls) → E (.ref e) { s with heap:=h' }) :
   wpAny (model T.prog T.w) A (raiseNew (.ref e):Sem α) Q E s:=by
 unfold raiseNew
 refine Zhb (wpAny_handled ?_)
 cases hA:A.handled with
 | none => exact Zhb (Zjb (wpAny_throw (k _ (.refl ..) ⟨_,he,rfl⟩)))
 | some v =>
   obtain ⟨ea,o,C,ws,rfl,g1,g2,g3,g4,g5⟩:=hx v hA
   dsimp only
   by_cases q:(Value.ref ea != Value.ref e) = true
   · rw [if_pos q]
     refine Zhb (wpAny_holding (runValue_entry entry_unchain ?_))
     unfold Builtin.«proto.unchain»
     dsimp only
     refine Zhb (wpAny_field g1 g3 g4 ?_)
     rw [if_pos (by decide)]
     refine Zhb (Zjb (Zjb ⟨_,rfl,?_⟩))
     refine Zhb (show wpAny _ _ (setField (.ref e) 2 (.ref ea)) _ _ _ from wpAny_setField he hd h2 (wpAny_throw (k _ (Heap.SameBut.update ..) ⟨_,Heap.get?_update_self _ he (Obj.isFreed_of_fields (Obj.data_mapFields hd _)),Obj.cls_mapFields _ _⟩)))
   · rw [if_neg q]
     exact Zhb (Zjb (wpAny_throw (k _ (.refl ..) ⟨_,he,rfl⟩)))
theorem range_end_h {E:Value → Shared → Prop} {it:Addr} {x left step:Int} {Q:Option Value → Shared → Prop} (hx:HandAt A ι s.heap) (hit:IsRangeIter s.heap it x left step) (hleft:left ≤ 0)
   (hQ:∀ h',Heap.ExtBut it s.heap h' → Q none { s with heap:=h' }):wpAny (model T.prog T.w) A (pyNext (.ref it)) Q E s:=by
 have hT:s.TypeIs (.ref it) "range_iterator":=⟨_,hit,rfl⟩
 unfold pyNext
 refine Zhb (wpAny_attempt (wpAny_callSpecial?_slot (name:=Str.ofString "__next__") hT F.slot_range_iterator_next
   (wpAny_call_entry F.slot_range_iterator_next hT F.entry_range_iterator_next ?_ (F.args_range_iterator_next_1 _))))
 show wpAny _ _ (field (.ref it) 0 >>= _) _ _ s
 refine Zhb (wpAny_field hit rfl (x:=rawInt x) rfl ?_)
 show wpAny _ _ (field (.ref it) 1 >>= _) _ _ s
 refine Zhb (wpAny_field hit rfl (x:=rawInt left) rfl ?_)
 show wpAny _ _ (field (.ref it) 2 >>= _) _ _ s
 refine Zhb (wpAny_field hit rfl (x:=rawInt step) rfl ?_)
 show wpAny _ _ (if left ≤ 0 then _ else _) _ _ s
 rw [if_pos hleft]
 refine Zhb (wpAny_rule ?_)
 refine Zhb ?_
 show wpAny _ _ (newExc (.type "StopIteration") [] >>= _) _ _ _
 refine Zhb ?_
 simp only [newExc,newTuple]
 refine Zhb (wpAny_newObj_type ?_ (by size_fits))
 refine Zhb (m:=firstArgMember _ _) (wpAny_of_eq (a:=Value.none) (by first | rfl | (simp only [firstArgMember]; rfl)) ?_)
 refine wpAny_newObj_type ?_ (by size_fits)
 have kp:∀ (o₁ o₂:Obj) b o,s.heap.get? b = some o → ((s.heap.push o₁).push o₂).get? b = some o:=fun zz zz b o e => Zx _ (Zx _ e)
 have hx1:HandAt A.in1 ι s.heap:=hx
 refine raiseNew_h (ι:=ι) (hx1.keep fun a o C e1 e2 e3 => ⟨kp _ _ _ _ e1,e3⟩) (Heap.get?_push_size _ rfl) rfl (by simp; (clear hleft; exact Zq (Ztb (Nat.succ 2).succ 2))) fun h' hs ho => ?_
 obtain ⟨oe',ho1,ho2⟩:=ho
 refine Zhb (wpAny_isInstance (T:="StopIteration") (b:=true) ⟨_,ho1,ho2⟩ isSubtype_stop ?_)
 refine Zjb (hQ _ fun b o hb e => (hs.2 b (fun q => ?_)).trans (kp _ _ _ _ e))
 have:=Zu e
 rw [q,Zqb] at this
 exact absurd this (Zo.mpr (Nat.le_succ _))
theorem end_ok {E:Value → Shared → Prop} {items:List V} {Q:Option Value → Shared → Prop} (hh:A.handled = none ∨ (HandAt A ι s.heap ∧ ∃ n,v = .rng n)) (R:Rep T ι σ s.heap) (it:ItAt T ι s.heap v I i) (hi:iterV σ v = some items) (hy:items.length ≤ i)
   (k:∀ h',Heap.ExtBut I s.heap h' → s.heap.objs.size ≤ h'.objs.size → Q none { s with heap:=h' }):wpAny (model T.prog T.w) A (pyNext (.ref I)) Q E s:=by
 have hN:(∀ n,v ≠ .rng n) → A.handled = none:=fun q => hh.elim id fun p => p.2.elim fun n e => absurd e (q n)
 have fin:wpAny (model T.prog T.w) A (pyNext (.ref I)) (fun r s' => r = none ∧ ∃ h',s' = { s with heap:=h' } ∧ Heap.ExtBut I s.heap h') E s:=by
   clear k
   induction it with
   | asc x t it => exact wpAny_pyNext_ascii_end (hN nofun) it (by cases sm_inj hi; simpa using hy) fun h' e => ⟨rfl,h',rfl,e⟩
   | wide x t it => exact wpAny_pyNext_wide_end (hN nofun) it (by cases sm_inj hi; simpa using hy) fun h' e => ⟨rfl,h',rfl,e⟩
   | tup vs a its n ht hv it => exact wpAny_pyNext_tuple_end (hN nofun) it ⟨_,ht,rfl,n,rfl⟩ (Array.getElem?_eq_none (by rw [size_eq hv,sm_inj hi]; exact hy)) fun h' e => ⟨rfl,h',rfl,e⟩
   | lst l a dd e it =>
     obtain ⟨vs,hvs,hi⟩:=atL_out hi
     obtain ⟨its,n,hL,hv⟩:=R.list_at hvs e
     exact wpAny_pyNext_list_end (hN nofun) it hL.isList (Array.getElem?_eq_none (by rw [size_eq hv,sm_inj hi]; exact hy)) fun h' e => ⟨rfl,h',rfl,e⟩
   | rng n it =>
     obtain ⟨zz,rfl⟩:=ite_some hi
     simp only [Zc,List.length_range] at hy
     exact hh.elim (fun hh => wpAny_pyNext_range_end hh it (by (clear hN it; lia)) fun h' e => ⟨rfl,h',rfl,e⟩) fun hh => range_end_h hh.1 it (by (clear hh hN it; lia)) fun h' e => ⟨rfl,h',rfl,e⟩
   | rev l n a dd hin e it =>
     obtain ⟨vs,hvs,hi⟩:=atL_out hi
     obtain ⟨hl,rfl⟩:=ite_some hi
     rw [List.length_reverse,hl] at hy
     rw [show (n:Int) - 1 - (i:Int) = -1 from by rw [Nat.le_antisymm hin hy]; clear hN it; lia] at it
     exact wpAny_pyNext_rev_end (hN nofun) it fun h' e => ⟨rfl,h',rfl,e⟩
 refine Zib (wpAny_size fin) (fun r s' p => ?_) fun zz zz p => p.1
 obtain ⟨⟨rfl,h',rfl,e⟩,hz⟩:=p
 exact k h' e hz
theorem letOwned_ok {E:Value → Shared → Prop} {target:Expr} {x:Value} {Q:Unit → Shared → Prop} (it:ItAt T ι s.heap v I i) (k:Q () s):wpAny (model T.prog T.w) A (letOwnedTupleGo target (.ref I) x) Q E s:=by
 obtain ⟨o,n,vs,ho,hc,hn,hd⟩:=it.obj
 have no:["enumerate", "zip", "dict_itemiterator", "dict_reverseitemiterator", "odict_iterator", "itertools.zip_longest", "itertools.pairwise"].contains n = false:=(by decide:∀ n ∈ itTypes,["enumerate", "zip", "dict_itemiterator", "dict_reverseitemiterator", "odict_iterator", "itertools.zip_longest", "itertools.pairwise"].contains n = false) n hn
 have main:∀ a,wpAny (model T.prog T.w) A (do
     let o ← load I
     match o.cls,o.data with
     | .type n,.fields vs =>
       if ["enumerate", "zip", "dict_itemiterator", "dict_reverseitemiterator", "odict_iterator", "itertools.zip_longest", "itertools.pairwise"].contains n && vs[0]? == some (rawInt a) then
         rule "for.unpacks-the-owned-tuple"
         updateField I 0 .none
     | z1,z2 => pure ()) Q E s:=fun a => by
   refine Zhb (wpAny_load ho ?_)
   rw [hc,hd]
   simp only [no,Bool.false_and,Bool.false_eq_true,if_false]
   exact Zjb k
 cases target <;> first | exact Zjb k | (cases x <;> first | exact main _ | exact Zjb k)
end
end
section
noncomputable def nx1 (x:Str) (v:V) (ρ:Loc):Option Loc:=some (upd ρ x (some v))
noncomputable def nx2 (a b:Str) (v:V) (ρ:Loc):Option Loc:=match v with
 | .tup [p,q] => some (upd (upd ρ a (some p)) b (some q))
 | z1 => none
set_option tactic.hygienic true in
theorem nx2_out {a b:Str} {v:V} {ρ ρ':Loc} (h:nx2 a b v ρ = some ρ'):∃ p q,v = .tup [p,q] ∧ upd (upd ρ a (some p)) b (some q) = ρ':=by
 cases v <;> first | exact (no_some h).elim | skip
 rename_i vs
 rcases vs with zz | ⟨p,zz | ⟨q,zz | zz⟩⟩ <;> first | exact (no_some h).elim | exact ⟨p,q,rfl,sm_inj h⟩
noncomputable def loopQ (Q:QS) (N:Loc → Hp → Prop):QS:=fun fl ρ σ => match fl with
 | .next | .cont => N ρ σ
 | .brk => Q .next ρ σ
 | .ret v => Q (.ret v) ρ σ
section
variable {T:Tp} {A:Around} {fs:List Env} {d:Nat} {env:Env} {F:List Addr} {ι ι':Inj} {h h':Heap} {s:Shared} {ρ:Loc} {σ:Hp} {sc:Scope} {v:V} {I:Addr} {i:Nat}
theorem storeI {M:Model} {A':Around} {E:Value → Shared → Prop} {x:Str} {v:V} {y:Value} {Q:Unit → Shared → Prop} (I:Inv T A fs d env F ρ ι σ s) (hk:isStore env.scope x = true) (r:VRel T ι s.heap v y)
   (k:∀ h' t,Inv T A fs d env F (upd ρ x (some v)) ι σ { s with heap:=h',toks:=t } → Ext T F ι s.heap ι h' → Q () { s with heap:=h',toks:=t }):wpAny M A' (storeName env x y) Q E s :=
 store_ok I.rep I.frm hk r fun h' t R' H' e' ds => k h' t (I.stored R' H' e' ds) e'
theorem Inv.grown {h':Heap} (I0:Inv T A fs d env F ρ ι σ s) (hz:s.heap.objs.size ≤ h'.objs.size) (k:∀ b o,s.heap.get? b = some o → h'.get? b = some o):Inv T A fs d env F ρ ι σ { s with heap:=h' } :=
 I0.ext (.of_keeps hz k) (I0.rep.grow hz k) I0.gens I0.os
theorem tupItems {E:Value → Shared → Prop} {a:Addr} {items:Array Value} {n:Nat} {Q:List Value → Shared → Prop} (hh:A.handled = none) (ht:IsT s.heap a items n)
   (k:∀ h',s.heap.objs.size ≤ h'.objs.size → (∀ b o,s.heap.get? b = some o → h'.get? b = some o) → Q items.toList { s with heap:=h' }):wpAny (model T.prog T.w) A (unpackItems (.ref a) items.size none) Q E s:=by
 have fin:wpAny (model T.prog T.w) A (unpackItems (.ref a) items.size none) (fun r s' => r = items.toList ∧ ∃ h',s' = { s with heap:=h' } ∧ Heap.ExtBut s.heap.objs.size s.heap h') E s :=
   unpackItems_tuple hh ⟨_,ht,rfl,n,rfl⟩ fun h' e => ⟨rfl,h',rfl,e⟩
 refine Zib (wpAny_size fin) (fun r s' p => ?_) fun zz zz p => p.1
 obtain ⟨⟨rfl,h',rfl,e⟩,hz⟩:=p
 exact k h' hz fun b o hb => e b o (Nat.ne_of_lt (Zu hb)) hb
noncomputable def AsgOk (T:Tp) (d:Nat) (sc:Scope) (t:Expr) (nx:V → Loc → Option Loc):Prop :=
 ∀ {E:Value → Shared → Prop} {Q:Unit → Shared → Prop} {env:Env} {A:Around} {fs:List Env} {F:List Addr} {ρ ρ':Loc} {ι:Inj} {σ:Hp} {s:Shared} {v:V} {x:Value},env.scope = sc → Inv T A fs d env F ρ ι σ s → VRel T ι s.heap v x → nx v ρ = some ρ' →
   (∀ h' tk,Inv T A fs d env F ρ' ι σ { s with heap:=h',toks:=tk } → Ext T F ι s.heap ι h' → Q () { s with heap:=h',toks:=tk }) → wpAny (model T.prog T.w) A (assign t env x) Q E s
theorem asg_nm {x:Str} {p:Pos} (ht:isStore sc x = true):AsgOk T d sc (.Name x p) (nx1 x):=fun hsc I r hl k => by
 cases hl; exact wpAny_assign_Name (storeI I (hsc ▸ ht) r k)
theorem asg_two {na nb:Str} {pa pb pp:Pos} {kk:Nat} (hd:T.hd = false) (ha:isStore sc na = true) (hb:isStore sc nb = true):AsgOk T d sc (.Tuple [.Name na pa,.Name nb pb] kk pp) (nx2 na nb):=by
 intro E Q env A fs F ρ ρ' ι σ s v x hsc I r hl k
 subst hsc
 obtain ⟨p,q,rfl,rfl⟩:=nx2_out hl
 · obtain ⟨a,items,n,rfl,hT,hv⟩:=r.tup_inv
   obtain ⟨y₁,r₁,e₁,v₁,hv⟩:=VRels.cons_iff.mp hv
   obtain ⟨y₂,r₂,rfl,v₂,hv⟩:=VRels.cons_iff.mp hv
   cases VRels.nil_iff.mp hv
   have hsz:items.size = 2:=by rw [← Array.length_toList,e₁]; rfl
   rw [arm_assign_Tuple]
   refine Zhb (wpAny_standAt ?_)
   unfold unpack
   show wpAny _ _ (do assignInOrder [assign (.Name na _) env,assign (.Name nb _) env] (← holding [.ref a] (unpackItems (.ref a) 2 none))) _ _ _
   refine Zhb (wpAny_holding (hsz ▸ tupItems (I.aok.hd hd) hT fun h' hz hk => ?_))
   have e0:Ext T F ι s.heap ι h':=.of_keeps hz hk
   rw [e₁]
   refine assignInOrder_cons (wpAny_assign_Name (storeI (I.grown hz hk) ha (v₁.mono e0.mono) fun h₂ t₂ I₂ e₂ => ?_))
   refine assignInOrder_cons (wpAny_assign_Name (storeI I₂ hb (v₂.mono (e0.trans e₂).mono) fun h₃ t₃ I₃ e₃ => ?_))
   exact assignInOrder_nil (k h₃ t₃ I₃ (e0.trans (e₂.trans e₃)))
theorem StOk.while {X:XS} {Q:QS} {test:Expr} {body:List Stmt} {pos:Pos} (J:Nat → Loc → Hp → Prop) (n:Nat) (h0:J n ρ σ)
   (turn:∀ n ρ σ,J n ρ σ → TsOk T d sc ρ X test (fun b σ₁ => if b then ExOk T d sc ρ X body (loopQ Q fun ρ₂ σ₂ => ∃ m,m < n ∧ J m ρ₂ σ₂) σ₁ else Q .next ρ σ₁) σ):StOk T d sc ρ X (.While test body [] pos) Q σ:=by
 intro env A fs F ι s hsc I
 have hb:=I.rep.size
 refine wpAny_While (codeAny_whileLoop (fun n s' => ∃ ρ' σ' ι',J n ρ' σ' ∧ Inv T A fs d env F ρ' ι' σ' s' ∧ Ext T F ι s.heap ι' s'.heap) (fun n s' hJ => ?_) n ⟨ρ,σ,ι,h0,I,.refl ..⟩)
 refine ex3 hJ fun ρ' σ' ι' h => and3 h fun j I' e' => ?_
 refine Zib (turn n ρ' σ' j env A fs F ι' s' hsc I') (fun b s₁ p => ?_) fun x s₁ p => loop_ok hb ((p.sx I' fun zz zz k => k).trans e')
 obtain ⟨σ₁,ι₁,q,rp,ex,g,o⟩:=p
 have I₁:=I'.ext ex rp g o
 have e₁:=e'.trans ex.up
 cases b
 · exact wpAny_execs_nil ⟨.next,ρ',σ₁,ι₁,q,.next,I₁,e₁⟩
 · refine Zib (q env A fs F ι₁ s₁ hsc I₁) (fun f s₂ p => ?_) fun x s₂ p => loop_ok hb (p.trans e₁)
   obtain ⟨fl,ρ₂,σ₂,ι₂,q₂,r₂,I₂,e₂⟩:=p
   induction r₂ with
   | next => obtain ⟨m,hm,jm⟩:=q₂; exact ⟨m,hm,ρ₂,σ₂,ι₂,jm,I₂,e₁.trans e₂⟩
   | brk => exact ⟨.next,ρ₂,σ₂,ι₂,q₂,.next,I₂,e₁.trans e₂⟩
   | cont => obtain ⟨m,hm,jm⟩:=q₂; exact ⟨m,hm,ρ₂,σ₂,ι₂,jm,I₂,e₁.trans e₂⟩
   | ret r₂ => exact ⟨.ret _,ρ₂,σ₂,ι₂,q₂,.ret r₂,I₂,e₁.trans e₂⟩
theorem forLoop_any {prog:Program} {w:World} {R:Result → Shared → Prop} {target:Expr} {it:Value} {body orelse:List Stmt} (J:Nat → Shared → Prop)
   (turn:∀ n s,J n s → wpAny (model prog w) A (pyNext it) (fun r s₁ => match r with
     | none => wpAny (model prog w) A (execs orelse env) (fun f s₃ => R (.ok f) s₃) (notedBy (model prog w) A env fun e s' => R (.error e) s') s₁
     | some v => wpAny (model prog w) A (letOwnedTupleGo target it v) (fun zz s₁ => wpAny (model prog w) A (assign target env v) (fun zz s₂ => wpAny (model prog w) A (execs body env) (fun f s₃ => match f with
         | .next | .cont => ∃ m,m < n ∧ J m s₃
         | .brk => R (.ok .next) s₃
         | .ret v => R (.ok (.ret v)) s₃) (notedBy (model prog w) A env fun e s' => R (.error e) s') s₂) (notedBy (model prog w) A env fun e s' => R (.error e) s') s₁) (notedBy (model prog w) A env fun e s' => R (.error e) s') s₁)
     (notedBy (model prog w) A env fun e s' => R (.error e) s') s)
   (n:Nat) (h:J n s):codeAny (model prog w) A (.forLoop target it body orelse env) R s:=by
 refine codeAny_loop' rfl J (fun n s hJ => ?_) n h
 show wpAny _ _ ((forTurn target it body orelse env).onRaise (fun x => do noteFrame x env; theTreesLotGoes x)) _ _ s
 refine wpAny_noted ?_
 simp only [forTurn]
 refine Zhb (wpAny_standAt (Zhb (wpAny_onRaise (Zib (turn n s hJ) (fun r s₁ h₁ => ?_) fun zz zz h' => wpAny_standAt h'))))
 cases r with
 | none => exact Zjb (.inr ⟨rfl,codeAny_block h₁⟩)
 | some v =>
   refine Zhb (Zib h₁ (fun zz s₁ h₁ => ?_) fun zz zz h' => h')
   refine Zhb (Zib h₁ (fun zz s₂ h₂ => Zhb (Zib h₂ (fun f s₃ h₃ => ?_) fun zz zz h' => h')) fun zz zz h' => h')
   cases f with
   | next => exact Zjb (.inl ⟨rfl,h₃⟩)
   | cont => exact Zjb (.inl ⟨rfl,h₃⟩)
   | brk => exact Zjb h₃
   | ret v => exact Zjb h₃
noncomputable def noSet (e:Expr):Bool:=!Nat.beq e.ctorIdx 7
theorem folded_no {e:Expr} {x:Value} (h:noSet e = true):foldedSetIterable e env x = pure x:=by cases e <;> first | rfl | exact (Zv h).elim
inductive ForOk (T:Tp) (d:Nat) (sc:Scope) (X:XS) (nx:V → Loc → Option Loc) (body:List Stmt) (Q:QS) (v:V) (ρ:Loc) (σ₁:Hp):Prop where
 | mk (items:List V) (J:Nat → Loc → Hp → Prop) (h0:J 0 ρ σ₁) (h1:∀ i ρ σ,J i ρ σ → iterV σ v = some items) (h2:∀ ρ σ,J items.length ρ σ → Q .next ρ σ)
     (h3:∀ i x ρ σ,J i ρ σ → items[i]? = some x → ∃ ρ',nx x ρ = some ρ' ∧ ExOk T d sc ρ' X body (loopQ Q (J (i + 1))) σ):ForOk T d sc X nx body Q v ρ σ₁
inductive ItR (T:Tp) (K:V → Hp → Prop) (ι:Inj) (h:Heap) (x:Value) (s':Shared):Prop where
 | of (v:V) (σ':Hp) (ι':Inj) (h0:K v σ') (h1:VRel T ι' s'.heap v x) (h2:Rep T ι' σ' s'.heap) (h3:Ext T [] ι h ι' s'.heap) (h4:s'.gens = #[]) (h5:s'.os = T.os):ItR T K ι h x s'
 | rev (l n:Nat) (I:Addr) (σ':Hp) (ι':Inj) (h0:K (.rev l n) σ') (h1:x = .ref I) (hI:ItAt T ι' s'.heap (.rev l n) I 0) (hn:h.objs.size ≤ I) (ho:I ∉ own ι') (h2:Rep T ι' σ' s'.heap) (h3:Ext T [] ι h ι' s'.heap) (h4:s'.gens = #[]) (h5:s'.os = T.os):ItR T K ι h x s'
noncomputable def ItOk (T:Tp) (d:Nat) (sc:Scope) (ρ:Loc) (X:QX) (e:Expr) (K:V → Hp → Prop) (σ:Hp):Prop :=
 ∀ env A fs F ι s,env.scope = sc → Inv T A fs d env F ρ ι σ s → wpAny (model T.prog T.w) A (eval e env) (ItR T K ι s.heap) (PostX T [] X ι s.heap) s
theorem EvOk.it {X:QX} {e:Expr} {K:V → Hp → Prop} (h:EvOk T d sc ρ X e K σ):ItOk T d sc ρ X e K σ:=fun env A fs F ι s hsc I =>
 Zib (h env A fs F ι s hsc I) (fun zz zz p => (by obtain ⟨v,σ',ι',a,b,c,e,f,g⟩:=p; exact .of v σ' ι' a b c e f g)) fun zz zz p => p
theorem ItOk.reversed {X:QX} {x:Str} {np pos:Pos} {e:Expr} {K:V → Hp → Prop} (TO:TopOk T) (hg:EvOk T d sc ρ X (.Name x np) (fun f σ₁ => f = .type "reversed" ∧ σ₁ = σ) σ) (ns:noStar [e] = true)
   (h:EvOk T d sc ρ X e (fun v σ₁ => ∃ l vs,v = .ref l ∧ σ₁[l]? = some (.list vs) ∧ K (.rev l vs.length) σ₁) σ):ItOk T d sc ρ X (.Call (.Name x np) [e] [] pos) K σ:=by
 have h':EvsOk T d sc ρ X [e] (fun us σ₁ => ∃ v,us = [v] ∧ ∃ l vs,v = .ref l ∧ σ₁[l]? = some (.list vs) ∧ K (.rev l vs.length) σ₁) σ:=EvsOk.cons (h.mono (fun v σ₁ q => EvsOk.nil ⟨v,rfl,q⟩) fun zz zz k => k)
 intro env A fs F ι s hsc I
 rw [arm_eval_Call_Name']
 refine Zhb (Zib (hg env A fs F ι s hsc I) (fun fv s₁ p => ?_) fun zz zz p => p)
 obtain ⟨f,σ₁,ι₁,⟨rfl,rfl⟩,rv,rp,ex,g,o⟩:=p
 subst rv
 have I₁:=I.ext ex rp g o
 rw [starEach_eq ns]
 refine PySem.W.callWith_of (P:=T.K.In) (by rw [show backToKw pos (keywordEach [] env) = [] from rfl]; simp) (keeps_any (f:=.type "reversed") (ι:=ι₁) (h:=s₁.heap) (.inl rfl) (rfl) (.inl rfl)) (evalArgs_list (Zib (h' env A fs F ι₁ s₁ hsc I₁) (fun xs s₂ p => ?_) fun zz zz p => p.trans ex))
 obtain ⟨vs,σ₂,ι₂,⟨v,rfl,l,ls,rfl,hl,q⟩,rvs,rp₂,ex₂,g₂,o₂⟩:=p
 have I₂:=I₁.ext ex₂ rp₂ g₂ o₂
 refine ⟨TO.X0.keeps I₂.rep.base,?_⟩
 obtain ⟨y,r',rfl,ry,rr⟩:=VRels.cons_iff.mp rvs
 cases VRels.nil_iff.mp rr
 obtain ⟨a,dd,rfl,e1⟩:=ry.ref_inv
 obtain ⟨its,n,hL,hv⟩:=rp₂.list_at hl e1
 refine call_reversed_list hL.isList ?_
 have hz:(its.size:Int) = ls.length:=by have:=hv.length; simp only [Array.length_toList] at this; rw [this]
 have e2:Ext T [] ι₂ s₂.heap ι₂ (s₂.heap.push (revObj a ((its.size:Int) - 1))):=.push ..
 refine .rev l ls.length s₂.heap.objs.size σ₂ ι₂ q rfl (.rev l ls.length a dd (Zkb _) e1 ⟨_,Heap.get?_push_size _ rfl,rfl,?_⟩) (Za ex.size ex₂.size) (fun h => absurd (rp₂.own_lt h) (Zub _)) (rp₂.grow e2.size fun b o e => Zx _ e) (ex.trans (ex₂.trans e2)) g₂ o₂
 simp only [revObj,hz]; simp
theorem iter_go {K:V → Hp → Prop} {E:Value → Shared → Prop} {x:Value} {Q:Value → Shared → Prop} {s₁:Shared} (I:Inv T A fs d env F ρ ι σ s) (p:ItR T K ι s.heap x s₁) (hi:∀ v σ,K v σ → ∃ items,iterV σ v = some items)
   (k:∀ v σ₁ ι₁ I h₂,K v σ₁ → Inv T A fs d env F ρ ι₁ σ₁ { s₁ with heap:=h₂ } → Ext T [] ι s.heap ι₁ h₂ → ItAt T ι₁ h₂ v I 0 → I ∉ own ι₁ → s.heap.objs.size ≤ I → Q (.ref I) { s₁ with heap:=h₂ }):wpAny (model T.prog T.w) A (pyIter x) Q E s₁:=by
 cases p with
 | of v σ₁ ι₁ q rv rp ex g o =>
   have I₁:=I.ext ex rp g o
   obtain ⟨items,hit⟩:=hi v σ₁ q
   refine iter_ok I₁.rep rv hit fun ob it0 => ?_
   have e1:Ext T [] ι₁ s₁.heap ι₁ (s₁.heap.push ob):=.push ..
   exact k v σ₁ ι₁ _ _ q (I₁.grown (h':=s₁.heap.push ob) e1.size fun b o e => Zx _ e) (ex.trans e1) it0 (fun q => absurd (I₁.rep.own_lt q) (Zub _)) ex.size
 | rev l n J σ₁ ι₁ q e hI hn ho rp ex g o =>
   subst e
   have hr:∃ a j,s₁.heap.IsRevIter J a j:=by cases hI; exact ⟨_,_,by assumption⟩
   obtain ⟨a,zz,hr⟩:=hr
   exact wpAny_pyIter_revIter hr (k _ σ₁ ι₁ J s₁.heap q (I.ext ex rp g o) ex hI ho hn)
theorem StOk.forG {X:XS} {Q:QS} {target iter:Expr} {body:List Stmt} {pos:Pos} {nx:V → Loc → Option Loc}
   (he:ItOk T d sc ρ X iter (fun v σ₁ => ForOk T d sc X nx body Q v ρ σ₁) σ)
   (ha:AsgOk T d sc target nx) (hs:noSet iter = true) (hd:T.hd = false):StOk T d sc ρ X (.For target iter body [] pos) Q σ:=by
 intro env A fs F ι s hsc I
 have hb:=I.rep.size
 refine wpAny_For (Zib (he env A fs F ι s hsc I) (fun x s₁ p => ?_) fun zz zz p => p.sx I fun zz zz k => k) fun zz => folded_no hs
 refine iter_go I p (fun v σ ⟨items,J,h0,h1,_,_⟩ => ⟨items,h1 0 _ _ h0⟩) fun v σ₁ ι₁ Ia h₂ ⟨items,J,j0,jit,jend,jturn⟩ I₂ e1 it0 hn0 hI0 => ?_
 have hbI:T.b0.objs.size ≤ Ia:=Za hb hI0
 obtain ⟨JJ,hJJ⟩:∃ JJ:Nat → Shared → Prop,∀ n s',JJ n s' ↔ ∃ i ρ' σ' ι',n = items.length - i ∧ i ≤ items.length ∧ J i ρ' σ' ∧ Inv T A fs d env F ρ' ι' σ' s' ∧ Ext T F ι s.heap ι' s'.heap ∧ ItAt T ι' s'.heap v Ia i ∧ Ia ∉ own ι':=⟨_,fun zz zz => Iff.rfl⟩
 refine forLoop_any JJ (fun n s' hJ => ?_) items.length ((hJJ _ _).mpr ⟨0,ρ,σ₁,ι₁,rfl,Zkb _,j0,I₂,e1.up,it0,hn0⟩)
 refine ex4 ((hJJ _ _).mp hJ) fun i ρ' σ' ι' h => and7 h fun hn0 hi j I' e' it hn => ?_
 clear h
 subst hn0
 have isit:=it.iterish
 have hF:Ia ∉ F:=fun q => by
   obtain ⟨o1,g1,zz,g3⟩:=I'.frm.there _ q
   obtain ⟨o2,g4,g5⟩:=isit
   rw [g1] at g4; cases g4; rw [itr_iterish g3] at g5; cases g5
 by_cases hlt:i < items.length
 · have hx:items[i]? = some items[i]:=Zp hlt
   refine next_ok I'.rep it hn (jit i ρ' σ' j) hx fun h' t y hs' ry it' => ?_
   have hk:∀ b o,b ≠ Ia → s'.heap.get? b = some o → h'.get? b = some o:=fun b o hb e => (hs'.2 b hb).trans e
   have I₃:Inv T A fs d env F ρ' ι' σ' { s' with heap:=h',toks:=t }:=I'.free hk (Zr hs'.1.symm) isit hn hbI
   have e₃:Ext T F ι s.heap ι' h':=e'.free hk (Zr hs'.1.symm) hI0
   refine letOwned_ok (s:={ s' with heap:=h',toks:=t }) it' ?_
   obtain ⟨ρ'',hl,hbody⟩:=jturn i _ ρ' σ' j hx
   refine ha hsc I₃ ry hl fun h₄ t₄ I₄ e₄ => ?_
   refine Zib (hbody env A fs F ι' _ hsc I₄) (fun f s₅ p => ?_) fun x s₅ p => loop_ok hb (p.trans (e₃.trans e₄))
   obtain ⟨fl,ρ₅,σ₅,ι₅,q₅,r₅,I₅,e₅⟩:=p
   have e₆:=e₃.trans (e₄.trans e₅)
   have e45:=e₄.trans e₅
   have next:J (i + 1) ρ₅ σ₅ → ∃ m,m < items.length - i ∧ JJ m s₅:=fun q => by
     refine ⟨items.length - (i + 1),Nat.sub_lt_sub_left hlt (Zs i),(hJJ _ _).mpr ⟨i + 1,ρ₅,σ₅,ι₅,rfl,hlt,q,I₅,e₆,?_,?_⟩⟩
     · refine it'.keep e45.mono fun o ho => ?_
       obtain ⟨o',g,gi⟩:=it'.iterish
       rw [ho] at g; cases g
       exact e45.keep _ o ho hn hF fun q => Zv ((iterish_no q (by decide)).symm.trans gi)
     · obtain ⟨o',g,gi⟩:=it'.iterish
       exact e45.not_own hn (Zu g)
   induction r₅ with
   | next => exact next q₅
   | brk => exact ⟨.next,ρ₅,σ₅,ι₅,q₅,.next,I₅,e₆⟩
   | cont => exact next q₅
   | ret r₅ => exact ⟨.ret _,ρ₅,σ₅,ι₅,q₅,.ret r₅,I₅,e₆⟩
 · have:i = items.length:=Nat.le_antisymm hi (Zo.mp hlt)
   subst this
   refine end_ok (.inl (I'.aok.hd hd)) I'.rep it (jit _ ρ' σ' j) (Zl _) fun h' he hz => ?_
   have I₃:Inv T A fs d env F ρ' ι' σ' { s' with heap:=h' }:=I'.free (t:=s'.toks) (fun b o hb e => he b o hb e) hz isit hn hbI
   exact wpAny_execs_nil ⟨.next,ρ',σ',ι',jend ρ' σ' j,.next,I₃,e'.free (fun b o hb e => he b o hb e) hz hI0⟩
end
end
section
structure ClsAt (T:Tp) (c:Str) (C:Addr):Prop where
 addr:T.c c = some C
 ga:PySem.W.findIn T.K (.ref C) "__getattribute__" = some (some (.builtin "object.__getattribute__"))
 gx:PySem.W.findIn T.K (.ref C) "__getattr__" = some none
 sa:PySem.W.findIn T.K (.ref C) "__setattr__" = some (some (.builtin "object.__setattr__"))
 dict:((PySem.W.clsIn T.K C).any (·.hasDict)) = true
 over:PySem.W.plainOver T.K C = true
noncomputable def handV (vv:V):Bool:=vv.casesOn (true) (fun _ => true) (fun _ => true) (fun _ => true) (fun _ => true) (fun _ => true) (fun _ => false) (fun _ _ => false) (fun _ => false) (fun _ => false) (fun _ => true) (fun _ => true) (fun _ => false) (fun _ _ => false)
theorem handed {T:Tp} {ι:Inj} {h:Heap} {v:V} {x:Value} (e:handV v = true) (r:VRel T ι h v x):PySem.W.handedIn x = true:=by
 cases v <;> first | (cases e; done) | skip
 · cases r.none_inv; rfl
 · cases r.bool_inv; rfl
 · obtain ⟨zz,rfl⟩:=r.int_inv; rfl
 · obtain ⟨zz,rfl⟩:=r.str_inv; rfl
 · obtain ⟨zz,zz,zz,rfl,zz⟩:=r.tup_inv; rfl
 · obtain ⟨zz,zz,rfl,zz⟩:=r.ref_inv; rfl
 · obtain ⟨zz,zz,zz,zz,rfl,zz⟩:=r; rfl
 · obtain ⟨zz,zz,zz,rfl,zz⟩:=r; rfl
theorem any_inv {α:Type} {o:Option α} {f:α → Bool} (h:o.any f = true):∃ x,o = some x ∧ f x = true:=by
 cases o with
 | none => cases h
 | some x => exact ⟨x,rfl,h⟩
theorem lookIn_of {o:Obj} {es:Array DictEntry} {ep:Nat} (hd:o.data = .dict es ep) (hk:StrKeys es) (name:Str):PySem.W.lookIn name o = some (nsFind es name):=by
 unfold PySem.W.lookIn
 rw [hd]
 dsimp only
 have hn:nsFind es name = (es.toList.find? (·.key.isStr name)).map (·.val):=by
   rw [Array.find?_toList]; rfl
 rw [hn]
 cases hf:es.toList.find? (·.key.isStr name) with
 | some e => rfl
 | none =>
   have:es.toList.any (·.refKey) = false:=by
     rw [Array.any_toList,Array.any_eq_false']
     intro e he
     obtain ⟨n,t,h⟩:=hk e he
     simp [DictEntry.refKey,h]
   simp [this]
section
variable {T:Tp} {A:Around} {fs:List Env} {d:Nat} {env:Env} {F:List Addr} {ι ι':Inj} {h h':Heap} {s:Shared} {ρ:Loc} {σ:Hp} {sc:Scope} {X:QX} {Q:QE}
inductive InstA (T:Tp) (ι:Inj) (h:Heap) (a dx C:Addr) (fs:List (Str × V)):Prop where
 | mk (sl:Array (Option Value)) (o:Obj) (es:Array DictEntry) (ep:Nat) (h1:h.get? a = some ⟨.ref C,some dx,.plain,sl⟩) (h2:h.get? dx = some o) (h3:PySem.W.InstAt h a ⟨.ref C,some dx,.plain,sl⟩ C (some o)) (h4:o.cls = .type "dict") (h5:o.data = .dict es ep) (h6:StrKeys es) (h7:∀ x,ORelV T ι h (fs.lookup x) (nsFind es x)):InstA T ι h a dx C fs
theorem Rep.inst_at (r:Rep T ι σ h) {l:Nat} {c:Str} {fs:List (Str × V)} {a dx:Addr} {C:Addr} (e:σ[l]? = some (.inst c fs)) (q:ι[l]? = some (a,dx)) (hc:T.c c = some C):InstA T ι h a dx C fs:=by
 obtain ⟨C',m,sl,c1,c2,⟨o,es,ep,d1,d2,d3,d4,d5,d6,d7⟩,c4⟩:=r.objs l _ _ e q
 cases sm_inj (hc.symm.trans c1)
 exact ⟨sl,o,es,ep,c2,d1,⟨c2,rfl,rfl,d1⟩,d2,d4,d5,fun x => d7 x ▸ c4 x⟩
theorem find_own {K:PySem.W.Frag} {C:Addr} {attr:Str} {o:Obj} {es:Array DictEntry} {ep:Nat} {y:Value} (hd:((PySem.W.clsIn K C).any (·.hasDict)) = true) (hf:PySem.W.findIn K (.ref C) attr = some none) (h4:o.data = .dict es ep) (h5:StrKeys es) (hm:nsFind es attr = some y) :
   PySem.W.findObj K C (some o) attr = some (.value y):=by
 obtain ⟨cd,hcd,hdict⟩:=any_inv hd
 unfold PySem.W.findObj
 rw [hcd,Option.bind_some,hf,Option.bind_some]
 have ow:PySem.W.ownOf cd (some o) attr = some (some y):=by
   unfold PySem.W.ownOf
   rw [hdict,if_pos rfl]
   exact (lookIn_of h4 h5 attr).trans (congrArg some hm)
 show (PySem.W.ownOf cd (some o) attr).bind _ = _
 rw [ow]
 rfl
theorem attr_ok {ov v:V} {x:Value} {attr:Str} {l:Nat} {c:Str} {gs:List (Str × V)} {C:Addr} {e:Bool} (TO:TopOk T) (S:St T A fs d ι σ s) (r:VRel T ι s.heap (.ref l) x) (hl:σ[l]? = some (.inst c gs)) (hv:gs.lookup attr = some v) (hh:handV v = true)
   (hc:ClsAt T c C) (hf:PySem.W.findIn T.K (.ref C) attr = some none) (q:Q v σ):wpAny (model T.prog T.w) A (getAttr x attr e) (PostE T [] Q ι s.heap) (PostX T [] X ι s.heap) s:=by
 obtain ⟨a,dx,rfl,hι⟩:=r.ref_inv
 obtain ⟨sl,o,es,ep,h1,h2,IA,h3,h4,h5,h6⟩:=S.rep.inst_at hl hι hc.addr
 obtain ⟨y,hm,rv⟩:=(h6 attr).at hv
 exact PySem.W.get_value (TO.X0.keeps S.rep.base) IA hc.ga (find_own hc.dict hf h4 h5 hm) (handed hh rv) (S.post q rv _)
noncomputable def plainBase (o:Expr):Bool:=o.casesOn (fun _ _ _ => true) (fun _ _ _ => true) (fun _ _ _ _ => true) (fun _ _ _ => true) (fun _ _ _ _ => true) (fun _ _ _ _ => true) (fun _ _ _ => true) (fun _ _ _ => true) (fun _ _ _ _ => true) (fun _ _ _ _ => true) (fun _ _ _ _ _ => true) (fun _ _ _ _ => true) (fun _ _ => true) (fun _ _ => true) (fun _ _ => true) (fun _ _ _ _ => true) (fun f _ _ _ => Nat.beq f.ctorIdx 20) (fun _ _ _ _ => true) (fun _ _ => true) (fun _ _ _ => true) (fun _ _ _ => true) (fun _ _ _ => true) (fun _ _ => true) (fun _ _ => true) (fun _ _ => true) (fun _ _ _ => true) (fun _ _ _ _ => true)
theorem base_plain {o:Expr} {attr:Str} {whole:Sem Value} (h:plainBase o = true):attributeBase o attr env whole = whole:=by
 cases o <;> first | rfl | skip
 cases func <;> first | exact (Zv h).elim | rfl
inductive AttrOk (T:Tp) (attr:Str) (Q:QE) (o:V) (σ₁:Hp):Prop where
 | mk (l:Nat) (c:Str) (gs:List (Str × V)) (v:V) (C:Addr) (h0:o = .ref l) (h1:σ₁[l]? = some (.inst c gs)) (h2:gs.lookup attr = some v) (h3:handV v = true) (h4:ClsAt T c C) (h5:PySem.W.findIn T.K (.ref C) attr = some Option.none) (h6:Q v σ₁):AttrOk T attr Q o σ₁
theorem EvOk.attr {value:Expr} {attr:Str} {pos:Pos} (TO:TopOk T) (hp:plainBase value = true)
   (he:EvOk T d sc ρ X value (fun o σ₁ => AttrOk T attr Q o σ₁) σ) :
   EvOk T d sc ρ X (.Attribute value attr pos) Q σ:=by
 intro env A fs F ι s hsc I
 rw [arm_eval_Attribute,base_plain hp]
 refine Zhb (Zib (he env A fs F ι s hsc I) (fun x s₁ p => ?_) fun zz zz p => p)
 obtain ⟨o,σ₁,ι₁,⟨l,c,gs,v,C,rfl,h1,h2,h3,h4,h5,q⟩,rv,rp,ex,g,oo⟩:=p
 have I₁:=I.ext ex rp g oo
 refine Zhb (wpAny_standAt (Zhb (wpAny_holding (Zib (attr_ok (ov:=.none) TO I₁.st rv h1 h2 h3 h4 h5 q) (fun r s₂ p => ?_) fun zz zz p => p.trans ex))))
 exact Zhb (wpAny_letTemporaryGo (Zjb (p.trans ex)))
structure MethFacts (ty:String) (name:Str) (id:String):Prop where
 pa:PlainAttrs ty
 slot:Slot ty name id
 ty:typeOf (.builtin id) = pure (.type "method_descriptor")
noncomputable def kindO:Option MObj → Option String
 | some (.list z1) => some "list"
 | some (.sdict z1) => some "dict"
 | z1 => none
theorem kindO_out {o:Option MObj} {ty:String} (h:kindO o = some ty):("list" = ty ∧ ∃ vs,o = some (.list vs)) ∨ ("dict" = ty ∧ ∃ vs,o = some (.sdict vs)):=by
 rcases o with zz | o
 · exact (no_some h).elim
 · cases o <;> first | exact .inl ⟨sm_inj h,_,rfl⟩ | exact .inr ⟨sm_inj h,_,rfl⟩ | exact (no_some h).elim
noncomputable def kindV (σ:Hp) (vv:V):Option String:=vv.casesOn (none) (fun _ => none) (fun _ => none) (fun z1 => some "str") (fun _ => none) (fun l => kindO σ[l]?) (fun _ => none) (fun _ _ => none) (fun _ => none) (fun _ => none) (fun _ => none) (fun _ => none) (fun _ => none) (fun _ _ => none)
inductive Resolves (T:Tp) (σ:Hp) (name:Str):V → V → Prop where
 | mth (l:Nat) (c:Str) (gs:List (Str × V)) (C fa:Addr) (h1:σ[l]? = some (.inst c gs)) (h2:gs.lookup name = none) (h3:ClsAt T c C) (h4:PySem.W.findIn T.K (.ref C) name = some (some (.ref fa))) (h5:PySem.W.typeIn T.K (.ref fa) = some (.type "function")) (h6:PySem.W.keepIn T.K (.ref fa) = true):Resolves T σ name (.ref l) (.mth c name)
 | bi {ov:V} {ty id:String} (h1:kindV σ ov = some ty) (h2:MethFacts ty name id):Resolves T σ name ov (.bi id)
noncomputable def Keeps3 (T:Tp) (fv:Value):Prop:=∀ h',T.K.In h' → ∃ k,(k = Keeper.frame ∨ k = Keeper.machine ∨ k = Keeper.boundFrame) ∧ PySem.W.Looks (model T.prog T.w) h' (keeperOf fv) k
theorem kind_type {ov:V} {x:Value} {ty:String} (R:Rep T ι σ s.heap) (r:VRel T ι s.heap ov x) (h1:kindV σ ov = some ty):s.TypeIs x ty ∧ ∀ a,x = .ref a → ∃ o,s.heap.get? a = some o ∧ o.dict = none:=by
 cases ov <;> first | exact (no_some h1).elim | skip
 · obtain ⟨t,rfl⟩:=r.str_inv
   cases sm_inj h1
   exact ⟨rfl,fun zz e => (by cases e)⟩
 · obtain ⟨a,dx,rfl,hι⟩:=r.ref_inv
   rcases kindO_out h1 with ⟨rfl,vs,hvs⟩ | ⟨rfl,kvs,hvs⟩
   · obtain ⟨items,n,hL,hv⟩:=R.list_at hvs hι
     exact ⟨⟨_,hL,rfl⟩,fun zz e => Value.ref.inj e ▸ ⟨_,hL,rfl⟩⟩
   · obtain ⟨rvs,hd,hv,zz⟩:=R.sdict_at hvs hι
     exact ⟨hd.mapOf.typeIs,hd.mapOf.noDict⟩
set_option maxRecDepth 20000 in
theorem meth_bi {ov:V} {id ty:String} {x:Value} {name:Str} {pl:Sem Bool} {E:Value → Shared → Prop} {R:Value × List Value → Shared → Prop} (S:St T A fs d ι σ s) (r:VRel T ι s.heap ov x) (h1:kindV σ ov = some ty) (h2:MethFacts ty name id) (k:R (.builtin id,[x]) s):wpAny (model T.prog T.w) A (getMethod x name pl) R E s :=
 getMethod_builtin (kind_type S.rep r h1).1 h2.pa h2.slot h2.ty (kind_type S.rep r h1).2 k
theorem meth_ok {ov f:V} {x:Value} {name:Str} {pl:Sem Bool} {E:Value → Shared → Prop} {R:Value × List Value → Shared → Prop} (TO:TopOk T) (S:St T A fs d ι σ s) (r:VRel T ι s.heap ov x) (hr:Resolves T σ name ov f)
   (k:∀ fv,VRel T ι s.heap f fv → Keeps3 T fv → R (fv,[x]) s):wpAny (model T.prog T.w) A (getMethod x name pl) R E s:=by
 revert r k
 induction hr with
 | mth l c gs C fa h1 h2 h3 h4 h5 h6 =>
   intro r k
   obtain ⟨a,dx,rfl,hι⟩:=r.ref_inv
   obtain ⟨sl,o,es,ep,g1,g2,IA,g3,g4,g5,g6⟩:=S.rep.inst_at h1 hι h3.addr
   have hm:nsFind es name = none:=by
     have e:=(g6 name).isSome
     rw [h2] at e
     exact Option.not_isSome_iff_eq_none.mp fun q => Zv (e.symm.trans q)
   refine PySem.W.method_fn (TO.X0.keeps S.rep.base) IA h3.ga h3.gx h4 h5 (by unfold PySem.W.shadowIn; simp only [lookIn_of g4 g5,hm]; rfl) (k _ ?_ fun h' X' => PySem.W.keeps_K h6 h' X')
   show Tp.m _ _ _ = _; unfold Tp.m
   rw [h3.addr,Option.bind_some,h4]; rfl
 | bi h1 h2 => exact fun r k => meth_bi S r h1 h2 (k _ rfl fun h' zz => ⟨.machine,.inr (.inl rfl),PySem.W.Looks.of_pure (by unfold keeperOf; rfl)⟩)
theorem EvOk.meth {o:Expr} {name:Str} {apos pos:Pos} {args:List Expr} (TO:TopOk T) (hp:plainBase o = true) (ns:noStar args = true) (hl:(apos.endLine == pos.line) = true) (hn:args.length < 30)
   (he:EvOk T d sc ρ X o (fun ov σ₁ => ∃ f,Resolves T σ₁ name ov f ∧ EvsOk T d sc ρ X args (fun vs σ₂ => CallOk T d X f (ov :: vs) Q σ₂) σ₁) σ) :
   EvOk T d sc ρ X (.Call (.Attribute o name apos) args [] pos) Q σ:=by
 intro env A fs F ι s hsc I
 rw [arm_eval_Call,base_plain hp]
 refine Zhb (Zib (he env A fs F ι s hsc I) (fun x s₁ p => ?_) fun zz zz p => p)
 obtain ⟨ov,σ₁,ι₁,⟨f,hr,q⟩,rv,rp,ex,g,oo⟩:=p
 have I₁:=I.ext ex rp g oo
 refine Zhb (wpAny_standAt ?_)
 rw [starEach_eq ns]
 have hform:methodCallForm (args.length + ([]:List Keyword).length) (args.map fun e => (false,eval e env)) (backToKw pos (keywordEach [] env)) = true:=by
   show ((args.map fun e => (false,eval e env)).all (fun x => !x.1) && (backToKw pos (keywordEach [] env)).all (fun x => x.1.isSome) && decide (args.length + ([]:List Keyword).length + (if ([]:List Keyword).isEmpty then 0 else 1) < 30)) = true
   rw [show backToKw pos (keywordEach [] env) = [] from rfl]
   simp; (clear hl; omega)
 have hpos:methodCallPos true o env apos pos = pure pos:=by unfold methodCallPos; simp [hl]
 unfold methodCall
 rw [hform]
 refine Zhb (wpAny_holding (meth_ok TO I₁.st rv hr fun fv rf hk => ?_))
 refine Zhb (wpAny_of_eq hpos ?_)
 refine PySem.W.callWith_of (P:=T.K.In) (by rw [show backToKw pos (keywordEach [] env) = [] from rfl]; simp) hk (evalArgs_list (Zib (q env A fs F ι₁ s₁ hsc I₁) (fun xs s₂ p => ?_) fun zz zz p => p.trans ex))
 obtain ⟨vs,σ₂,ι₂,q₂,rvs,rp₂,ex₂,g₂,o₂⟩:=p
 have I₂:=I₁.ext ex₂ rp₂ g₂ o₂
 refine ⟨TO.X0.keeps I₂.rep.base,?_⟩
 refine Zib (q₂ A fs ι₂ s₂ fv (x :: xs) I₂.st (rf.mono ex₂.mono) ?_) (fun zz zz p => p.trans (ex.trans ex₂)) fun zz zz p => p.trans (ex.trans ex₂)
 show VRels T ι₂ s₂.heap (ov :: vs) (x :: xs)
 exact ⟨rv.mono ex₂.mono,rvs⟩
end
end
section
noncomputable def setKV (kvs:List (Str × V)) (k:Str) (v:V):List (Str × V) :=
 if kvs.any (fun kv => kv.1 = k) then kvs.map (fun kv => if kv.1 = k then (kv.1,v) else kv) else kvs ++ [(k,v)]
theorem lookup_any {α:Type}:∀ (kvs:List (Str × α)) (k:Str),(kvs.lookup k).isSome = kvs.any fun kv => kv.1 = k:=by
 intro xx
 induction xx with
 | nil =>
   intro z1
   exact rfl
 | cons pp r ih =>
   obtain ⟨k',v⟩:=pp
   intro k
   rw [List.lookup_cons,List.any_cons]
   by_cases h:k = k'
   · subst h; simp
   · have h1:(k == k') = false:=beq_eq_false_iff_ne.mpr h
     have h2:decide (k' = k) = false:=decide_eq_false (Ne.symm h)
     rw [h1,h2]; simpa using ih k
theorem lookup_append {α:Type}:∀ (a b:List (Str × α)) (k:Str),(a ++ b).lookup k = (a.lookup k).or (b.lookup k):=by
 intro xx
 induction xx with
 | nil =>
   intro b k
   simp
 | cons pp r ih =>
   obtain ⟨k',v⟩:=pp
   intro b k
   rw [List.cons_append,List.lookup_cons,List.lookup_cons]
   cases (k == k')
   · exact ih b k
   · simp
theorem lookup_map {v:V} {k:Str}:∀ (kvs:List (Str × V)) (x:Str),(kvs.map fun kv => if kv.1 = k then (kv.1,v) else kv).lookup x = if x = k then (kvs.lookup k).map fun zz => v else kvs.lookup x:=by
 intro xx
 induction xx with
 | nil =>
   intro x
   simp
 | cons pp r ih =>
   obtain ⟨k',w⟩:=pp
   intro x
   rw [List.map_cons]
   by_cases h:k' = k
   · subst h
     simp only [if_true,List.lookup_cons]
     by_cases hx:x = k'
     · subst hx; simp
     · rw [beq_eq_false_iff_ne.mpr hx,if_neg hx,ih x,if_neg hx]
   · simp only [h,if_false,List.lookup_cons]
     by_cases hx:x = k'
     · subst hx; simp [h]
     · rw [beq_eq_false_iff_ne.mpr hx,ih x,beq_eq_false_iff_ne.mpr (Ne.symm h)]
theorem setKV_lookup (kvs:List (Str × V)) (k x:Str) (v:V):(setKV kvs k v).lookup x = if x = k then some v else kvs.lookup x:=by
 unfold setKV
 have ha:=lookup_any kvs k
 split
 · rename_i h
   rw [h] at ha
   rw [lookup_map]
   by_cases hx:x = k
   · rw [if_pos hx,if_pos hx]
     obtain ⟨w,hw⟩:=Option.isSome_iff_exists.mp ha
     rw [hw]; rfl
   · rw [if_neg hx,if_neg hx]
 · rename_i h
   rw [Bool.not_eq_true] at h
   rw [h] at ha
   have hn:kvs.lookup k = none:=by cases q:kvs.lookup k with | none => rfl | some _ => rw [q] at ha; cases ha
   rw [lookup_append]
   by_cases hx:x = k
   · subst hx; rw [hn,if_pos rfl]; simp
   · rw [if_neg hx]
     have:([(k,v)]:List (Str × V)).lookup x = none:=by rw [List.lookup_cons,beq_eq_false_iff_ne.mpr hx]; rfl
     rw [this]; simp
theorem setKV_length (kvs:List (Str × V)) (k:Str) (v:V):(setKV kvs k v).length = if (kvs.lookup k).isSome then kvs.length else kvs.length + 1:=by
 rw [lookup_any]; unfold setKV; split <;> simp
section
variable {T:Tp} {A:Around} {fs:List Env} {d:Nat} {env:Env} {F:List Addr} {ι ι':Inj} {h h':Heap} {s:Shared} {ρ:Loc} {σ:Hp} {sc:Scope} {X:XS} {Q:QS}
theorem KVRel.set {rvs:List (Str × Value)} {kvs:List (Str × V)} {k:Str} {v:V} {x:Value} (e:KVRel T ι h kvs rvs) (r:VRel T ι h v x):KVRel T ι h (setKV kvs k v) (stored rvs k x):=by
 unfold setKV stored
 rw [e.any (k:=k)]
 cases (kvs.any fun kv => decide (kv.1 = k))
 · exact e.push r
 · exact e.put (fun zz => rfl) r
noncomputable def setTK (kvs:List ((Str × Int) × V)) (k:Str × Int) (v:V):List ((Str × Int) × V) :=
 if kvs.any (fun kv => kv.1 = k) then kvs.map (fun kv => if kv.1 = k then (kv.1,v) else kv) else kvs ++ [(k,v)]
theorem KRel.putA {R:V → Value → Prop} {xs:List ((Str × Int) × Addr × Value)} {kvs:List ((Str × Int) × V)} {k:Str × Int} {v:V} {x:Value} (e:KRel (fun v p => R v p.2) kvs xs) (r:R v x):KRel (fun v p => R v p.2) (kvs.map fun kv => if kv.1 = k then (kv.1,v) else kv) (xs.map (putAt k x)):=by
 induction e with
 | nil => exact .nil
 | @cons k' z1 y z2 z3 h z4 ih =>
   rw [List.map_cons,List.map_cons,putAt]
   by_cases e:k' = k
   · rw [if_pos e,if_pos e]; exact .cons (x:=(y.1,x)) r ih
   · rw [if_neg e,if_neg e]; exact .cons h ih
theorem TKRel.set {xs:List ((Str × Int) × Addr × Value)} {kvs:List ((Str × Int) × V)} {k:Str × Int} {v:V} {x:Value} {a:Addr} (e:TKRel T ι h kvs xs) (r:VRel T ι h v x):TKRel T ι h (setTK kvs k v) (storedH xs k a x):=by
 unfold setTK storedH
 rw [e.isSome (k:=k)]
 cases (kvs.any fun kv => decide (kv.1 = k))
 · exact KRel.push (x:=(a,x)) e r
 · exact KRel.putA e r
theorem St.turned {l:Nat} {p:Addr × Addr} {o:MObj} {a:Addr} {ob ob':Obj} {t:Nat} (I:St T A fs d ι σ s) (hp:ι[l]? = some p) (hs:Heap.SameBut a s.heap h') (ha:a = p.1 ∨ a = p.2)
   (h1:s.heap.get? a = some ob) (h2:h'.get? a = some ob') (hc:ob'.cls = ob.cls) (hf:frozen ob = false) (ho:Mono ι s.heap ι h' → ORel T ι h' o p) :
   St T A fs d ι (σ.set l o) { s with heap:=h',toks:=t } ∧ Ext T [] ι s.heap ι h':=by
 have hin:a ∈ own ι:=mem_own.mpr ⟨p,Zn hp,ha⟩
 have e:Ext T [] ι s.heap ι h':=.of_sameBut hs h1 h2 hc hf (.inl hin)
 exact ⟨I.ext (s':={ s with heap:=h',toks:=t }) e (I.rep.turn hp e.mono hs ha (ho e.mono)) I.gens I.os,e⟩
theorem szo1 {n:Nat} (h:n < 1000):n + 1 ≤ sizeLine:=Za h (by decide)
theorem lookup_mem {z:Str} {u:V}:∀ {gs:List (Str × V)},gs.lookup z = some u → z ∈ gs.map (·.1):=by
 intro xx
 induction xx with
 | nil => intros; contradiction
 | cons pp r ih =>
   obtain ⟨k,v⟩:=pp
   intro h
   rw [List.lookup_cons] at h
   rw [List.map_cons]
   by_cases e:z = k
   · rw [e]; exact Zt
   · rw [beq_eq_false_iff_ne.mpr e] at h; exact Zd _ (ih h)
theorem setAttr_ok {E:Value → Shared → Prop} {v:V} {x y:Value} {attr:Str} {l:Nat} {c:Str} {gs:List (Str × V)} {C:Addr} {R:Unit → Shared → Prop} (TO:TopOk T) (I:St T A fs d ι σ s) (r:VRel T ι s.heap (.ref l) x) (rv:VRel T ι s.heap v y)
   (hl:σ[l]? = some (.inst c gs)) (hc:ClsAt T c C) (ht:PySem.W.takerIn T.K C attr = some none) (hsz:gs.length < 1000)
   (k:∀ h' t,St T A fs d ι (σ.set l (.inst c (setKV gs attr v))) { s with heap:=h',toks:=t } → Ext T [] ι s.heap ι h' → R () { s with heap:=h',toks:=t }):wpAny (model T.prog T.w) A (setAttr x attr y) R E s:=by
 obtain ⟨a,dx,rfl,hι⟩:=r.ref_inv
 obtain ⟨C',m,sl,c1,c2,hns,c4⟩:=I.rep.objs l _ _ hl hι
 rw [hc.addr] at c1; cases c1
 have hns0:=hns
 obtain ⟨o,es,ep,d1,d2,d3,d4,d5,d6,d7⟩:=hns0
 have IA:PySem.W.InstAt s.heap a ⟨.ref C,some dx,.plain,sl⟩ C (some o):=⟨c2,rfl,rfl,d1⟩
 have X₁:=TO.X0.keeps I.rep.base
 refine PySem.W.set_plain X₁ IA hc.sa ?_
 refine PySem.W.osa_open (s:={ s with toks:=s.toks + 1 }) X₁ IA hc.over ht fun b => ?_
 obtain ⟨cd,hcd,hdict⟩:=any_inv hc.dict
 refine Zhb (Zjb (Zhb (Zhb (wpAny_loadPart c2 (Zhb ((PySem.W.looks_clsIn (M:=model T.prog T.w) X₁ hcd).here (s:={ s with toks:=s.toks + 1 }) ?_))))))
 rw [hdict]
 refine Zjb (a:=some dx) (Zhb (Zjb (Zhb ?_)))
 refine nsSetC (s:={ s with toks:=s.toks + 1 }) hns fun h' hn' hs => ?_
 have wi:Within (fun x => if x = attr then some y else m x) (attr :: gs.map (·.1)):=Within.cons attr y fun z hz => by
   have c4:=c4 z
   cases hg:gs.lookup z with
   | none => rw [hg] at c4; exact (hz (Option.isNone_iff_eq_none.mp (by rw [← Option.not_isSome,c4.isSome]; rfl))).elim
   | some u => exact lookup_mem hg
 refine ex3 (hn'.ns1.count wi) fun o' es' ep' e' => ?_
 have e1:=e'.1
 refine Zhb (wpAny_lookBehind (s:={ s with heap:=h',toks:=s.toks + 1 + 1 }) e1 (by rw [e'.2.1]; exact pastItsLine_dict (Za e'.2.2 (by rw [List.length_cons,Zc]; exact Zeb (szo1 hsz)))) ?_)
 refine Zjb ?_
 have hne:a ≠ dx:=fun q => by rw [q,d1] at c2; cases c2; cases d4
 have e2:o'.cls = o.cls:=hn'.rec fun o2 zz zz f1 f2 zz zz zz zz zz => (congrArg Obj.cls (sm_inj (e1.symm.trans f1))).trans (f2.trans d2.symm)
 obtain ⟨S',ex⟩:=St.turned (t:=s.toks + 1 + 1) (o:=.inst c (setKV gs attr v)) I hι hs (.inr rfl) d1 e1 e2 (by simp [frozen,d2]) fun mo =>
   ⟨C,_,sl,hc.addr,(hs.2 a hne).trans c2,hn',fun z => by
     rw [setKV_lookup]
     by_cases q:z = attr
     · rw [if_pos q,if_pos q]; exact .some (rv.mono mo)
     · rw [if_neg q,if_neg q]; exact (c4 z).mono mo⟩
 exact k h' _ S' ex
inductive SetAttrOk (T:Tp) (attr:Str) (ρ:Loc) (Q:QS) (v ov:V) (σ₂:Hp):Prop where
 | mk (l:Nat) (c:Str) (gs:List (Str × V)) (C:Addr) (h0:ov = .ref l) (h1:σ₂[l]? = some (.inst c gs)) (h2:ClsAt T c C) (h3:PySem.W.takerIn T.K C attr = some none) (h4:gs.length < 1000) (h5:Q .next ρ (σ₂.set l (.inst c (setKV gs attr v)))):SetAttrOk T attr ρ Q v ov σ₂
inductive SetItemOk (ρ:Loc) (Q:QS) (v ov iv:V) (σ₃:Hp):Prop where
 | mk (l:Nat) (k:Str) (kvs:List (Str × V)) (h0:ov = .ref l) (h1:iv = .str k) (h2:σ₃[l]? = some (.sdict kvs)) (h3:kvs.length ≤ sizeLine) (h4:Q .next ρ (σ₃.set l (.sdict (setKV kvs k v)))):SetItemOk ρ Q v ov iv σ₃
 | pr (l:Nat) (k:Str × Int) (kvs:List ((Str × Int) × V)) (h0:ov = .ref l) (h1:iv = .tup [.str k.1,.int k.2]) (h2:σ₃[l]? = some (.tdict kvs)) (h3:kvs.length ≤ sizeLine) (h4:Q .next ρ (σ₃.set l (.tdict (setTK kvs k v)))):SetItemOk ρ Q v ov iv σ₃
theorem StOk.setAttr {o value:Expr} {attr:Str} {pos' pos:Pos} (TO:TopOk T)
   (q:EvOk T d sc ρ X value (fun v σ₁ => EvOk T d sc ρ X o (fun ov σ₂ => SetAttrOk T attr ρ Q v ov σ₂) σ₁) σ) (hc:noComp value = true ) :
   StOk T d sc ρ X (.Assign [.Attribute o attr pos'] value pos) Q σ:=by
 intro env A fs F ι s hsc I
 refine plainObj_wpAny_Assign_Attribute (Zib (q env A fs F ι s hsc I) (fun y s₁ p => ?_) fun zz zz p => p.sx I fun zz zz k => k) (swaps_no hc)
 obtain ⟨v,σ₁,ι₁,q,rv,rp,ex,g,oo⟩:=p
 have I₁:=I.ext ex rp g oo
 refine Zib (q env A fs F ι₁ s₁ hsc I₁) (fun x s₂ p => ?_) fun zz zz p => (p.sx I₁ fun zz zz k => k).trans ex.up
 obtain ⟨ov,σ₂,ι₂,⟨l,c,gs,C,rfl,h1,h2,h3,h4,q⟩,ro,rp₂,ex₂,g₂,o₂⟩:=p
 have I₂:=I₁.ext ex₂ rp₂ g₂ o₂
 refine setAttr_ok TO I₂.st ro (rv.mono ex₂.mono) h1 h2 h3 h4 fun h' t S' e' => ?_
 exact ⟨.next,ρ,_,ι₂,q,.next,I₂.ext (s':={ s₂ with heap:=h',toks:=t }) e' S'.rep S'.gens S'.os,(ex.trans (ex₂.trans e')).up⟩
theorem dict_obj {a:Addr} {rvs:List (Str × Value)} (hd:h.DictOf (strKind T.prog T.w) a rvs):∃ o,h.get? a = some o ∧ o.cls = .type "dict":=by obtain ⟨o,zz,zz,b1,b2,zz⟩:=hd; exact ⟨o,b1,b2.1⟩
theorem dictH_obj {a:Addr} {rvs:List ((Str × Int) × Addr × Value)} (hd:h.DictOfH (pairKind T.prog T.w) a rvs):∃ o,h.get? a = some o ∧ o.cls = .type "dict":=by obtain ⟨o,zz,zz,b1,b2,zz⟩:=hd; exact ⟨o,b1,b2.1⟩
theorem dict_frozen {o:Obj} (h:o.cls = .type "dict"):frozen o = false:=by unfold frozen; rw [h]; decide
theorem setItem_str {E:Value → Shared → Prop} {v:V} {x z y:Value} {l:Nat} {k:Str} {kvs:List (Str × V)} {R:Unit → Shared → Prop} (S:St T A fs d ι σ s) (ro:VRel T ι s.heap (.ref l) x) (ri:VRel T ι s.heap (.str k) z) (rv:VRel T ι s.heap v y) (h1:σ[l]? = some (.sdict kvs)) (h2:kvs.length ≤ sizeLine)
   (kk:∀ h' t,St T A fs d ι (σ.set l (.sdict (setKV kvs k v))) { s with heap:=h',toks:=t } → Ext T [] ι s.heap ι h' → R () { s with heap:=h',toks:=t }):wpAny (model T.prog T.w) A (setItem x z y) R E s:=by
 obtain ⟨a,dx,rfl,hι⟩:=ro.ref_inv
 obtain ⟨t,rfl⟩:=ri.str_inv
 obtain ⟨hp,rvs,hd,hv⟩:=S.rep.objs l _ _ h1 hι
 refine wpAny_setItem_pairs (knd:=PySem.strKind T.prog T.w) (k:=k) (by simp [PySem.strKind,Value.isStrOf]) hd (fun h' hd' hs => ?_) (hv.length ▸ h2)
 obtain ⟨ob,b1,b2⟩:=dict_obj hd
 obtain ⟨ob',b1',b2'⟩:=dict_obj hd'
 obtain ⟨S',ex⟩:=St.turned (t:=s.toks + 1) (o:=.sdict (setKV kvs k v)) S hι hs (.inl rfl) b1 b1' (b2'.trans b2.symm) (dict_frozen b2) fun mo =>
   ⟨hp,_,hd',KVRel.set (hv.imp fun zz zz r => r.mono mo) (rv.mono mo)⟩
 exact kk h' _ S' ex
theorem setItem_pr {E:Value → Shared → Prop} {v:V} {x z y:Value} {l:Nat} {k:Str × Int} {kvs:List ((Str × Int) × V)} {R:Unit → Shared → Prop} (S:St T A fs d ι σ s) (ro:VRel T ι s.heap (.ref l) x) (ri:VRel T ι s.heap (.tup [.str k.1,.int k.2]) z) (rv:VRel T ι s.heap v y) (h1:σ[l]? = some (.tdict kvs)) (h2:kvs.length ≤ sizeLine)
   (kk:∀ h' t,St T A fs d ι (σ.set l (.tdict (setTK kvs k v))) { s with heap:=h',toks:=t } → Ext T [] ι s.heap ι h' → R () { s with heap:=h',toks:=t }):wpAny (model T.prog T.w) A (setItem x z y) R E s:=by
 obtain ⟨a,dx,rfl,hι⟩:=ro.ref_inv
 obtain ⟨a',rfl,hk⟩:=ri.pair
 obtain ⟨hp,rvs,hd,hv⟩:=S.rep.objs l _ _ h1 hι
 refine wpAny_setItem_heap (knd:=pairKind T.prog T.w) (k:=k) (show A.units + 1 < cLine from room41 (x:=0) S.aok.units (by decide)) hk hd (fun h' hd' hs => ?_) (hv.length ▸ h2)
 obtain ⟨ob,b1,b2⟩:=dictH_obj hd
 obtain ⟨ob',b1',b2'⟩:=dictH_obj hd'
 obtain ⟨S',ex⟩:=St.turned (t:=s.toks + 3) (o:=.tdict (setTK kvs k v)) S hι hs (.inl rfl) b1 b1' (b2'.trans b2.symm) (dict_frozen b2) fun mo =>
   ⟨hp,_,hd',TKRel.set (hv.imp fun zz zz r => r.mono mo) (rv.mono mo)⟩
 exact kk h' _ S' ex
theorem StOk.setItem {o i value:Expr} {pos' pos:Pos}
   (q:EvOk T d sc ρ X value (fun v σ₁ => EvOk T d sc ρ X o (fun ov σ₂ => EvOk T d sc ρ X i (fun iv σ₃ => SetItemOk ρ Q v ov iv σ₃) σ₂) σ₁) σ) (hc:noComp value = true ) :
   StOk T d sc ρ X (.Assign [.Subscript o i pos'] value pos) Q σ:=by
 intro env A fs F ι s hsc I
 refine wpAny_Assign_Subscript (Zib (q env A fs F ι s hsc I) (fun y s₁ p => ?_) fun zz zz p => p.sx I fun zz zz k => k) (swaps_no hc)
 obtain ⟨v,σ₁,ι₁,q,rv,rp,ex,g,oo⟩:=p
 have I₁:=I.ext ex rp g oo
 refine Zib (q env A fs F ι₁ s₁ hsc I₁) (fun x s₂ p => ?_) fun zz zz p => (p.sx I₁ fun zz zz k => k).trans ex.up
 obtain ⟨ov,σ₂,ι₂,q,ro,rp₂,ex₂,g₂,o₂⟩:=p
 have I₂:=I₁.ext ex₂ rp₂ g₂ o₂
 refine Zib (q env A fs F ι₂ s₂ hsc I₂) (fun z s₃ p => ?_) fun zz zz p => (p.sx I₂ fun zz zz k => k).trans (ex.trans ex₂).up
 obtain ⟨iv,σ₃,ι₃,so,ri,rp₃,ex₃,g₃,o₃⟩:=p
 have I₃:=I₂.ext ex₃ rp₃ g₃ o₃
 have ro:=ro.mono ex₃.mono
 have rv:=rv.mono (ex₂.trans ex₃).mono
 have fin:∀ {σ₄:Hp} {h':Heap} {t:Nat},Q .next ρ σ₄ → St T A fs d ι₃ σ₄ { s₃ with heap:=h',toks:=t } → Ext T [] ι₃ s₃.heap ι₃ h' → PostS T A fs d env F Q ι s.heap .next { s₃ with heap:=h',toks:=t }:=fun {zz h' t} q S' e' =>
   ⟨.next,ρ,_,ι₃,q,.next,I₃.ext (s':={ s₃ with heap:=h',toks:=t }) e' S'.rep S'.gens S'.os,(ex.trans (ex₂.trans (ex₃.trans e'))).up⟩
 rcases so with ⟨l,k,kvs,rfl,rfl,h1,h2,qq⟩ | ⟨l,k,kvs,rfl,rfl,h1,h2,qq⟩
 · exact setItem_str I₃.st ro ri rv h1 h2 fun h' t S' e' => fin qq S' e'
 · exact setItem_pr I₃.st ro ri rv h1 h2 fun h' t S' e' => fin qq S' e'
end
section
variable {T:Tp} {A:Around} {fs:List Env} {d:Nat} {env:Env} {F:List Addr} {ι ι':Inj} {h h':Heap} {s:Shared} {ρ:Loc} {σ:Hp} {sc:Scope} {X:QX} {Q:QE}
theorem EvOk.dict {pos:Pos} (q:Q (.ref σ.length) (σ ++ [.sdict []])):EvOk T d sc ρ X (.Dict [] [] pos) Q σ:=by
 intro env A fs F ι s hsc I
 refine wpAny_Dict_empty ?_
 have hget:(s.heap.push { cls:=.type "dict",data:=.dict #[] }).get? s.heap.objs.size = some { cls:=.type "dict",data:=.dict #[] }:=Heap.get?_push_size _ rfl
 have no:s.heap.objs.size ∉ own ι:=fun z => absurd (I.rep.own_lt z) (Zub _)
 have e:=Ext.push T [] ι s.heap { cls:=.type "dict",data:=.dict #[] }
 refine ⟨_,_,ι ++ [(s.heap.objs.size,s.heap.objs.size)],q,?_,(I.rep.push _).more (p:=(s.heap.objs.size,s.heap.objs.size)) ⟨rfl,[],?_,.nil⟩ I.rep.size I.rep.size no no,⟨⟨[(s.heap.objs.size,s.heap.objs.size)],rfl,by simp⟩,e.size,e.cls,e.frz,e.keep,e.frm⟩,I.gens,I.os⟩
 · exact ⟨s.heap.objs.size,s.heap.objs.size,rfl,by rw [← I.rep.len]; simp⟩
 · exact ⟨_,#[],0,hget,⟨rfl,rfl,rfl⟩,rfl,fun zz h => by simp at h,.nil,by simp⟩
theorem CallOk.make {c:Str} {C fI:Addr} {args:List V} (TO:TopOk T) (hc:T.c c = some C) (hm:PySem.W.makesIn T.K C = true) (hi:PySem.W.findIn T.K (.ref C) "__init__" = some (some (.ref fI))) (ht:PySem.W.typeIn T.K (.ref fI) = some (.type "function"))
   (hb:CodeOk T d X (.mth c "__init__") (.ref σ.length :: args) (fun v σ' => v = .none ∧ Q (.ref σ.length) σ') (σ ++ [.inst c []])):CallOk T (d + 1) X (.glob c) args Q σ:=by
 intro A fs ι s fv xs S rf rxs
 have hg:T.g c = some (.ref C):=by
   exact refO_out hc
 cases hg.symm.trans rf
 have X₁:=TO.X0.keeps S.rep.base
 refine wpAny_call ?_
 obtain ⟨hh,gn,dr,tk,os⟩:=s
 refine PySem.W.make_core (PySem.W.makes_of X₁ hm) (PySem.W.looks_findIn X₁ hi) (fun self => PySem.W.bind_fn X₁ self ht) (.inl rfl) ?_
 have no:∀ a,hh.objs.size ≤ a → a ∉ own ι:=fun a ha q => absurd (S.rep.own_lt q) (Zo.mpr ha)
 have e1:=Ext.push T [] ι hh PySem.W.emptyDict
 have e2:=Ext.push T [] ι (hh.push PySem.W.emptyDict) (PySem.W.instObj C hh.objs.size)
 have e0:=e1.trans e2
 have hd:((hh.push PySem.W.emptyDict).push (PySem.W.instObj C hh.objs.size)).get? hh.objs.size = some PySem.W.emptyDict:=Zx _ (Heap.get?_push_size _ rfl)
 have hx:((hh.push PySem.W.emptyDict).push (PySem.W.instObj C hh.objs.size)).get? (hh.objs.size + 1) = some (PySem.W.instObj C hh.objs.size):=by
   have:=Heap.get?_push_size (hh.push PySem.W.emptyDict) (o:=PySem.W.instObj C hh.objs.size) rfl
   rwa [Zqb] at this
 have hsz:hh.objs.size ≤ hh.objs.size + 1:=by (clear S no hx; exact Zq (Zs hh.objs.size))
 have R':Rep T (ι ++ [(hh.objs.size + 1,hh.objs.size)]) (σ ++ [.inst c []]) ((hh.push PySem.W.emptyDict).push (PySem.W.instObj C hh.objs.size)):=by
   have R0:Rep T ι σ hh:=S.rep
   exact ((R0.push _).push _).more (p:=(hh.objs.size + 1,hh.objs.size)) ⟨C,fun zz => none,#[],hc,hx,⟨_,#[],0,hd,rfl,rfl,rfl,fun e he => by simp at he,List.Pairwise.nil,fun zz => rfl⟩,fun zz => .none⟩ (Za R0.size hsz) R0.size (no _ hsz) (no _ (Zl _))
 have eX:Ext T [] ι hh (ι ++ [(hh.objs.size + 1,hh.objs.size)]) ((hh.push PySem.W.emptyDict).push (PySem.W.instObj C hh.objs.size)) :=
   ⟨⟨[(hh.objs.size + 1,hh.objs.size)],rfl,by simp⟩,e0.size,e0.cls,e0.frz,e0.keep,e0.frm⟩
 have aok:AOk T (A.under (.builtin "type.__call__" ⟨.ref C :: xs,[]⟩)) fs d (ι ++ [(hh.objs.size + 1,hh.objs.size)]) ((hh.push PySem.W.emptyDict).push (PySem.W.instObj C hh.objs.size)):=by
   have a0:=S.aok.ext eX (fun zz zz zz zz q => by simp at q) (fun zz q => by simp at q)
   refine ⟨a0.frames,a0.funs,?_,?_,a0.hd,a0.hx⟩
   · have:=S.aok.depth
     show A.depth + 1 + d ≤ _
     (clear a0 R' eX S no hx hsz; lia)
   · have:=S.aok.units
     show A.units + 1 + 10 * d + 50 ≤ _
     (clear a0 R' eX S no hx hsz; lia)
 have rI:VRel T (ι ++ [(hh.objs.size + 1,hh.objs.size)]) ((hh.push PySem.W.emptyDict).push (PySem.W.instObj C hh.objs.size)) (.mth c "__init__") (.ref fI):=by
   show Tp.m _ _ _ = _; unfold Tp.m; rw [hc,Option.bind_some,hi]; rfl
 have rS:VRel T (ι ++ [(hh.objs.size + 1,hh.objs.size)]) ((hh.push PySem.W.emptyDict).push (PySem.W.instObj C hh.objs.size)) (.ref σ.length) (.ref (hh.objs.size + 1)):=by
   exact ⟨hh.objs.size + 1,hh.objs.size,rfl,by rw [← S.rep.len]; simp⟩
 refine codeAny_mono (hb _ fs _ ⟨(hh.push PySem.W.emptyDict).push (PySem.W.instObj C hh.objs.size),gn,dr,tk,os⟩ (.ref fI) (.ref (hh.objs.size + 1) :: xs) ⟨R',aok,S.gens,S.os⟩ rI ?_) fun r s' z => ?_
 · show VRels T _ _ (_ :: _) (_ :: _)
   exact ⟨rS,rxs.mono eX.mono⟩
 · rcases r with e | (zz | zz | zz | v)
   · exact PostX.trans (T:=T) (F:=[]) (X:=X) eX z
   · exact z.elim
   · exact z.elim
   · exact z.elim
   · obtain ⟨w,σ',ι',⟨rfl,q⟩,rw',rp,ex,g,o⟩:=z
     cases rw'.none_inv
     exact ⟨rfl,.ref σ.length,σ',ι',q,rS.mono ex.mono,rp,eX.trans ex,g,o⟩
end
end
section
noncomputable def relab (scope sc:Scope):Scope :=
 { scope with names:=scope.names.map fun (n,k) => if (k == .free && sc.kind == .function && sc.names.lookup n == some .cell) then (n,.cell) else (n,k) }
noncomputable def compLoc (scope:Scope) (ρ:Loc):Loc:=fun x => if scope.names.lookup x = some .free then ρ x else none
noncomputable def relK (sc:Scope) (n:Str) (k:NameKind):NameKind:=if (k == .free && sc.kind == .function && sc.names.lookup n == some .cell) then .cell else k
theorem relab_lookup {sc:Scope}:∀ (names:List (Str × NameKind)) (x:Str),
   (names.map fun (n,k) => if (k == NameKind.free && sc.kind == .function && sc.names.lookup n == some .cell) then (n,NameKind.cell) else (n,k)).lookup x = (names.lookup x).map (relK sc x)
 | [],z1 => rfl
 | (n,k) :: r,x => by
   have ih:=relab_lookup (sc:=sc) r x
   rw [List.map_cons,List.lookup_cons]
   have e:(if (k == NameKind.free && sc.kind == .function && sc.names.lookup n == some .cell) then (n,NameKind.cell) else (n,k)) = (n,relK sc n k):=by
     unfold relK; split <;> rfl
   dsimp only
   rw [e,List.lookup_cons]
   cases hx:x == n with
   | true => rw [beq_iff_eq.mp hx]; rfl
   | false => exact ih
noncomputable def clStep (env:Env) (acc:List (Str × Addr)) (p:Str × NameKind):List (Str × Addr):=if p.2 == .free then (p.1,(env.cells.lookup p.1).getD 0) :: acc else acc
noncomputable def closeFrom (env:Env) (names:List (Str × NameKind)) (acc:List (Str × Addr)):List (Str × Addr):=names.foldl (clStep env) acc
theorem closeFrom_iff {env:Env} {q:Str × Addr} (names:List (Str × NameKind)):∀ acc,q ∈ closeFrom env names acc ↔ q ∈ acc ∨ ((q.1,NameKind.free) ∈ names ∧ q.2 = (env.cells.lookup q.1).getD 0) :=
 names.rec (fun acc => ⟨.inl,fun h => h.elim id fun h => (by cases h.1)⟩) fun p r ih acc => (ih (clStep env acc p)).trans (by
   unfold clStep
   by_cases hk:(p.2 == NameKind.free) = true
   · rw [if_pos hk,Zg,Zg]
     have e:=beq_iff_eq.mp hk
     exact ⟨fun h => h.elim (fun h => h.elim (fun h => .inr ⟨.inl (by rw [h,← e]),by rw [h]⟩) .inl) fun h => .inr ⟨.inr h.1,h.2⟩,
       fun h => h.elim (fun h => .inl (.inr h)) fun h => h.1.elim (fun g => .inl (.inl (by rw [← show (q.1,NameKind.free) = p from g,← h.2]))) fun g => .inr ⟨g,h.2⟩⟩
   · rw [if_neg hk,Zg]
     exact ⟨fun h => h.imp_right fun h => ⟨.inr h.1,h.2⟩,fun h => h.imp_right fun h => ⟨h.1.resolve_left fun g => hk (g ▸ rfl),h.2⟩⟩)
theorem closure_eq {env:Env} {scope:Scope} (h:∀ x ∈ scope.names,x.2 = .free → (env.cells.lookup x.1).isSome = true):closureFor scope env = pure (closeFrom env scope.names []):=by
 have:∀ (names:List (Str × NameKind)) (acc:List (Str × Addr)),(∀ x ∈ names,x.2 = .free → (env.cells.lookup x.1).isSome = true) →
     (forIn names acc fun (x:Str × NameKind) (cs:List (Str × Addr)) => (if x.2 == NameKind.free then (do let a ← cellOf env x.1; pure (ForInStep.yield ((x.1,a) :: cs))) else pure (ForInStep.yield cs):Sem (ForInStep (List (Str × Addr))))) = pure (closeFrom env names acc):=by
   intro names
   induction names with
   | nil => intro acc zz; rfl
   | cons p r ih =>
     intro acc hp
     obtain ⟨n,k⟩:=p
     rw [List.forIn_cons]
     have hr:∀ x ∈ r,x.2 = .free → (env.cells.lookup x.1).isSome = true:=fun x hx => hp x (Zd _ hx)
     by_cases hk:(k == NameKind.free) = true
     · obtain ⟨c,hc⟩:=Option.isSome_iff_exists.mp (hp (n,k) Zt (beq_iff_eq.mp hk))
       have hc':env.cells.lookup n = some c:=hc
       have e:clStep env acc (n,k) = (n,c) :: acc:=(if_pos hk).trans (by rw [hc']; rfl)
       rw [if_pos hk,show cellOf env n = pure c by unfold cellOf; rw [hc']]
       show (forIn r ((n,c) :: acc) _:Sem _) = pure (closeFrom env r (clStep env acc (n,k)))
       rw [e]; exact ih _ hr
     · rw [if_neg hk]
       show (forIn r acc _:Sem _) = pure (closeFrom env r (clStep env acc (n,k)))
       rw [show clStep env acc (n,k) = acc from if_neg hk]; exact ih _ hr
 unfold closureFor
 have e:=this scope.names [] h
 show (forIn scope.names [] _ >>= fun cs => pure cs) = _
 have e2:(forIn scope.names ([]:List (Str × Addr)) fun (x:Str × NameKind) (cs:List (Str × Addr)) => (match x with | (name,kind) => if (kind == NameKind.free) = true then do let __do_lift ← cellOf env name; pure (ForInStep.yield ((name,__do_lift) :: cs)) else pure (ForInStep.yield cs):Sem (ForInStep (List (Str × Addr))))) = pure (closeFrom env scope.names []):=e
 first
   | (rw [e2]; rfl)
   | (simp only [bind_pure]; exact e2)
   | (simp only [bind_pure_comp,id_map']; exact e2)
theorem cellsFrom_append:∀ (names:List (Str × NameKind)) (n:Nat) (acc cl:List (Str × Addr)),cellsFrom n names (acc ++ cl) = cellsFrom n names acc ++ cl:=by
 intro xx
 induction xx with
 | nil =>
   intro z1 z2 z3
   exact rfl
 | cons pp r ih =>
   obtain ⟨z1,kind⟩:=pp
   intro n acc cl
   unfold cellsFrom
   split
   · rw [← List.cons_append]; exact ih _ _ _
   · exact ih _ _ _
theorem cellsFrom_names:∀ (names:List (Str × NameKind)) (n:Nat) (acc:List (Str × Addr)) (p:Str × Addr),p ∈ cellsFrom n names acc → p ∈ acc ∨ (p.1,NameKind.cell) ∈ names:=by
 intro xx
 induction xx with
 | nil =>
   intro z1 z2 z3 h
   exact .inl h
 | cons pp r ih =>
   obtain ⟨x,kind⟩:=pp
   intro n acc p h
   unfold cellsFrom at h
   split at h
   · rename_i hk
     rcases ih _ _ p h with h | h
     · rcases Zg.mp h with e | h
       · subst e; exact .inr (by rw [beq_iff_eq.mp hk]; exact Zt)
       · exact .inl h
     · exact .inr (Zd _ h)
   · rcases ih _ _ p h with h | h
     · exact .inl h
     · exact .inr (Zd _ h)
noncomputable def compOk (scope sc:Scope):Bool :=
 scope.kind == .function && decide ((scope.names.map (·.1)).Nodup) && scope.names.all fun p => p.2 != .free || (sc.names.lookup p.1 == some .cell || sc.names.lookup p.1 == some .free)
theorem nodup_kind {names:List (Str × NameKind)} (hn:(names.map (·.1)).Nodup) {x:Str} {k k':NameKind} (h:(x,k) ∈ names) (h':(x,k') ∈ names):k = k':=by
 induction names with
 | nil => cases h
 | cons p r ih =>
   rw [List.map_cons,List.nodup_cons] at hn
   rcases Zg.mp h with e | h <;> rcases Zg.mp h' with e' | h'
   · rw [← e'] at e; exact (Prod.mk.inj e).2
   · exact absurd (Zsb.mpr ⟨(x,k'),h',by rw [← e]⟩) hn.1
   · exact absurd (Zsb.mpr ⟨(x,k),h,by rw [← e']⟩) hn.1
   · exact ih hn.2 h h'
section
variable {T:Tp} {A:Around} {fs:List Env} {d:Nat} {ι:Inj} {σ:Hp} {s:Shared} {sc:Scope} {env:Env} {F:List Addr} {ρ:Loc}
noncomputable def cenvOf (scope:Scope) (env:Env) (L:Addr):Env :=
 { scope:=relab scope env.scope,locals:=L,globals:=env.globals,cells:=cellsFrom (L + 1) scope.names (closeFrom env scope.names []),qual:=env.qual,func:=none,code:=env.code,frame:=env.frame,builtins:=env.builtins }
theorem relK_fr {sc:Scope} {n:Str}:relK sc n .free = .cell ∧ sc.names.lookup n = some .cell ∨ relK sc n .free = .free:=by
 unfold relK
 by_cases h:(NameKind.free == .free && sc.kind == .function && sc.names.lookup n == some .cell) = true
 · rw [if_pos h]; rw [Zob,beq_iff_eq] at h; exact .inl ⟨rfl,h.2⟩
 · exact .inr (if_neg h)
theorem rel_orig {sc:Scope} {n:Str} {o:Option NameKind} (h:o.map (relK sc n) = some .cell ∨ o.map (relK sc n) = some .free):o = some .cell ∨ o = some .free:=by
 cases o with
 | none => exact h.elim (by intros; contradiction) (by intros; contradiction)
 | some k =>
   by_cases q:k = .free
   · exact .inr (congrArg some q)
   · have e:relK sc n k = k:=by unfold relK; rw [beq_eq_false_iff_ne.mpr q]; rfl
     exact e ▸ h
theorem rel_loc {sc:Scope} {n:Str} (h:(some NameKind.free).map (relK sc n) = some .local):False :=
 relK_fr (sc:=sc) (n:=n).elim (fun e => nomatch e.1.symm.trans (sm_inj h)) fun e => nomatch e.symm.trans (sm_inj h)
theorem rel_cell {sc:Scope} {n:Str} (h:(some NameKind.free).map (relK sc n) = some .cell):sc.names.lookup n = some .cell :=
 relK_fr.elim (fun e => e.2) fun e => nomatch e.symm.trans (sm_inj h)
theorem comp_frame {scope:Scope} (I:Inv T A fs d env F ρ ι σ s) (ok:compOk scope env.scope = true) (h₁:Heap) (hh:h₁ = pushCells (s.heap.push { cls:=.type "dict",data:=.dict #[] }) scope.names) :
   closureFor scope env = pure (closeFrom env scope.names []) ∧ ∃ Fn,(∀ a ∈ Fn,s.heap.objs.size ≤ a) ∧ Inv T A fs d (cenvOf scope env s.heap.objs.size) (Fn ++ F) (compLoc scope ρ) ι σ { s with heap:=h₁ } ∧ Ext T [] ι s.heap ι h₁ ∧
     (∀ x c,scope.names.lookup x = some .local ∨ scope.names.lookup x = some .cell → (cenvOf scope env s.heap.objs.size).cells.lookup x = some c → scope.names.lookup x = some .cell → c ∈ Fn) ∧ s.heap.objs.size ∈ Fn:=by
 simp only [compOk,Zob,beq_iff_eq,decide_eq_true_eq] at ok
 obtain ⟨⟨hk,hnd⟩,hfr⟩:=ok
 have outer:∀ x,(x,NameKind.free) ∈ scope.names → env.kindOf x = some .cell ∨ env.kindOf x = some .free:=fun x hx => by
   have:=List.all_eq_true.mp hfr _ hx
   rw [bne_self_eq_false,Bool.false_or,Bool.or_eq_true,beq_iff_eq,beq_iff_eq] at this
   exact this
 have hcl:∀ x ∈ scope.names,x.2 = .free → (env.cells.lookup x.1).isSome = true:=fun x hx hf => by
   obtain ⟨x,k⟩:=x
   cases hf
   obtain ⟨c,zz,zz,e1,zz⟩:=I.frm.cells x (outer x hx)
   show (env.cells.lookup x).isSome = true
   rw [e1]; rfl
 refine ⟨closure_eq hcl,?_⟩
 have ok:=cellsFrom_ok scope.names (s.heap.push { cls:=.type "dict",data:=.dict #[] }) (s.heap.objs.size + 1) [] ⟨fun zz zz hm => ((by cases hm)),List.Pairwise.nil⟩ (by rw [Zqb]; exact Zl _)
 rw [Zqb,← hh] at ok
 have keep:∀ b o,s.heap.get? b = some o → h₁.get? b = some o:=fun b o e => hh ▸ pushCells_keeps _ _ b o (Zx _ e)
 have hsz:s.heap.objs.size ≤ h₁.objs.size:=hh ▸ Za (by rw [Zqb]; exact Zq (Zs s.heap.objs.size)) (pushCells_size _ _)
 have hL:h₁.get? s.heap.objs.size = some { cls:=.type "dict",data:=.dict #[] }:=hh ▸ pushCells_keeps scope.names (s.heap.push { cls:=.type "dict",data:=.dict #[] }) _ _ (Heap.get?_push_size s.heap rfl)
 have cc:∀ c o,h₁.get? c = some o → s.heap.objs.size + 1 ≤ c → o.cls = .type "cell":=fun c o g h => pushCells_cls scope.names (s.heap.push { cls:=.type "dict",data:=.dict #[] }) c o (hh ▸ g) (by rw [Zqb]; exact h)
 clear hh
 have no:∀ a,s.heap.objs.size ≤ a → a ∉ own ι:=fun a ha q => absurd (I.rep.own_lt q) (Zo.mpr ha)
 have csEq:(cenvOf scope env s.heap.objs.size).cells = cellsFrom (s.heap.objs.size + 1) scope.names [] ++ closeFrom env scope.names []:=cellsFrom_append scope.names _ [] _
 have cm:∀ x,(x,NameKind.cell) ∈ scope.names → ∃ c,(x,c) ∈ cellsFrom (s.heap.objs.size + 1) scope.names []:=fun x hx => cellsFrom_mem scope.names (s.heap.objs.size + 1) [] x hx
 have cn:∀ x c,(x,c) ∈ cellsFrom (s.heap.objs.size + 1) scope.names [] → (x,NameKind.cell) ∈ scope.names:=fun x c h => (cellsFrom_names _ _ _ _ h).elim (fun z => (by cases z)) id
 generalize cellsFrom (s.heap.objs.size + 1) scope.names [] = cl at ok csEq cm cn
 have cellAt:∀ x c,(x,c) ∈ cl → s.heap.objs.size + 1 ≤ c ∧ ∃ o,h₁.get? c = some o ∧ o.cls = .type "cell" ∧ o.data = .cell none:=fun x c hm => by
   have e:=ok.empty x c hm
   exact ⟨e.2,e.1.elim fun o g => ⟨o,g.1,cc c o g.1 e.2,g.2⟩⟩
 have kd:∀ x,(cenvOf scope env s.heap.objs.size).kindOf x = (scope.names.lookup x).map (relK env.scope x):=fun x => relab_lookup scope.names x
 have ownL:∀ x,scope.names.lookup x = some .cell → ∃ c,(cenvOf scope env s.heap.objs.size).cells.lookup x = some c ∧ (x,c) ∈ cl:=fun x hx =>
   (cm x (mem_of_lookup hx)).elim fun c hc => (lookup_of_mem hc).elim fun c' hc' => ⟨c',by rw [csEq,lookup_append,hc']; rfl,mem_of_lookup hc'⟩
 have freeL:∀ x,scope.names.lookup x = some .free → (cenvOf scope env s.heap.objs.size).cells.lookup x = env.cells.lookup x:=fun x hx => by
   have hm:=mem_of_lookup hx
   have h1:cl.lookup x = none:=by
     cases q:cl.lookup x with
     | none => rfl
     | some c => cases nodup_kind hnd hm (cn x c (mem_of_lookup q))
   refine (lookup_of_mem ((closeFrom_iff (env:=env) (q:=(x,(env.cells.lookup x).getD 0)) scope.names []).mpr (.inr ⟨hm,rfl⟩))).elim fun c' hc' => ?_
   rw [csEq,lookup_append,h1,hc']
   obtain ⟨c,hc⟩:=Option.isSome_iff_exists.mp (hcl _ hm rfl)
   have e:=((closeFrom_iff scope.names []).mp (mem_of_lookup hc')).elim (fun z => (by cases z)) fun z => z.2
   have hc:env.cells.lookup x = some c:=hc
   rw [hc] at e ⊢; rw [show c' = c from e]; rfl
 have orig:∀ x,((cenvOf scope env s.heap.objs.size).kindOf x = some .cell ∨ (cenvOf scope env s.heap.objs.size).kindOf x = some .free) → scope.names.lookup x = some .cell ∨ scope.names.lookup x = some .free:=fun x hx => rel_orig (kd x ▸ hx)
 have e0:Ext T [] ι s.heap ι h₁:=.of_keeps hsz keep
 have I0:=I.grown hsz keep
 have Fge:∀ a ∈ (s.heap.objs.size :: cl.map (·.2)),s.heap.objs.size ≤ a:=fun a ha => by
   rcases Zg.mp ha with rfl | ha
   · exact Zl _
   · obtain ⟨⟨x,c⟩,hm,rfl⟩:=Zsb.mp ha
     exact Nat.le_of_succ_le (cellAt x c hm).1
 refine ⟨s.heap.objs.size :: cl.map (·.2),Fge,⟨I0.rep,I0.aok,?_,I0.top.rec fun e r L a b c => ⟨e,r,L,a,b,c⟩,I0.gens,I0.os⟩,e0,fun x c zz hc hx => ?_,Zt⟩
 · refine ⟨hk,I.frm.glb,I.frm.blt,⟨"dict",fun zz => none,⟨.inr rfl,fun zz => rfl⟩,⟨_,#[],0,hL,rfl,rfl,rfl,fun e he => by simp at he,List.Pairwise.nil,fun zz => rfl⟩,fun x hx => ?_⟩,fun x hx => ?_,fun x y c hx hy h1 h2 => ?_,List.mem_append_left _ Zt,fun x c hx hc => ?_,fun a ha => ?_,fun a ha => ?_⟩
   · have:compLoc scope ρ x = none:=by
       exact if_neg fun q => rel_loc (q ▸ kd x ▸ hx)
     rw [this]; exact .none
   · rcases orig x hx with q | q
     · obtain ⟨c,hc,hm⟩:=ownL x q
       obtain ⟨g1,o,g2,g3,g4⟩:=cellAt x c hm
       refine ⟨c,o,none,hc,g2,g3,g4,?_,no c (Nat.le_of_succ_le g1)⟩
       have:compLoc scope ρ x = none:=by unfold compLoc; rw [if_neg (by rw [q]; simp)]
       rw [this]; exact .none
     · obtain ⟨c,o,v,f1,f2,f3,f4,f5,f6⟩:=I0.frm.cells x (outer x (mem_of_lookup q))
       refine ⟨c,o,v,(freeL x q).trans f1,f2,f3,f4,?_,f6⟩
       unfold compLoc; rw [if_pos q]; exact f5
   · have cross:∀ {x y:Str},scope.names.lookup x = some .cell → scope.names.lookup y = some .free → (cenvOf scope env s.heap.objs.size).cells.lookup x = some c → (cenvOf scope env s.heap.objs.size).cells.lookup y = some c → False:=fun {x y} q q' h1 h2 =>
       (ownL x q).elim fun c1 e => (I.frm.cells y (outer y (mem_of_lookup q'))).rec fun c' o v f1 f2 zz zz zz zz => by
         have e1:c1 = c:=sm_inj (e.1.symm.trans h1)
         have e2:c' = c:=sm_inj (f1.symm.trans ((freeL y q').symm.trans h2))
         exact absurd (Zu f2) (Zo.mpr (e2 ▸ e1 ▸ Nat.le_of_succ_le (cellAt x _ e.2).1))
     rcases orig x hx with q | q <;> rcases orig y hy with q' | q'
     · exact (ownL x q).elim fun c1 e1 => (ownL y q').elim fun c2 e2 => name_of_addr ok.apart (sm_inj (e1.1.symm.trans h1) ▸ e1.2) (sm_inj (e2.1.symm.trans h2) ▸ e2.2)
     · exact (cross q q' h1 h2).elim
     · exact (cross q' q h2 h1).elim
     · rw [freeL x q] at h1; rw [freeL y q'] at h2
       exact I.frm.inj x y c (outer x (mem_of_lookup q)) (outer y (mem_of_lookup q')) h1 h2
   · rcases orig x (.inl hx) with q | q
     · obtain ⟨c1,e1,m1⟩:=ownL x q
       rw [hc] at e1; cases e1
       exact List.mem_append_left _ (Zd _ (Zsb.mpr ⟨_,m1,rfl⟩))
     · rw [freeL x q] at hc
       exact List.mem_append_right _ (I.frm.cin x c (rel_cell (q ▸ kd x ▸ hx)) hc)
   · rcases Zm.mp ha with ha | ha
     · exact ⟨no a (Fge a ha),Za I.rep.size (Fge a ha)⟩
     · exact I0.frm.apart a ha
   · rcases Zm.mp ha with ha | ha
     · rcases Zg.mp ha with rfl | ha
       · exact ⟨_,hL,rfl,rfl⟩
       · obtain ⟨⟨x,c⟩,hm,rfl⟩:=Zsb.mp ha
         obtain ⟨zz,o,g2,g3,zz⟩:=cellAt x c hm
         exact ⟨o,g2,by simp [frozen,g3],itr_no g3 (by decide)⟩
     · exact I0.frm.there a ha
 · obtain ⟨c1,e1,m1⟩:=ownL x hx
   rw [hc] at e1; cases e1
   exact Zd _ (Zsb.mpr ⟨_,m1,rfl⟩)
end
end
section
noncomputable def IfsOk (T:Tp) (d:Nat) (sc:Scope) (ρ:Loc) (X:QX):List Expr → (Bool → Hp → Prop) → Hp → Prop
 | [],Q,σ => Q true σ
 | [c],Q,σ => TsOk T d sc ρ X c Q σ
 | z1,z2,z3 => False
theorem lookup_nodup {names:List (Str × NameKind)} (hn:(names.map (·.1)).Nodup) {x:Str} {k:NameKind} (h:(x,k) ∈ names):names.lookup x = some k:=by
 obtain ⟨k',hk'⟩:=lookup_of_mem h
 rw [hk',nodup_kind hn (mem_of_lookup hk') h]
theorem isStore_relab {scope sc:Scope} {x:Str} (h:isStore scope x = true):isStore (relab scope sc) x = true:=by
 refine isStore_of ?_
 have e:(relab scope sc).names.lookup x = (scope.names.lookup x).map (relK sc x):=relab_lookup scope.names x
 rw [e]
 rcases isStore_out h with q | q <;> rw [q]
 · exact .inl rfl
 · exact .inr rfl
section
variable {T:Tp} {A:Around} {fs:List Env} {d:Nat} {env:Env} {F:List Addr} {ι ι':Inj} {h h':Heap} {s:Shared} {ρ:Loc} {σ:Hp} {sc:Scope} {X:QX} {Q:QE}
theorem Inv.side {a:Addr} {o:Obj} {t:Nat} (I:Inv T A fs d env F ρ ι σ s) (hs:Heap.SameBut a s.heap h') (ho:s.heap.get? a = some o) (hl:loose o = true) (hf:frozen o = false) (hc:o.cls ≠ .type "cell") (hn:a ∉ own ι) (hF:a ∉ F) (hb:T.b0.objs.size ≤ a) :
   Inv T A fs d env F ρ ι σ { s with heap:=h',toks:=t }:=by
 have hk:∀ b o,b ≠ a → s.heap.get? b = some o → h'.get? b = some o:=fun b o q e => (hs.2 b q).trans e
 have m:Mono ι s.heap ι h':=.but hk ⟨o,ho,hl,hf⟩ ι
 have ne:∀ b z,s.heap.get? b = some z → loose z = false → b ≠ a:=fun b z e i q => Zv (i.symm.trans (sm_inj (ho.symm.trans (q ▸ e)) ▸ hl))
 exact ⟨I.rep.keeps m (Zr hs.1.symm) (fun b z e => hk b z (fun q => absurd (Zu e) (Zo.mpr (q ▸ hb))) (I.rep.base b z e)) fun b hb z e => hk b z (fun q => hn (q ▸ hb)) e,
   I.aok.keeps (fun zz n zz => n) (fun b z g zz c => ⟨z.slots,hk b z (ne b z g (by simp [loose,c])) g⟩) (I.aok.hx.keep fun b z C e1 e2 e3 => ⟨hk b z (ne b z e1 (loose_ref e2)) e1,e3⟩),
   I.frm.keeps m (fun zz n zz => n) (fun b z g hb zz => ⟨z,hk b z (fun q => hF (q ▸ hb)) g,rfl⟩) fun b z g zz zz c => ⟨z.slots,hk b z (c.elim (fun hb q => hF (q ▸ hb)) fun c q => hc (sm_inj (ho.symm.trans (q ▸ g)) ▸ c)) g⟩,I.top,I.gens,I.os⟩
theorem appendL {E:Value → Shared → Prop} {D:Addr} {items:Array Value} {n:Nat} {x:Value} {R:Value → Shared → Prop} (hL:IsL s.heap D items n) (hsz:items.size ≤ sizeLine)
   (k:∀ h' m,IsL h' D (items.push x) m → Heap.SameBut D s.heap h' → R .none { s with heap:=h' }):wpAny (model T.prog T.w) A (call (.builtin "list.append") [.ref D,x]) R E s:=by
 refine call_meets F.slot_list_append ⟨_,hL,rfl⟩ F.entry_list_append (F.args_list_append_2 _ _) (list_append D items n x hsz) ⟨hL,?_⟩
 refine k _ _ (Heap.get?_update_self _ hL rfl) (Heap.SameBut.update ..)
theorem iterSelf {E:Value → Shared → Prop} {v:V} {It:Addr} {i:Nat} {R:Value → Shared → Prop} (it:ItAt T ι s.heap v It i) (k:R (.ref It) s):wpAny (model T.prog T.w) A (pyIter (.ref It)) R E s:=by
 induction it with
 | asc x t it => exact wpAny_pyIter_striter_ascii it k
 | wide x t it => exact wpAny_pyIter_striter_wide it k
 | tup vs a items n ht hv it => exact wpAny_pyIter_tupleiter it k
 | lst l a d e it => exact wpAny_pyIter_listiter it k
 | rng n it => exact wpAny_pyIter_rangeiter it k
 | rev l n a d hi e it => exact wpAny_pyIter_revIter it k
theorem passOn_ok {L:Addr} {ea:Addr} {c:Str} {σ':Hp} {s':Shared} {cenv cenv':Env} {Fc:List Addr} {ρ':Loc} (hb:T.b0.objs.size ≤ h.objs.size) (f:FlyT T h.objs.size ea c s'.heap) (hn:ea ∉ own ι') (I:Inv T A fs d cenv Fc ρ' ι' σ' s') (e:Ext T [] ι h ι' s'.heap) (x:X c σ')
   (hL:cenv.locals = L) (hs:Heap.SameBut L s'.heap h') (hd:L ∉ frs fs) (hl:h.objs.size ≤ L) (hnf:cenv.frame ≠ some cenv.locals):wpAny (model T.prog T.w) A (PySem.passOn "comprehension.variables-let-go" (.ref ea) cenv':Sem Value) (fun zz zz => False) (PostX T [] X ι h) { s' with heap:=h' }:=by
 subst hL
 obtain ⟨cl,mm,hc,hN,zz⟩:=I.frm.ns
 obtain ⟨oL,es,ep,l1,l2,l3,l4,zz⟩:=hN
 have hk:∀ b o,b ≠ cenv.locals → s'.heap.get? b = some o → h'.get? b = some o:=fun b o q e => (hs.2 b q).trans e
 have f₀:=f
 obtain ⟨C,oe,vs,v,f1,f2,f3,f4,f5,f6,f7,f8,tb,ot,ts,rfl,t2,t3,t4,t5,t6,t7⟩:=f
 have ne1:ea ≠ cenv.locals:=fun q => by rw [q,l1] at f3; cases f3; rw [l4] at f5; cases f5
 have ne2:tb ≠ cenv.locals:=fun q => by rw [q,l1] at t4; cases t4; rw [l4] at t6; cases t6
 have f':FlyT T h.objs.size ea c h':=⟨C,oe,vs,_,f1,f2,hk _ _ ne1 f3,f4,f5,f6,f7,f8,tb,ot,ts,rfl,t2,t3,hk _ _ ne2 t4,t5,t6,t7⟩
 have ap:=I.frm.apart _ I.frm.loc
 obtain ⟨o₂,q1,q2,zz⟩:=I.frm.there _ I.frm.loc
 rw [l1] at q1; cases q1
 have S:∀ a ∈ frs fs,a ∉ own ι' ∧ T.b0.objs.size ≤ a ∧ ∃ o,h'.get? a = some o ∧ o.cls = .type "frame":=fun a ha => by
   obtain ⟨a1,a2,o,zz,zz,a3,a4,zz⟩:=I.aok.mem ha
   exact ⟨a1,a2,o,hk a o (fun q => hd (q ▸ ha)) a3,a4⟩
 have hns:∀ b,b ≠ cenv.locals → h'.get? b = s'.heap.get? b:=fun b q => hs.2 b q
 have q:=hc.2 hnf
 have m:Mono ι' s'.heap ι' h':=.but hk ⟨_,l1,by simp [loose,l2,q],q2⟩ ι'
 unfold PySem.passOn
 refine Zhb (wpAny_field (s:={ s' with heap:=h' }) (hk _ _ ne1 f3) f5 f8 ?_)
 rw [if_neg (by simp)]
 refine Zhb (flight_ok (S:=frs fs) (s:={ s' with heap:=h' }) f' fun h'' t f'' => wpAny_throw ?_)
 have R':Rep T ι' σ' h':=I.rep.keeps m (Zr hs.1.symm) (fun b z e => hk b z (fun q => absurd (Zu e) (Zo.mpr (q ▸ ap.2))) (I.rep.base b z e)) fun b hb z e => hk b z (fun q => ap.1 (q ▸ hb)) e
 have e':Ext T [] ι h ι' h':=e.free hk (Zr hs.1.symm) hl
 exact ⟨ea,c,σ',ι',rfl,x,f''.fly,hn,R'.touch t S ⟨oe,C,hk _ _ ne1 f3,f4⟩ hn hb f2,e'.touch t (fun a ha => (S a ha).2.2) f2,I.gens,I.os⟩
end
end
section
section
variable {T:Tp} {A:Around} {fs:List Env} {d:Nat} {env:Env} {F:List Addr} {ι ι':Inj} {h h':Heap} {s:Shared} {ρ:Loc} {σ:Hp} {sc:Scope} {X:QX} {Q:QE}
theorem comp_raise {cenv:Env} {Fc:List Addr} {ρ':Loc} {ι₂:Inj} {σ₂:Hp} {s₂ s₃:Shared} {x acc:Value} {R:Value → Shared → Prop} {use:Option (Value → Sem Unit)} {EE:Value → Shared → Prop} (hE:∀ x s',PostX T [] X ι h x s' → EE x s') (hb:T.b0.objs.size ≤ h.objs.size) (I₂:Inv T A fs d cenv Fc ρ' ι₂ σ₂ s₂) (e₂:Ext T [] ι h ι₂ s₂.heap) (p:PostX T [] X ι₂ s₂.heap x s₃)
   (hd:cenv.locals ∉ frs fs) (hl:h.objs.size ≤ cenv.locals) (hnf:cenv.frame ≠ some cenv.locals) :
   notedBy (model T.prog T.w) A cenv (fun e s' => compPost (model T.prog T.w) A EE use R acc cenv.locals (.error e) s') x s₃:=by
 obtain ⟨ea,c,σ₃,ι₃,rfl,hx,f,n,rp,e',g,o⟩:=p
 have I₃:=I₂.ext e' rp g o
 have e₃:=e₂.trans e'
 have f₃:=f.lo e₂.size
 have hle:h.objs.size ≤ ea:=by obtain ⟨zz,zz,zz,zz,zz,q,zz⟩:=f₃; exact q
 unfold notedBy
 refine note_ok I₃ f₃ e₃.size fun h₄ t f₄ => ?_
 have I₄:=I₃.touch t f₃ n hb hle
 have e₄:=e₃.touch t (fun a ha => (by obtain ⟨_,_,o,_,_,g,gc,_⟩:=I₃.aok.mem ha; exact ⟨o,g,gc⟩)) hle
 obtain ⟨cl,mm,hc,hN,zz⟩:=I₄.frm.ns
 have key:∃ m,h₄.Ns cenv.locals m ∧ ∀ h',Heap.SameBut cenv.locals h₄ h' → ∀ cenv':Env,cenv'.locals = cenv.locals → wpAny (model T.prog T.w) A (PySem.passOn "comprehension.variables-let-go" (.ref ea) cenv':Sem Value) (fun zz zz => False) EE { s₃ with heap:=h' } :=
   ⟨mm,hN.ns,fun h₅ hs cenv' zz => Zib (passOn_ok (s':={ s₃ with heap:=h₄ }) hb f₄ n I₄ e₄ hx rfl hs hd hl hnf) (fun zz zz f => f) fun x s' p => hE x s' p⟩
 cases use <;> exact key
theorem ifs_ok {E:Value → Shared → Prop} {cenv:Env} {Fc:List Addr} {ifs:List Expr} {Q':Bool → Hp → Prop} {R:Bool → Shared → Prop} (hsc:cenv.scope = sc) (I:Inv T A fs d cenv Fc ρ ι σ s) (hi:IfsOk T d sc ρ X ifs Q' σ)
   (k:∀ b s',PostB T Q' ι s.heap b s' → R b s') (kx:∀ x s',PostX T [] X ι s.heap x s' → E x s') :
   wpAny (model T.prog T.w) A (forIn ifs true fun c r => if r = true then do let ok ← isTrue c cenv (eval c cenv); pure (ForInStep.yield ok) else pure (ForInStep.yield r)) R E s:=by
 rcases ifs with zz | ⟨c,zz | zz⟩
 · rw [List.forIn_nil]; exact Zjb (k _ _ ⟨σ,ι,hi,I.rep,.refl ..,I.gens,I.os⟩)
 · rw [List.forIn_cons,if_pos rfl]
   refine Zhb (Zhb (Zib (hi cenv A fs Fc ι s hsc I) (fun b s' p => Zjb ?_) fun x s' p => kx x s' p))
   show wpAny _ _ (forIn [] b _) _ _ _
   rw [List.forIn_nil]; exact Zjb (k _ _ p)
 · exact (show False from hi).elim
theorem upd_upd {ρ ρ':Loc} {x:Str} {v:Option V} (h:∀ y,y ≠ x → ρ' y = ρ y):upd ρ' x v = upd ρ x v:=by
 funext y; unfold upd; split
 · rfl
 · rename_i q; exact h y q
structure LetGo (T:Tp) (F:List Addr) (ι:Inj) (h₀ h:Heap) (L:Addr):Prop where
 no:L ∉ own ι
 nF:L ∉ F
 b:T.b0.objs.size ≤ L
 lo:h₀.objs.size ≤ L
 dict:∃ m,NsC h L "dict" m
inductive CompOk (T:Tp) (d:Nat) (sc:Scope) (ρ:Loc) (X:QX) (scope:Scope) (x:Str) (ifs:List Expr) (elt:Expr) (Q:QE) (v:V) (σ₁:Hp):Prop where
 | mk (items:List V) (J:Nat → List V → Hp → Prop) (h0:J 0 [] σ₁) (h1:∀ i acc σ,J i acc σ → iterV σ v = some items ∧ acc.length ≤ sizeLine) (h2:∀ acc σ,J items.length acc σ → Q (.ref σ.length) (σ ++ [.list acc]))
     (h3:∀ i y acc σ,J i acc σ → items[i]? = some y → IfsOk T d (relab scope sc) (upd (compLoc scope ρ) x (some y)) X ifs (fun b σ' => if b then EvOk T d (relab scope sc) (upd (compLoc scope ρ) x (some y)) X elt (fun z σ'' => J (i + 1) (acc ++ [z]) σ'') σ' else J (i + 1) acc σ') σ):CompOk T d sc ρ X scope x ifs elt Q v σ₁
theorem comp_core {elt iter:Expr} {x:Str} {px pos:Pos} {ifs:List Expr} {scope:Scope} {use:Option (Value → Sem Unit)} {RR:Value → Shared → Prop} {EE:Value → Shared → Prop} (I:Inv T A fs d env F ρ ι σ s) (hok:compOk scope env.scope = true) (hx:isStore scope x = true) (hs:noSet iter = true)
   (he:ItOk T d env.scope ρ X iter (fun v σ₁ => (T.hd = false ∨ ∃ n,v = .rng n) ∧ CompOk T d env.scope ρ X scope x ifs elt Q v σ₁) σ)
   (hfin:∀ v σ₂ ι₂ s₂ D L,Q v σ₂ → Inv T A fs d env F ρ ι₂ σ₂ s₂ → VRel T ι₂ s₂.heap v (.ref D) → Ext T [] ι s.heap ι₂ s₂.heap → LetGo T F ι₂ s.heap s₂.heap L → compPost (model T.prog T.w) A EE use RR (.ref D) L (.ok .next) s₂)
   (hE:∀ x s',PostX T [] X ι s.heap x s' → EE x s') :
   wpAny (model T.prog T.w) A (comprehension (.ListComp elt [⟨.Name x px,iter,ifs,0⟩] scope pos) scope env (firstIterPos [⟨.Name x px,iter,ifs,0⟩] pos) (newList []) (firstAsync [⟨.Name x px,iter,ifs,0⟩]) (firstIter [⟨.Name x px,iter,ifs,0⟩] env) use) RR EE s:=by
 have hclos:=(comp_frame I hok _ rfl).1
 have hok':=hok
 simp only [compOk,Zob,beq_iff_eq,decide_eq_true_eq] at hok'
 obtain ⟨⟨hkind,hnd⟩,zz⟩:=hok'
 refine wpAny_comprehension_free (use:=use) (cl:=closeFrom env scope.names []) rfl (fun zz => folded_no hs) hclos hkind (fun y hy hl => by obtain ⟨n,k⟩:=y; cases hl; exact lookup_nodup hnd hy) ?_
 show wpAny _ A (eval iter env) _ _ s
 refine Zib (he env A fs F ι s rfl I) (fun xv s₁ p => ?_) fun zz zz p => hE _ _ p
 refine iter_go I p (fun v σ hQ => hQ.2.rec fun items J j0 jit z1 z2 => ⟨items,(jit 0 [] _ j0).1⟩) fun v σ₁ ι₁ Ia H2 hQ I₁ ex it0 nI0 hI0 => ?_
 have hRn:=hQ.1
 obtain ⟨items,J,j0,jit,jend,jturn⟩:=hQ.2
 refine wpAny_newList ?_
 dsimp only
 generalize hH3:H2.push { cls:=.type "list",data:=.seq ([]:List Value).toArray } = H3
 have sz3:H3.objs.size = H2.objs.size + 1:=by rw [← hH3,Zqb]
 have l12:Ia < H2.objs.size:=it0.iterish.elim fun o h => Zu h.1
 have l23:H2.objs.size < H3.objs.size:=sz3 ▸ Zs _
 have l13:=Nat.lt_trans l12 l23
 have k23:∀ b o,H2.get? b = some o → H3.get? b = some o:=fun b o e => by rw [← hH3]; exact Zx _ e
 have hD:IsL H3 H2.objs.size #[] 0:=by rw [← hH3]; exact IsL.new H2 #[]
 have I₃:Inv T A fs d env F ρ ι₁ σ₁ { s₁ with heap:=H3 }:=I₁.grown (h':=H3) (Zq l23) k23
 have e13:Ext T [] ι₁ H2 ι₁ H3:=.of_keeps (Zq l23) k23
 simp only [newFunctionEnv,Option.isSome_some,if_true]
 refine Zhb (wpAny_alloc ?_)
 refine Zhb (wpAny_layCells _ (fun name kind cells => by cases hkc:kind == NameKind.cell <;> simp [hkc]) _ _ _ _ ?_)
 refine (comp_frame I₃ hok _ rfl).2.elim fun Fn h => and5 h fun hFn I₄ e34 hcell hLF => ?_
 refine Zhb ?_
 rw [List.forIn_nil]
 refine Zjb (Zjb ?_)
 dsimp only
 rw [show ({ s₁ with heap:=H3.push { cls:=.type "dict",data:=.dict #[] } }:Shared).heap.objs.size = H3.objs.size + 1 from Zqb ..]
 show codeAny _ A (.compStart _ 0 (.ref Ia) (.ref H2.objs.size) (cenvOf scope env H3.objs.size)) _ _
 generalize hh4:pushCells (H3.push { cls:=.type "dict",data:=.dict #[] }) scope.names = h4 at I₄ e34 ⊢
 have Lc:(cenvOf scope env H3.objs.size).locals = H3.objs.size:=rfl
 generalize hce:cenvOf scope env H3.objs.size = cenv at I₄ hcell Lc ⊢
 have cfr:cenv.frame = env.frame:=by rw [← hce]; rfl
 have csc:cenv.scope = relab scope env.scope:=by rw [← hce]; rfl
 have hb:=I.rep.size
 have hb1:=I₁.rep.size
 have hd:cenv.locals ∉ frs fs:=fun q => by
   obtain ⟨zz,zz,ofr,zz,zz,a3,zz⟩:=I₁.aok.mem q
   rw [Lc] at a3
   have z:H3.objs.size < H2.objs.size:=Zu a3
   exact Nat.lt_asymm l23 z
 have hnf:cenv.frame ≠ some cenv.locals:=fun q => hd (by
   obtain ⟨te,tr,tL,tfs,tf1,tf2⟩:=I₁.top
   rw [cfr,tf2] at q; rw [← Zab q,tfs]
   unfold frs; rw [List.filterMap_cons,tf1]; exact Zt)
 have hl:s.heap.objs.size ≤ cenv.locals:=by rw [Lc]; exact Za ex.size (Zq l23)
 have hFF:∀ a ∈ F,a < H2.objs.size:=fun a ha => (I₁.frm.there a ha).lt
 have hDF:H2.objs.size ∉ Fn ++ F:=fun q => by
   rcases Zm.mp q with q | q
   · have z:H3.objs.size ≤ H2.objs.size:=hFn _ q
     exact Zo.mpr z l23
   · exact Zub _ (hFF _ q)
 have no1:∀ a,H2.objs.size ≤ a → a ∉ own ι₁:=fun a ha q => absurd (I₁.rep.own_lt q) (Zo.mpr ha)
 have k34:∀ b o,H3.get? b = some o → h4.get? b = some o:=fun b o e => by rw [← hh4]; exact pushCells_keeps _ _ _ _ (Zx _ e)
 have it4:ItAt T ι₁ h4 v Ia 0:=it0.keep ⟨⟨[],by simp⟩,fun a o e zz => ⟨o,k34 a o (k23 a o e),rfl⟩,fun a o e zz => k34 a o (k23 a o e)⟩ fun o e => k34 _ o (k23 _ o e)
 have hD4:IsL h4 H2.objs.size #[] 0:=k34 _ _ hD
 have e4:Ext T [] ι s.heap ι₁ h4:=ex.trans (e13.trans e34)
 have hD0:s.heap.objs.size ≤ H2.objs.size:=ex.size
 have hbI:T.b0.objs.size ≤ Ia:=Za hb hI0
 have loop:codeAny (model T.prog T.w) A (.compLoop (.ListComp elt [⟨.Name x px,iter,ifs,0⟩] scope pos) 0 (.ref Ia) (.ref H2.objs.size) cenv)
     (compPost (model T.prog T.w) A EE use RR (.ref H2.objs.size) cenv.locals) { s₁ with heap:=h4 }:=by
   obtain ⟨JJ,hJJ⟩:∃ JJ:Nat → Shared → Prop,∀ n s',JJ n s' ↔ ∃ i acc σ' ι' ρ' its m,n = items.length - i ∧ i ≤ items.length ∧ J i acc σ' ∧ Inv T A fs d cenv (Fn ++ F) ρ' ι' σ' s' ∧ (∀ y,y ≠ x → ρ' y = compLoc scope ρ y) ∧ Ext T [] ι s.heap ι' s'.heap ∧
     ItAt T ι' s'.heap v Ia i ∧ Ia ∉ own ι' ∧ H2.objs.size ∉ own ι' ∧ IsL s'.heap H2.objs.size its m ∧ VRels T ι' s'.heap acc its.toList:=⟨_,fun zz zz => Iff.rfl⟩
   refine codeAny_loop rfl JJ (fun n s' hJ => ?_) items.length ((hJJ _ _).mpr ⟨0,[],σ₁,ι₁,compLoc scope ρ,#[],0,rfl,Zkb _,j0,I₄,fun zz zz => rfl,e4,it4,nI0,no1 _ (Zl _),hD4,trivial⟩)
   refine ex7 ((hJJ _ _).mp hJ) fun i acc σ' ι' ρ' its m h => and11 h fun hn0 hi j I' hρ e' it nI nD hL hv => ?_
   clear h
   subst hn0
   show wpAny _ _ ((compTurn (.ListComp elt [⟨.Name x px,iter,ifs,0⟩] scope pos) 0 (.ref Ia) (.ref H2.objs.size) cenv).onRaise (fun x => do noteFrame x cenv; theTreesLotGoes x)) _ _ s'
   refine wpAny_noted ?_
   rw [compTurn_list]
   have isit:=it.iterish
   have ji:=jit i acc σ' j
   by_cases hlt:i < items.length
   · have hy:items[i]? = some items[i]:=Zp hlt
     refine Zhb (wpAny_standAt (Zhb (next_ok I'.rep it nI ji.1 hy fun h5 t5 y5 hs5 ry it5 => ?_)))
     have k5:∀ b o,b ≠ Ia → s'.heap.get? b = some o → h5.get? b = some o:=fun b o q e => (hs5.2 b q).trans e
     have I5:Inv T A fs d cenv (Fn ++ F) ρ' ι' σ' { s' with heap:=h5,toks:=t5 }:=I'.free k5 (Zr hs5.1.symm) isit nI hbI
     have e5:Ext T [] ι s.heap ι' h5:=e'.free k5 (Zr hs5.1.symm) hI0
     have m5:Mono ι' s'.heap ι' h5:=.free k5 isit ι'
     have hDI:H2.objs.size ≠ Ia:=Nat.ne_of_gt l12
     have hL5:IsL h5 H2.objs.size its m:=k5 _ _ hDI hL
     refine Zhb (letOwned_ok (s:={ s' with heap:=h5,toks:=t5 }) it5 ?_)
     refine Zhb (wpAny_assign_Name (store_at I5.rep I5.frm (by rw [csc]; exact isStore_relab hx) ry fun h6 t6 R6 H6 e6 ds6 a6 => ?_))
     have I6:=I5.stored (t:=t6) R6 H6 e6 ds6
     rw [upd_upd hρ] at I6
     obtain ⟨a,hs6,ha⟩:=a6
     have aF:a ∈ Fn:=by
       rcases ha with rfl | ⟨ka,ca⟩
       · rw [Lc]; exact hLF
       · have hxs:scope.names.lookup x = some .local ∨ scope.names.lookup x = some .cell:=by
           exact isStore_out hx
         have hxc:scope.names.lookup x = some .cell:=by
           rcases hxs with q | q
           · exfalso
             have:cenv.kindOf x = (scope.names.lookup x).map (relK env.scope x):=by rw [← hce]; exact relab_lookup scope.names x
             rw [ka,q] at this; simp [relK] at this
           · exact q
         exact hcell x a hxs ca hxc
     have aL:H3.objs.size ≤ a:=hFn a aF
     have k6:∀ b o,b ≠ a → h5.get? b = some o → h6.get? b = some o:=fun b o q e => (hs6.2 b q).trans e
     have e6':Ext T [] ι s.heap ι' h6:=e5.free k6 (Zr hs6.1.symm) (Za (Za hD0 (Zq l23)) aL)
     have itne:Ia ≠ a:=Nat.ne_of_lt (Zz l13 aL)
     have Dne:H2.objs.size ≠ a:=Nat.ne_of_lt (Zz l23 aL)
     have it6:ItAt T ι' h6 v Ia (i + 1):=it5.keep e6.mono fun o e => k6 _ o itne e
     have hL6:IsL h6 H2.objs.size its m:=k6 _ _ Dne hL5
     have hv6:VRels T ι' h6 acc its.toList:=(hv.mono m5).mono e6.mono
     have hv':=hv6.length
     simp only [Array.length_toList] at hv'
     have next:∀ (s7:Shared) (σ7:Hp) (ι7:Inj),J (i + 1) acc σ7 → Inv T A fs d cenv (Fn ++ F) (upd (compLoc scope ρ) x (some items[i])) ι7 σ7 s7 → Ext T [] ι' h6 ι7 s7.heap → ∃ n,n < items.length - i ∧ JJ n s7:=fun s7 σ7 ι7 j7 I7 e7 => by
       obtain ⟨oi,gi,gii⟩:=it6.iterish
       refine ⟨items.length - (i + 1),Nat.sub_lt_sub_left hlt (Zs i),(hJJ _ _).mpr ⟨i + 1,acc,σ7,ι7,_,its,m,rfl,hlt,j7,I7,fun y hy => by unfold upd; rw [if_neg hy],e6'.trans e7,it6.keep e7.mono fun o ho => e7.keep _ o ho nI (by simp) fun q => ?_,e7.not_own nI (Zu gi),e7.not_own nD (Zu hL6),e7.keep _ _ hL6 nD (by simp) (by simp),hv6.mono e7.mono⟩⟩
       rw [gi] at ho; cases ho; exact Zv ((iterish_no q (by decide)).symm.trans gii)
     show wpAny _ _ (forIn ifs true (fun c r => if r = true then do let ok ← isTrue c cenv (eval c cenv); pure (ForInStep.yield ok) else pure (ForInStep.yield r)) >>= _) _ _ _
     refine Zhb (ifs_ok csc I6 (jturn i items[i] acc σ' j hy) (fun b s7 p => ?_) fun z s7 p => comp_raise hE hb I6 e6' p hd hl hnf)
     obtain ⟨σ7,ι7,q7,rp7,e7,g7,o7⟩:=p
     have I7:=I6.ext e7 rp7 g7 o7
     cases b with
     | false => exact Zjb ⟨rfl,next s7 σ7 ι7 q7 I7 e7⟩
     | true =>
       have e67:=e6'.trans e7
       refine Zhb (Zhb (Zib (q7 cenv A fs (Fn ++ F) ι7 s7 csc I7) (fun z s8 p => ?_) fun z s8 p => comp_raise hE hb I7 e67 p hd hl hnf))
       obtain ⟨zv,σ8,ι8,j8,rz,rp8,e8,g8,o8⟩:=p
       have I8:=I7.ext e8 rp8 g8 o8
       have e78:=e7.trans e8
       have hL8:IsL s8.heap H2.objs.size its m:=e78.keep _ _ hL6 nD (by simp) (by simp)
       have nD8:=e78.not_own nD (Zu hL6)
       obtain ⟨oi,gi,gii⟩:=it6.iterish
       have nI8:=e78.not_own nI (Zu gi)
       have it8:ItAt T ι8 s8.heap v Ia (i + 1):=it6.keep e78.mono fun o ho => e78.keep _ o ho nI (by simp) fun q => by rw [gi] at ho; cases ho; exact Zv ((iterish_no q (by decide)).symm.trans gii)
       refine Zhb (appendL hL8 (by rw [hv']; exact ji.2) fun h9 m9 hL9 hs9 => Zjb (Zjb ⟨rfl,?_⟩))
       have I9:Inv T A fs d cenv (Fn ++ F) (upd (compLoc scope ρ) x (some items[i])) ι8 σ8 { s8 with heap:=h9 }:=I8.side (t:=s8.toks) hs9 hL8 rfl rfl (by simp) nD8 hDF hb1
       have k9:∀ b o,b ≠ H2.objs.size → s8.heap.get? b = some o → h9.get? b = some o:=fun b o q e => (hs9.2 b q).trans e
       have m9':Mono ι8 s8.heap ι8 h9:=.but k9 ⟨_,hL8,rfl,rfl⟩ ι8
       refine ⟨items.length - (i + 1),Nat.sub_lt_sub_left hlt (Zs i),(hJJ _ _).mpr ⟨i + 1,acc ++ [zv],σ8,ι8,_,its.push z,m9,rfl,hlt,j8,I9,fun y hy => by unfold upd; rw [if_neg hy],(e6'.trans e78).free k9 (Zr hs9.1.symm) hD0,it8.keep m9' fun o ho => k9 _ o (Ne.symm hDI) ho,nI8,nD8,hL9,?_⟩⟩
       rw [Array.toList_push]
       refine ((hv6.mono e78.mono).mono m9').append ?_
       exact ⟨rz.mono m9',trivial⟩
   · have:i = items.length:=Nat.le_antisymm hi (Zo.mp hlt)
     subst this
     refine Zhb (wpAny_standAt (Zhb (end_ok (hRn.imp I'.aok.hd fun q => ⟨I'.aok.hx,q⟩) I'.rep it ji.1 (Zl _) fun h5 he5 hz5 => Zjb ?_)))
     have I5:Inv T A fs d cenv (Fn ++ F) ρ' ι' σ' { s' with heap:=h5 }:=I'.free (t:=s'.toks) (fun b o q e => he5 b o q e) hz5 isit nI hbI
     have m5:Mono ι' s'.heap ι' h5:=.free (fun b o q e => he5 b o q e) isit ι'
     have e5:Ext T [] ι s.heap ι' h5:=e'.free (fun b o q e => he5 b o q e) hz5 hI0
     have hDI:H2.objs.size ≠ Ia:=Nat.ne_of_gt l12
     have hL5:IsL h5 H2.objs.size its m:=he5 _ _ hDI hL
     obtain ⟨cl,mm,hc,hN,zz⟩:=I5.frm.ns
     cases hc.2 hnf
     have mz:Mono ι' h5 (ι' ++ [(H2.objs.size,H2.objs.size)]) h5:=⟨⟨_,rfl⟩,fun zz o e zz => ⟨o,e,rfl⟩,fun zz zz e zz => e⟩
     have R5:Rep T (ι' ++ [(H2.objs.size,H2.objs.size)]) (σ' ++ [.list acc]) h5:=I5.rep.more (o:=.list acc) (p:=(H2.objs.size,H2.objs.size)) ⟨rfl,its.toList,⟨m,by simpa using hL5⟩,(hv.mono m5).mono mz⟩ hb1 hb1 nD nD
     have moreX:∀ {ι₀:Inj} {h₀:Heap},Ext T [] ι₀ h₀ ι' h5 → h₀.objs.size ≤ H2.objs.size → Ext T [] ι₀ h₀ (ι' ++ [(H2.objs.size,H2.objs.size)]) h5:=fun e6 hz => by
       obtain ⟨κ,hκ,hκ'⟩:=e6.pre
       exact ⟨⟨κ ++ [(H2.objs.size,H2.objs.size)],by rw [hκ]; simp,fun p hp => by
         rcases Zm.mp hp with hp | hp
         · exact hκ' p hp
         · cases Zj.mp hp; exact ⟨hz,hz⟩⟩,e6.size,e6.cls,e6.frz,e6.keep,e6.frm⟩
     have ap:=I5.frm.apart _ I5.frm.loc
     have nL:cenv.locals ∉ own (ι' ++ [(H2.objs.size,H2.objs.size)]):=fun q => by
       rw [own_append,Zm] at q
       rcases q with q | q
       · exact ap.1 q
       · have:cenv.locals = H2.objs.size:=by simpa [own] using q
         rw [Lc,sz3] at this; exact absurd this (Nat.succ_ne_self _)
     have lF:cenv.locals ∉ F:=fun q => by
       have z:=hFF _ q
       rw [Lc] at z
       exact Nat.lt_asymm l23 z
     have Iout:Inv T A fs d env F ρ (ι' ++ [(H2.objs.size,H2.objs.size)]) (σ' ++ [.list acc]) { s' with heap:=h5 }:=I.ext (s':={ s' with heap:=h5 }) (moreX e5 hD0) R5 I'.gens I'.os
     refine hfin (.ref σ'.length) (σ' ++ [.list acc]) (ι' ++ [(H2.objs.size,H2.objs.size)]) { s' with heap:=h5 } H2.objs.size cenv.locals (jend acc σ' j) Iout ?_ (moreX e5 hD0) ⟨nL,lF,ap.2,hl,mm,hN⟩
     exact ⟨H2.objs.size,H2.objs.size,rfl,by rw [← I5.rep.len]; simp⟩
 rw [Lc] at loop
 exact codeAny_compStart_list loop (iterSelf it4 loop)
theorem EvOk.compI {elt iter:Expr} {x:Str} {px pos:Pos} {ifs:List Expr} {scope:Scope} (hok:compOk scope sc = true) (hx:isStore scope x = true) (hs:noSet iter = true)
   (he:ItOk T d sc ρ X iter (fun v σ₁ => (T.hd = false ∨ ∃ n,v = .rng n) ∧ CompOk T d sc ρ X scope x ifs elt Q v σ₁) σ) :
   EvOk T d sc ρ X (.ListComp elt [⟨.Name x px,iter,ifs,0⟩] scope pos) Q σ:=by
 intro env A fs F ι s hsc I
 subst hsc
 rw [eval_ListComp]
 refine comp_core I hok hx hs he (fun v σ₂ ι₂ s₂ D L q I₂ rv e₂ lg => ?_) fun zz zz p => p
 obtain ⟨no,nF,hb,lo,m,hN⟩:=lg
 refine ⟨m,hN.ns,fun h' hs' => ?_⟩
 obtain ⟨o,es,ep,g1,g2,zz⟩:=hN
 have I₃:Inv T A fs d env F ρ ι₂ σ₂ { s₂ with heap:=h' }:=I₂.side (t:=s₂.toks) hs' g1 (by simp [loose,g2]) (by simp [frozen,g2]) (by rw [g2]; simp) no nF hb
 have k:∀ b o,b ≠ L → s₂.heap.get? b = some o → h'.get? b = some o:=fun b o q e => (hs'.2 b q).trans e
 exact ⟨v,σ₂,ι₂,q,rv.mono (.but k ⟨o,g1,by simp [loose,g2],by simp [frozen,g2]⟩ ι₂),I₃.rep,e₂.free k (Zr hs'.1.symm) lo,I₃.gens,I₃.os⟩
theorem EvOk.compR {elt iter:Expr} {x:Str} {px pos:Pos} {ifs:List Expr} {scope:Scope} (hok:compOk scope sc = true) (hx:isStore scope x = true) (hs:noSet iter = true)
 (he:EvOk T d sc ρ X iter (fun v σ₁ => (T.hd = false ∨ ∃ n,v = .rng n) ∧ CompOk T d sc ρ X scope x ifs elt Q v σ₁) σ) :
 EvOk T d sc ρ X (.ListComp elt [⟨.Name x px,iter,ifs,0⟩] scope pos) Q σ:=.compI hok hx hs he.it
theorem EvOk.comp {elt iter:Expr} {x:Str} {px pos:Pos} {ifs:List Expr} {scope:Scope} (hok:compOk scope sc = true) (hx:isStore scope x = true) (hs:noSet iter = true)
 (he:EvOk T d sc ρ X iter (fun v σ₁ => CompOk T d sc ρ X scope x ifs elt Q v σ₁) σ) (hT:T.hd = false:=by rfl) :
 EvOk T d sc ρ X (.ListComp elt [⟨.Name x px,iter,ifs,0⟩] scope pos) Q σ:=.compR hok hx hs (he.mono (fun zz zz p => ⟨.inl hT,p⟩) fun zz zz p => p)
end
end
section
section
variable {T:Tp} {A:Around} {fs:List Env} {d:Nat} {env:Env} {F:List Addr} {ι ι':Inj} {h h':Heap} {s:Shared} {ρ:Loc} {σ:Hp} {sc:Scope} {X:XS} {Q:QS}
theorem swaps_yes {elt:Expr} {gens:List Comprehension} {y:Str} {py pos:Pos} {scope:Scope} {l:Nat} (hkind:env.scope.kind = .function) (hy:env.kindOf y = some .local) (hsw:(py.line == pos.line && !(scope.names.any fun (n,k) => n == y && (k == .local || k == .cell))) = true) :
   swapsWith (.ListComp elt gens scope pos) (some (.Name y py)) l env = pure true:=by
 have:swapsWith (.ListComp elt gens scope pos) (some (.Name y py)) l env = (pure (env.blockKind == .function && env.kindOf y == some .local && py.line == pos.line && !(scope.names.any fun (n,k) => n == y && (k == .local || k == .cell))):Sem Bool):=rfl
 rw [this]
 simp only [Zob] at hsw
 rw [hsw.1,hsw.2,hy,show env.blockKind = .function by unfold Env.blockKind; rw [hkind]; rfl]; rfl
theorem usedComp_ok {RR:Value → Shared → Prop} {EE:Value → Shared → Prop} {y:Str} {py:Pos} {v:V} {σ₂:Hp} {ι₂:Inj} {s₂:Shared} {D L:Addr} (hy:isStore env.scope y = true) (I₂:Inv T A fs d env F ρ ι₂ σ₂ s₂) (rv:VRel T ι₂ s₂.heap v (.ref D)) (e₂:Ext T [] ι s.heap ι₂ s₂.heap) (lg:LetGo T F ι₂ s.heap s₂.heap L)
   (k:∀ s',Inv T A fs d env F (upd ρ y (some v)) ι₂ σ₂ s' → Ext T F ι s.heap ι₂ s'.heap → RR .none s') :
   compPost (model T.prog T.w) A EE (some (assign (.Name y py) env)) RR (.ref D) L (.ok .next) s₂:=by
 obtain ⟨no,nF,hb,lo,m,hN⟩:=lg
 show wpAny _ A (assign (.Name y py) env (.ref D)) _ _ s₂
 refine wpAny_assign_Name (store_at I₂.rep I₂.frm hy rv fun h₃ t₃ R₃ H₃ e₃ ds₃ a₃ => ?_)
 have I₃:=I₂.stored (t:=t₃) R₃ H₃ e₃ ds₃
 obtain ⟨a,hs₃,ha⟩:=a₃
 have aF:a ∈ F:=by
   rcases ha with rfl | ⟨ka,ca⟩
   · exact I₂.frm.loc
   · exact I₂.frm.cin y a ka ca
 have hLa:L ≠ a:=fun q => nF (q ▸ aF)
 have hN₃:=hN.sameBut hs₃ hLa
 refine ⟨m,hN₃.ns,fun h₄ hs₄ => ?_⟩
 obtain ⟨o,es,ep,g1,g2,zz⟩:=hN₃
 have I₄:Inv T A fs d env F _ ι₂ σ₂ { s₂ with heap:=h₄,toks:=t₃ }:=I₃.side (t:=t₃) hs₄ g1 (by simp [loose,g2]) (by simp [frozen,g2]) (by rw [g2]; simp) no nF hb
 have kk:∀ b o,b ≠ L → h₃.get? b = some o → h₄.get? b = some o:=fun b o q e => (hs₄.2 b q).trans e
 exact k _ I₄ ((e₂.up.trans e₃).free kk (Zr hs₄.1.symm) lo)
theorem StOk.assignComp {elt iter:Expr} {y x:Str} {py px pos pos':Pos} {ifs:List Expr} {scope:Scope} (hok:compOk scope sc = true) (hx:isStore scope x = true) (hs:noSet iter = true) (hy:sc.names.lookup y = some .local)
   (hsw:(py.line == pos.line && !(scope.names.any fun (n,k) => n == y && (k == .local || k == .cell))) = true)
   (he:EvOk T d sc ρ X iter (fun v σ₁ => CompOk T d sc ρ X scope x ifs elt (fun w σ => Q .next (upd ρ y (some w)) σ) v σ₁) σ) (hT:T.hd = false:=by rfl) :
   StOk T d sc ρ X (.Assign [.Name y py] (.ListComp elt [⟨.Name x px,iter,ifs,0⟩] scope pos) pos') Q σ:=by
 intro env A fs F ι s hsc I
 subst hsc
 rw [exec_Assign_Name_used _ _ _ _ (swaps_yes I.frm.kind hy hsw)]
 refine Zhb (wpAny_standAt (Zhb ?_))
 show wpAny _ A (do let _ ← comprehension (.ListComp elt [⟨.Name x px,iter,ifs,0⟩] scope pos) scope env _ (newList []) false (eval iter env) (some (PySem.assign (.Name y py) env))) _ _ s
 have core:=comp_core (use:=some (PySem.assign (.Name y py) env)) (RR:=fun zz s' => PostS T A fs d env F Q ι s.heap .next s') (EE:=PostSX T A fs d env F X ι s.heap) (Q:=fun v σ₁ => Q .next (upd ρ y (some v)) σ₁) (pos:=pos) (px:=px) I hok hx hs (he.mono (fun zz zz p => ⟨.inl hT,p⟩) fun zz zz p => p).it
   (fun v σ₂ ι₂ s₂ D L q I₂ rv e₂ lg => usedComp_ok (py:=py) (by unfold isStore; rw [hy]) I₂ rv e₂ lg fun s' I' e' => ⟨.next,_,σ₂,ι₂,q,.next,I',e'⟩) fun zz zz p => p.sx I fun zz zz k => k
 exact Zhb (Zib core (fun zz s' hq => Zjb (Zjb hq)) fun zz zz e => e)
theorem StOk.assignCell {x:Str} {pos' pos:Pos} {e:Expr} (q:EvOk T d sc ρ X e (fun v σ' => Q .next (upd ρ x (some v)) σ') σ) (hk:sc.names.lookup x = some .cell) :
   StOk T d sc ρ X (.Assign [.Name x pos'] e pos) Q σ:=by
 intro env A fs F ι s hsc I
 subst hsc
 have hsw:swapsWith e (some (.Name x pos')) pos.line env = pure false:=by
   have kx:env.kindOf x = some .cell:=hk
   cases e <;> first | rfl | skip
   all_goals
     show (pure (env.blockKind == .function && env.kindOf x == some .local && _ && _):Sem Bool) = pure false
     rw [kx,show (some NameKind.cell == some NameKind.local) = false from rfl,Bool.and_false,Bool.false_and,Bool.false_and]
 refine wpAny_Assign_Name (Zib (q env A fs F ι s rfl I) (fun y s₁ p => ?_) fun zz zz p => p.sx I fun zz zz k => k) hsw
 obtain ⟨v,σ₁,ι₁,q,rv,rp,ex,g,o⟩:=p
 have I₁:=I.ext ex rp g o
 refine store_ok I₁.rep I₁.frm (by unfold isStore; rw [hk]) rv fun h' t R' H' e' ds => ?_
 exact ⟨.next,_,σ₁,ι₁,q,.next,I₁.stored R' H' e' ds,ex.up.trans e'⟩
end
end
section
section
variable {T:Tp} {d:Nat} {X:QX} {Q:QE} {σ:Hp} {A:Around} {fs:List Env} {ι:Inj} {s:Shared} {h':Heap}
theorem VRels.one {v:V} {xs:List Value} {h:Heap} (r:VRels T ι h [v] xs):∃ x,xs = [x] ∧ VRel T ι h v x:=by
 obtain ⟨x,r',rfl,a,b⟩:=VRels.cons_iff.mp r; cases VRels.nil_iff.mp b; exact ⟨x,rfl,a⟩
theorem VRel.type_inv {id:String} {x:Value} {h:Heap} (r:VRel T ι h (.type id) x):x = .type id:=r
noncomputable def fvV (vv:V):Value:=vv.casesOn (.none) (fun _ => .none) (fun _ => .none) (fun _ => .none) (fun _ => .none) (fun _ => .none) (fun _ => .none) (fun _ _ => .none) (fun n => .type n) (fun id => .builtin id) (fun _ => .none) (fun _ => .none) (fun _ => .none) (fun _ _ => .none)
theorem callee {f:V} {fv:Value} {h:Heap} (hf:callable f = true) (r:VRel T ι h f fv):fv = fvV f:=by
 cases f <;> first | exact (Zv hf).elim | exact r
theorem CallOk.b1 {f v:V} (hf:callable f = true) (k:∀ {A fs ι s x},St T A fs d ι σ s → VRel T ι s.heap v x → wpAny (model T.prog T.w) A (call (fvV f) [x]) (PostE T [] Q ι s.heap) (PostX T [] X ι s.heap) s):CallOk T d X f [v] Q σ:=fun A fs ι s fv xs S rf rxs => by
 obtain ⟨x,rfl,r⟩:=rxs.one
 rw [callee hf rf]; exact k S r
theorem CallOk.b2 {f v w:V} (hf:callable f = true) (k:∀ {A fs ι s x y},St T A fs d ι σ s → VRel T ι s.heap v x → VRel T ι s.heap w y → wpAny (model T.prog T.w) A (call (fvV f) [x,y]) (PostE T [] Q ι s.heap) (PostX T [] X ι s.heap) s):CallOk T d X f [v,w] Q σ:=fun A fs ι s fv xs S rf rxs => by
 obtain ⟨x,y,rfl,r,r2⟩:=rxs.two
 rw [callee hf rf]; exact k S r r2
inductive LstAt (T:Tp) (ι:Inj) (l:Nat) (vs:List V) (h:Heap) (x:Value):Prop where
 | mk (a dx:Addr) (items:Array Value) (m:Nat) (e:x = .ref a) (hι:ι[l]? = some (a,dx)) (hL:IsL h a items m) (hv:VRels T ι h vs items.toList) (hs:items.size = vs.length):LstAt T ι l vs h x
theorem Rep.lst {h:Heap} {l:Nat} {vs:List V} {x:Value} (R:Rep T ι σ h) (hl:σ[l]? = some (.list vs)) (r:VRel T ι h (.ref l) x):LstAt T ι l vs h x:=by
 obtain ⟨a,dx,rfl,hι⟩:=r.ref_inv
 obtain ⟨items,m,hL,hv⟩:=R.list_at hl hι
 exact ⟨a,dx,items,m,rfl,hι,hL,hv,size_eq hv⟩
noncomputable def lenO:Option MObj → Option Nat
 | some (.list vs) => some vs.length
 | some (.sdict kvs) => some kvs.length
 | z1 => none
theorem lenO_out {o:Option MObj} {n:Nat} (h:lenO o = some n):(∃ vs,o = some (.list vs) ∧ vs.length = n) ∨ ∃ kvs,o = some (.sdict kvs) ∧ kvs.length = n:=by
 rcases o with zz | o
 · exact (no_some h).elim
 · cases o <;> first | exact .inl ⟨_,rfl,sm_inj h⟩ | exact .inr ⟨_,rfl,sm_inj h⟩ | exact (no_some h).elim
noncomputable def lenV (σ:Hp) (vv:V):Option Nat:=vv.casesOn (none) (fun _ => none) (fun _ => none) (fun x => some x.length) (fun vs => some vs.length) (fun l => lenO σ[l]?) (fun _ => none) (fun _ _ => none) (fun _ => none) (fun _ => none) (fun _ => none) (fun _ => none) (fun xs => some xs.length) (fun _ _ => none)
theorem len_list {l:Nat} {vs:List V} (h:σ[l]? = some (.list vs)):lenV σ (.ref l) = some vs.length:=congrArg lenO h
theorem n63 {n m:Nat} (hn:n < 2 ^ 62) (e:m = n):(m:Int) < 2 ^ 63:=by lia
theorem n63' {n m:Nat} (hn:n < 2 ^ 62) (e:m = n):¬ (m:Int) ≥ 2 ^ 63:=Int.not_le.mpr (n63 hn e)
theorem CallOk.len {v:V} {n:Nat} (e:lenV σ v = some n) (hn:n < 2 ^ 62) (q:Q (.int n) σ):CallOk T d X (.bi "len") [v] Q σ:=.b1 rfl fun S r => by
 cases v <;> first | exact (no_some e).elim | skip
 · obtain ⟨t,rfl⟩:=r.str_inv
   exact len_str (n63' hn (sm_inj e)) (S.post (sm_inj e ▸ q) .int_mk _)
 · obtain ⟨a,items,m,rfl,ht,hv⟩:=r.tup_inv
   have e:=(size_eq hv).trans (sm_inj e)
   exact P.len_tuple ht (n63' hn e) (S.post (e ▸ q) .int_mk _)
 · rcases lenO_out e with ⟨vs,hvs,e⟩ | ⟨kvs,hvs,e⟩
   · obtain ⟨a,dx,items,m,rfl,hι,hL,hv,hs⟩:=S.rep.lst hvs r
     have e:=hs.trans e
     exact Calls.call_len_list hL.isList (n63 hn e) (S.post (e ▸ q) .int_mk _)
   · obtain ⟨a,dx,rfl,hι⟩:=r.ref_inv
     obtain ⟨rvs,hd,hv,hs⟩:=S.rep.sdict_at hvs hι
     have e:=hv.length.trans e
     exact call_len_dict hs hd (n63 hn e) (S.post (e ▸ q) .int_mk _)
 · obtain ⟨a,ob,items,n,rfl,ho,hc,hd,l,hl,rfl⟩:=r
   have e:items.size = _:=(by rw [← Array.length_toList,hl,Zc,Zc]:items.size = (l.map (·.1)).length).trans (sm_inj e)
   exact Calls.call_len_list ⟨_,S.rep.base _ _ ho,hc,n,hd⟩ (n63 hn e) (S.post (e ▸ q) .int_mk _)
noncomputable def kindName (σ:Hp) (vv:V):Option String:=vv.casesOn (some "NoneType") (fun z1 => some "bool") (fun z1 => some "int") (fun z1 => some "str") (fun z1 => some "tuple") (fun l => atL (fun zz => some "list") σ[l]?) (fun _ => none) (fun _ _ => none) (fun _ => none) (fun _ => none) (fun _ => none) (fun _ => none) (fun _ => none) (fun _ _ => none)
noncomputable def isiV (σ:Hp) (v:V) (ty:String):Option Bool:=(kindName σ v).bind fun k => if ["list", "str", "tuple"].contains ty then some (k == ty) else none
theorem isi_k {k:String} {ty:String} {b:Bool} (hb:(k == ty) = b) (hty:ty = "list" ∨ ty = "str" ∨ ty = "tuple") {P:String → Bool → Prop} (h1:P "list" (k == "list")) (h2:P "str" (k == "str")) (h3:P "tuple" (k == "tuple")):P ty b:=by
 subst hb
 rcases hty with rfl | rfl | rfl
 · exact h1
 · exact h2
 · exact h3
theorem isi_go {v:V} {ty k:String} {b:Bool} (hty:ty = "list" ∨ ty = "str" ∨ ty = "tuple") (hk:kindName σ v = some k) (hb:(k == ty) = b) (q:Q (.bool b) σ):CallOk T d X (.bi "isinstance") [v,.type ty] Q σ:=.b2 rfl fun {A fs ι s x y} S r r2 => by
 rw [VRel.type_inv r2]
 have go:∀ {P:String → Bool → Prop},P "list" (k == "list") → P "str" (k == "str") → P "tuple" (k == "tuple") → P ty b:=fun h1 h2 h3 => isi_k hb hty h1 h2 h3
 revert q
 cases v <;> first | exact (no_some hk).elim | skip
 · cases sm_inj hk; cases r.none_inv
   refine go (P:=fun ty b => Q (.bool b) σ → wpAny (model T.prog T.w) A (call (.builtin "isinstance") [_,.type ty]) (PostE T [] Q ι s.heap) (PostX T [] X ι s.heap) s) ?_ ?_ ?_
   · exact fun q => IsiPair.NoneType_list (S.post q .bool_mk _)
   · exact fun q => IsiPair.NoneType_str (S.post q .bool_mk _)
   · exact fun q => IsiPair.NoneType_tuple (S.post q .bool_mk _)
 · cases sm_inj hk; cases r.bool_inv
   refine go (P:=fun ty b => Q (.bool b) σ → wpAny (model T.prog T.w) A (call (.builtin "isinstance") [_,.type ty]) (PostE T [] Q ι s.heap) (PostX T [] X ι s.heap) s) ?_ ?_ ?_
   · exact fun q => IsiPair.bool_list (S.post q .bool_mk _)
   · exact fun q => IsiPair.bool_str (S.post q .bool_mk _)
   · exact fun q => IsiPair.bool_tuple (S.post q .bool_mk _)
 · cases sm_inj hk; obtain ⟨t,rfl⟩:=r.int_inv
   refine go (P:=fun ty b => Q (.bool b) σ → wpAny (model T.prog T.w) A (call (.builtin "isinstance") [_,.type ty]) (PostE T [] Q ι s.heap) (PostX T [] X ι s.heap) s) ?_ ?_ ?_
   · exact fun q => IsiPair.int_list (S.post q .bool_mk _)
   · exact fun q => IsiPair.int_str (S.post q .bool_mk _)
   · exact fun q => IsiPair.int_tuple (S.post q .bool_mk _)
 · cases sm_inj hk; obtain ⟨t,rfl⟩:=r.str_inv
   refine go (P:=fun ty b => Q (.bool b) σ → wpAny (model T.prog T.w) A (call (.builtin "isinstance") [_,.type ty]) (PostE T [] Q ι s.heap) (PostX T [] X ι s.heap) s) ?_ ?_ ?_
   · exact fun q => IsiPair.str_list (S.post q .bool_mk _)
   · exact fun q => IsiPair.str_str (S.post0 q .bool_mk)
   · exact fun q => IsiPair.str_tuple (S.post q .bool_mk _)
 · cases sm_inj hk; obtain ⟨a,items,m,rfl,ht,hv⟩:=r.tup_inv
   refine go (P:=fun ty b => Q (.bool b) σ → wpAny (model T.prog T.w) A (call (.builtin "isinstance") [_,.type ty]) (PostE T [] Q ι s.heap) (PostX T [] X ι s.heap) s) ?_ ?_ ?_
   · exact fun q => IsiPair.tuple_list ht rfl (S.post q .bool_mk _)
   · exact fun q => IsiPair.tuple_str ht rfl (S.post q .bool_mk _)
   · exact fun q => IsiPair.tuple_tuple ht rfl (S.post0 q .bool_mk)
 · obtain ⟨vs,hvs,hk⟩:=atL_out hk
   cases sm_inj hk
   obtain ⟨a,dx,items,m,rfl,hι,hL,hv,hs⟩:=S.rep.lst hvs r
   refine go (P:=fun ty b => Q (.bool b) σ → wpAny (model T.prog T.w) A (call (.builtin "isinstance") [_,.type ty]) (PostE T [] Q ι s.heap) (PostX T [] X ι s.heap) s) ?_ ?_ ?_
   · exact fun q => IsiPair.list_list hL rfl (S.post0 q .bool_mk)
   · exact fun q => IsiPair.list_str hL rfl (S.post q .bool_mk _)
   · exact fun q => IsiPair.list_tuple hL rfl (S.post q .bool_mk _)
theorem CallOk.isi {v:V} {ty:String} {b:Bool} (e:isiV σ v ty = some b) (q:Q (.bool b) σ):CallOk T d X (.bi "isinstance") [v,.type ty] Q σ:=by
 obtain ⟨k,hk,e⟩:=Option.bind_eq_some_iff.mp e
 obtain ⟨hty,e⟩:=ite_some e
 simp only [List.contains_iff_mem,Zg,List.not_mem_nil,or_false] at hty
 exact isi_go hty hk e q
theorem CallOk.ord {c:Nat} (q:Q (.int c) σ):CallOk T d X (.bi "ord") [.str ⟨#[c]⟩] Q σ:=.b1 rfl fun S r => Zh r fun zz e => e ▸ P.ord_of_char (S.post q .int_mk _)
theorem CallOk.range {n:Int} (q:Q (.rng n) σ):CallOk T d X (.type "range") [.int n] Q σ:=.b1 rfl fun S r => Zh r fun zz e => e ▸ call_range_1 ⟨.rng n,σ,_,q,⟨_,_,_,_,rfl,Heap.get?_push_size _ rfl⟩,S.rep.push _,.push ..,S.gens,S.os⟩
noncomputable def seqV (σ:Hp) (vv:V):Option (List V):=vv.casesOn (none) (fun _ => none) (fun _ => none) (fun _ => none) (fun vs => some vs) (fun l => atL some σ[l]?) (fun _ => none) (fun _ _ => none) (fun _ => none) (fun _ => none) (fun _ => none) (fun _ => none) (fun _ => none) (fun _ _ => none)
theorem St.madeList {vs:List V} {items:Array Value} {h':Heap} {c' t:Nat} (S:St T A fs d ι σ s) (hz:s.heap.objs.size ≤ h'.objs.size) (k:∀ b o',s.heap.get? b = some o' → h'.get? b = some o') (g:h'.get? s.heap.objs.size = some ⟨.type "list",Option.none,.seq items c',#[]⟩) (hv:VRels T ι s.heap vs items.toList) (q:Q (.ref σ.length) (σ ++ [.list vs])):PostE T [] Q ι s.heap (.ref s.heap.objs.size) { s with heap:=h',toks:=t }:=by
 have no:s.heap.objs.size ∉ own ι:=fun z => absurd (S.rep.own_lt z) (Zub _)
 have e0:Ext T [] ι s.heap ι h':=.of_keeps hz k
 have mz:Mono ι s.heap (ι ++ [(s.heap.objs.size,s.heap.objs.size)]) h':=⟨⟨_,rfl⟩,e0.cls,e0.frz⟩
 exact ⟨.ref σ.length,_,ι ++ [(s.heap.objs.size,s.heap.objs.size)],q,⟨s.heap.objs.size,s.heap.objs.size,rfl,by rw [← S.rep.len]; simp⟩,(S.rep.grow hz k).more (o:=.list vs) (p:=(s.heap.objs.size,s.heap.objs.size)) ⟨rfl,items.toList,⟨c',g⟩,hv.mono mz⟩ S.rep.size S.rep.size no no,⟨⟨_,rfl,by simp⟩,e0.size,e0.cls,e0.frz,e0.keep,e0.frm⟩,S.gens,S.os⟩
theorem list_go {vs:List V} {a:Addr} {ty:String} {items:Array Value} {m:Nat} (S:St T A fs d ι σ s) (hn:vs.length ≤ sizeLine) (q:Q (.ref σ.length) (σ ++ [.list vs])) (hty:ty = "list" ∨ ty = "tuple") (ho:s.heap.get? a = some ⟨.type ty,Option.none,.seq items m,#[]⟩) (hv:VRels T ι s.heap vs items.toList) :
   wpAny (model T.prog T.w) A (call (.type "list") [.ref a]) (PostE T [] Q ι s.heap) (PostX T [] X ι s.heap) s:=by
 have fin:wpAny (model T.prog T.w) A (call (.type "list") [.ref a]) (fun y s' => y = .ref s.heap.objs.size ∧ ∃ h' c',s' = { s with heap:=h' } ∧ (∀ b o',s.heap.get? b = some o' → h'.get? b = some o') ∧ h'.get? s.heap.objs.size = some { cls:=.type "list",dict:=Option.none,data:=.seq items c',slots:=#[] }) (PostX T [] X ι s.heap) s :=
   call_list_seq a hty ho rfl rfl (fun h' c' k g => ⟨rfl,h',c',rfl,k,g⟩) (Za (Zr (size_eq hv)) hn)
 refine Zib (wpAny_size fin) (fun y s' p => ?_) fun zz zz p => p.1
 obtain ⟨⟨rfl,h',c',rfl,k,g⟩,hz⟩:=p
 exact S.madeList (t:=s.toks) hz k g hv q
theorem CallOk.list {v:V} {vs:List V} (e:seqV σ v = some vs) (hn:vs.length ≤ sizeLine) (q:Q (.ref σ.length) (σ ++ [.list vs])):CallOk T d X (.type "list") [v] Q σ:=.b1 rfl fun S r => by
 cases v <;> first | exact (no_some e).elim | skip
 · obtain ⟨a,items,m,rfl,ht,hv⟩:=r.tup_inv
   exact list_go S hn q (.inr rfl) ht (sm_inj e ▸ hv)
 · obtain ⟨vs',hvs,e⟩:=atL_out e
   obtain ⟨a,dx,items,m,rfl,hι,hL,hv,hs⟩:=S.rep.lst hvs r
   exact list_go S hn q (.inl rfl) hL (sm_inj e ▸ hv)
theorem CallOk.min2 {a b:Int} (q:Q (.int (if b < a then b else a)) σ) (hT:T.hd = false:=by rfl):CallOk T d X (.bi "min") [.int a,.int b] Q σ:=.b2 rfl fun {A fs ι s x y} S r1 r2 => by
 obtain ⟨t,rfl⟩:=r1.int_inv
 obtain ⟨u,rfl⟩:=r2.int_inv
 have fin:wpAny (model T.prog T.w) A (call (.builtin "min") [.int a t,.int b u]) (fun y s' => y = (if b < a then .int b u else .int a t) ∧ ∃ h' c',s' = { s with heap:=h',toks:=c' } ∧ (∀ b o',s.heap.get? b = some o' → h'.get? b = some o')) (PostX T [] X ι s.heap) s :=
   min_two_ints (S.aok.hd hT) fun h' tk k => ⟨rfl,h',tk,rfl,k⟩
 refine Zib (wpAny_size fin) (fun y s' p => ?_) fun zz zz p => p.1
 obtain ⟨⟨rfl,h',c',rfl,k⟩,hz⟩:=p
 refine S.grown hz k q ?_
 split
 · exact .int_mk
 · exact .int_mk
end
end
section
section
variable {T:Tp} {d:Nat} {X:QX} {Q:QE} {σ:Hp} {A:Around} {fs:List Env} {ι:Inj} {s:Shared} {h':Heap}
theorem St.setList {l:Nat} {vs vs':List V} {a dx:Addr} {items:Array Value} {n t:Nat} {g:Array Value → Array Value} {v:V} {x:Value} (S:St T A fs d ι σ s) (hl:σ[l]? = some (.list vs)) (hι:ι[l]? = some (a,dx)) (hL:IsL s.heap a items n) (hv:VRels T ι s.heap vs' (g items).toList)
   (q:Q v (σ.set l (.list vs'))) (r:VRel T ι s.heap v x):PostE T [] Q ι s.heap x { s with heap:=s.heap.update a (Obj.mapSeq g),toks:=t }:=by
 have h2:(s.heap.update a (Obj.mapSeq g)).get? a = some ⟨.type "list",Option.none,.seq (g items) (if (g items).size == items.size then n else n + 1),#[]⟩:=Heap.get?_update_self _ hL rfl
 obtain ⟨e1,zz⟩:=S.rep.objs l _ _ hl hι
 cases e1
 obtain ⟨S',e⟩:=St.turned (t:=t) (o:=.list vs') S hι (Heap.SameBut.update ..) (.inl rfl) hL h2 rfl rfl fun m => ⟨rfl,(g items).toList,⟨_,by simpa using h2⟩,hv.mono m⟩
 exact ⟨v,_,ι,q,r.mono e.mono,S'.rep,e,S.gens,S.os⟩
theorem CallOk.append {l:Nat} {v:V} {vs:List V} (hl:σ[l]? = some (.list vs)) (hn:vs.length ≤ sizeLine) (q:Q .none (σ.set l (.list (vs ++ [v])))):CallOk T d X (.bi "list.append") [.ref l,v] Q σ:=.b2 rfl fun {A fs ι s x y} S r ry => by
 obtain ⟨a,dx,items,m,rfl,hι,hL,hv,hlen⟩:=S.rep.lst hl r
 refine call_meets F.slot_list_append ⟨_,hL,rfl⟩ F.entry_list_append (F.args_list_append_2 _ _) (list_append a items m y (by (clear hι hl; lia))) ⟨hL,?_⟩
 refine S.setList (g:=fun z => z.push y) hl hι hL ?_ q .none_mk
 rw [Array.toList_push]
 exact hv.append (by exact ⟨ry,trivial⟩)
theorem VRels.snoc {h:Heap} {v:V} {vs:List V}:∀ {xs:List Value},VRels T ι h (vs ++ [v]) xs → ∃ ys y,xs = ys ++ [y] ∧ VRels T ι h vs ys ∧ VRel T ι h v y:=by
 induction vs with
 | nil => exact fun r => (VRels.one r).elim fun x e => ⟨[],x,e.1,trivial,e.2⟩
 | cons w vs ih => exact fun r => ex2 (VRels.cons_iff.mp r) fun x r' e => ex2 (ih e.2.2) fun ys y q => ⟨x :: ys,y,e.1.trans (congrArg (x :: ·) q.1),⟨e.2.1,q.2.1⟩,q.2.2⟩
theorem CallOk.pop {l:Nat} {v:V} {vs:List V} (hl:σ[l]? = some (.list (vs ++ [v]))) (hn:vs.length < sizeLine) (q:Q v (σ.set l (.list vs))):CallOk T d X (.bi "list.pop") [.ref l] Q σ:=.b1 rfl fun {A fs ι s x} S r => by
 obtain ⟨a,dx,items,m,rfl,hι,hL,hv,hlen0⟩:=S.rep.lst hl r
 obtain ⟨ys,y,hi,hy,ry⟩:=hv.snoc
 have hlen:=hv.length
 simp only [Array.length_toList,Zf,List.length_cons,List.length_nil] at hlen
 have hsz:items.size - 1 = ys.length:=by
   have:items.size = ys.length + 1:=by rw [← Array.length_toList,hi]; simp
   rw [this]; rfl
 have hlast:items[items.size - 1]? = some y:=by
   rw [← Array.getElem?_toList,hi,hsz]; simp
 refine call_meets F.slot_list_pop ⟨_,hL,rfl⟩ F.entry_list_pop (F.args_list_pop_1 _) (MeetsSeq.list_pop_last a items m y hlast (by (clear hsz hlast hι hl; lia))) ⟨hL,?_⟩
 refine S.setList (t:=s.toks) (g:=fun z => z.eraseIdxIfInBounds (items.size - 1)) hl hι hL ?_ q ry
 have e2:(items.eraseIdxIfInBounds (items.size - 1)).toList = ys:=by
   rw [Array.toList_eraseIdxIfInBounds,hi,hsz]
   simp [List.eraseIdx_append_of_length_le]
 rw [e2]; exact hy
theorem CallOk.clear {l:Nat} {vs:List V} (hl:σ[l]? = some (.list vs)) (hn:vs.length ≤ sizeLine) (q:Q .none (σ.set l (.list []))):CallOk T d X (.bi "list.clear") [.ref l] Q σ:=.b1 rfl fun {A fs ι s x} S r => by
 obtain ⟨a,dx,items,m,rfl,hι,hL,hv,hlen⟩:=S.rep.lst hl r
 refine call_meets F.slot_list_clear ⟨_,hL,rfl⟩ F.entry_list_clear (F.args_list_clear_1 _) (AutoSeq1.list_clear_list_0 a items m (by (clear hι hl; lia))) ⟨hL,?_⟩
 exact S.setList (g:=fun zz => #[]) hl hι hL (show VRels T ι s.heap [] [] from trivial) q .none_mk
theorem CallOk.extend {l k:Nat} {vs us:List V} (hl:σ[l]? = some (.list vs)) (hk:σ[k]? = some (.list us)) (hn:vs.length + us.length ≤ sizeLine) (q:Q .none (σ.set l (.list (vs ++ us)))):CallOk T d X (.bi "list.extend") [.ref l,.ref k] Q σ:=.b2 rfl fun {A fs ι s x y} S r ry => by
 obtain ⟨a,dx,items,m,rfl,hι,hL,hv,hlen⟩:=S.rep.lst hl r
 obtain ⟨b,dy,items2,m2,rfl,hιb,hL2,hv2,hlen2⟩:=S.rep.lst hk ry
 refine call_meets F.slot_list_extend ⟨_,hL,rfl⟩ F.entry_list_extend (F.args_list_extend_2 _ _) (AutoSeq1.list_extend_list_list_0 a items m b items2 m2 (fun z => by
   rw [Zob] at z
   have z2:=z.2
   unfold Builtin.List.listTooLong at z2
   rw [decide_eq_true_eq] at z2; (clear z hιb hι hl hk; lia)) (by (clear hlen2 hι hιb hk hl; lia)) (by (clear hι hιb hk hl; lia))) ⟨hL,hL2,?_⟩
 refine S.setList (g:=fun z => z ++ items2) hl hι hL ?_ q .none_mk
 rw [Array.toList_append]; exact hv.append hv2
theorem allB_at {h:Heap} {bs:List Bool}:∀ {xs:List Value},VRels T ι h (bs.map V.bool) xs → xs = bs.map Value.bool:=by
 induction bs with
 | nil => exact fun r => VRels.nil_iff.mp r
 | cons b bs ih => exact fun r => ex2 (VRels.cons_iff.mp r) fun x r' e => e.1.trans (e.2.1.bool_inv ▸ congrArg _ (ih e.2.2))
theorem truthsOk {prog:Program} {w:World} {A:Around} (bs:List Bool):TruthOf prog w A (fun i v => ((bs.map Value.bool).toArray)[i]? = some v) (fun i => bs.getD i false):=fun i v s Q E hP hQ => by
 simp only [List.getElem?_toArray,Zdb,Zpb] at hP
 obtain ⟨b,hb,rfl⟩:=hP
 refine wpAny_truthy_bool ?_
 have hQ':Q (bs.getD i false) s:=hQ
 rw [List.getD_eq_getElem?_getD,hb] at hQ'
 exact hQ'
theorem range_all (bs:List Bool):((List.range bs.length).all fun i => bs.getD i false) = bs.all id:=by
 rw [Bool.eq_iff_iff,List.all_eq_true,List.all_eq_true]
 constructor
 · intro h x hx
   obtain ⟨i,hi,rfl⟩:=List.getElem_of_mem hx
   have:=h i (by simpa using hi)
   simpa [List.getD_eq_getElem?_getD,hi] using this
 · intro h i hi
   have hi':i < bs.length:=by simpa using hi
   simpa [List.getD_eq_getElem?_getD,hi'] using h bs[i] (List.getElem_mem hi')
theorem range_any (bs:List Bool):((List.range bs.length).any fun i => bs.getD i false) = bs.any id:=by
 rw [Bool.eq_iff_iff,List.any_eq_true,List.any_eq_true]
 constructor
 · rintro ⟨i,hi,h⟩
   have hi':i < bs.length:=by simpa using hi
   exact ⟨bs[i],List.getElem_mem hi',by simpa [List.getD_eq_getElem?_getD,hi'] using h⟩
 · rintro ⟨x,hx,h⟩
   obtain ⟨i,hi,rfl⟩:=List.getElem_of_mem hx
   exact ⟨i,by simpa using hi,by simpa [List.getD_eq_getElem?_getD,hi] using h⟩
theorem CallOk.all {l:Nat} {bs:List Bool} (hl:σ[l]? = some (.list (bs.map V.bool))) (q:Q (.bool (bs.all id)) σ) (hT:T.hd = false:=by rfl):CallOk T d X (.bi "all") [.ref l] Q σ:=.b1 rfl fun {A fs ι s x} S r => by
 obtain ⟨a,dx,items,m,rfl,hι,hL,hv,hlen0⟩:=S.rep.lst hl r
 have hitems:items = (bs.map Value.bool).toArray:=by rw [← allB_at hv]
 subst hitems
 have hne:a ≠ s.heap.objs.size:=Nat.ne_of_lt (Zu hL)
 have fin:wpAny (model T.prog T.w) A (call (.builtin "all") [.ref a]) (fun y s' => y = .bool (bs.all id) ∧ ∃ h' c',s' = { s with heap:=h',toks:=c' } ∧ (∀ b o',s.heap.get? b = some o' → h'.get? b = some o')) (PostX T [] X ι s.heap) s:=by
   refine call_all_walk (wpAny_pyIter_list hL.isList ?_)
   refine ⟨s.heap.objs.size,_,_,_,_,_,_,rfl,Walks.list (A:=A.in1) (S.aok.hd hT) s.heap.objs.size a hne _,⟨⟨_,Heap.get?_push_size _ rfl,rfl,rfl⟩,hL.isList.push _⟩,truthsOk bs,fun h' tk k => ⟨?_,h',tk,rfl,fun b o hb => k b o (by simpa using Nat.ne_of_lt (Zu hb)) (Zx _ hb)⟩⟩
   rw [List.size_toArray,Zc,range_all]
 refine Zib (wpAny_size fin) (fun y s' p => ?_) fun zz zz p => p.1
 obtain ⟨⟨rfl,h',c',rfl,k⟩,hz⟩:=p
 exact S.grown hz k q .bool_mk
theorem CallOk.any {l:Nat} {bs:List Bool} (hl:σ[l]? = some (.list (bs.map V.bool))) (q:Q (.bool (bs.any id)) σ) (hT:T.hd = false:=by rfl):CallOk T d X (.bi "any") [.ref l] Q σ:=.b1 rfl fun {A fs ι s x} S r => by
 obtain ⟨a,dx,items,m,rfl,hι,hL,hv,hlen0⟩:=S.rep.lst hl r
 have hitems:items = (bs.map Value.bool).toArray:=by rw [← allB_at hv]
 subst hitems
 have hne:a ≠ s.heap.objs.size:=Nat.ne_of_lt (Zu hL)
 have fin:wpAny (model T.prog T.w) A (call (.builtin "any") [.ref a]) (fun y s' => y = .bool (bs.any id) ∧ ∃ h' c',s' = { s with heap:=h',toks:=c' } ∧ (∀ b o',s.heap.get? b = some o' → h'.get? b = some o')) (PostX T [] X ι s.heap) s:=by
   refine call_any_walk (wpAny_pyIter_list hL.isList ?_)
   refine ⟨s.heap.objs.size,_,_,_,_,_,_,rfl,Walks.list (A:=A.in1) (S.aok.hd hT) s.heap.objs.size a hne _,⟨⟨_,Heap.get?_push_size _ rfl,rfl,rfl⟩,hL.isList.push _⟩,truthsOk bs,fun h' tk k => ⟨?_,h',tk,rfl,fun b o hb => k b o (by simpa using Nat.ne_of_lt (Zu hb)) (Zx _ hb)⟩⟩
   rw [List.size_toArray,Zc,range_any]
 refine Zib (wpAny_size fin) (fun y s' p => ?_) fun zz zz p => p.1
 obtain ⟨⟨rfl,h',c',rfl,k⟩,hz⟩:=p
 exact S.grown hz k q .bool_mk
theorem allS_at {h:Heap} {bs:List Str}:∀ {xs:List Value},VRels T ι h (bs.map V.str) xs → ∃ l:List (Str × Tok),xs = strValues l ∧ l.map (·.1) = bs ∧ StrsAre xs bs:=by
 induction bs with
 | nil => exact fun r => VRels.nil_iff.mp r ▸ ⟨[],rfl,rfl,.nil⟩
 | cons b bs ih => exact fun r => ex2 (VRels.cons_iff.mp r) fun x r' e => e.2.1.str_inv.elim fun t q => (ih e.2.2).elim fun l k => e.1 ▸ q ▸ ⟨(b,t) :: l,congrArg _ k.1,congrArg _ k.2.1,.cons _ _ k.2.2⟩
theorem CallOk.join {sep:Str} {l:Nat} {bs:List Str} (hl:σ[l]? = some (.list (bs.map V.str))) (hw:(bs.map (·.length)).sum + bs.length ≤ 1048576) (hs:sep.length ≤ 16) (q:Q (.str (Txt.join sep bs)) σ):CallOk T d X (.bi "str.join") [.str sep,.ref l] Q σ:=.b2 rfl fun {A fs ι s x y} S r ry => by
 obtain ⟨t,rfl⟩:=r.str_inv
 obtain ⟨a,dx,items,m,rfl,hι,hL,hv,hlen0⟩:=S.rep.lst hl ry
 obtain ⟨ll,h1,h2,zz⟩:=allS_at hv
 have:items = (strValues ll).toArray:=by rw [← h1]
 subst this
 exact SC.join hL.isList h2 (joinOk_of_weight hw hs) fun t' k => S.post q .str_mk _
theorem CallOk.sorted {l:Nat} {bs:List Str} (hl:σ[l]? = some (.list (bs.map V.str))) (h64:bs.length < 64) (q:∀ bs',bs'.Perm bs → sortedS bs' = true → Q (.ref σ.length) (σ ++ [.list (bs'.map .str)])):CallOk T d X (.bi "sorted") [.ref l] Q σ:=.b1 rfl fun {A fs ι s x} S r => by
 obtain ⟨a,dx,items,m,rfl,hι,hL,hv,hlen0⟩:=S.rep.lst hl r
 obtain ⟨ll,h1,h2,h3⟩:=allS_at hv
 have hlen:items.toList.length = bs.length:=by rw [h1,← h2]; simp [strValues]
 have rel:∀ {zs:List Value} {ss:List Str} (ι':Inj) (h:Heap),StrsAre zs ss → VRels T ι' h (ss.map .str) zs:=fun ι' h k => by
   induction k with
   | nil => trivial
   | cons y t z1 ih => simp only [List.map_cons]; exact ⟨.str_mk,ih⟩
 refine sorted_strs (vs:=items.toList) (by simpa using hL.isList) h3 (by (clear hι hl; lia)) fun out ss' a1 a2 a3 => ?_
 obtain ⟨e,he⟩:=sortedAll_at s.heap items.toList out
 have keep:∀ b o,s.heap.get? b = some o → (sortedAll s.heap items.toList out).get? b = some o:=fun zz zz => sortedAll_old
 have hz:s.heap.objs.size ≤ (sortedAll s.heap items.toList out).objs.size:=Zq (Nat.lt_trans (Zs _) (Zu he))
 have e0:Ext T [] ι s.heap ι (sortedAll s.heap items.toList out):=.of_keeps hz keep
 have hle:s.heap.objs.size ≤ s.heap.objs.size + 1:=Nat.le_succ _
 have no:s.heap.objs.size + 1 ∉ own ι:=fun z => absurd (S.rep.own_lt z) (Zo.mpr hle)
 refine ⟨.ref σ.length,_,ι ++ [(s.heap.objs.size + 1,s.heap.objs.size + 1)],q ss' a2 a3,?_,(S.rep.grow hz keep).more (o:=.list (ss'.map .str)) (p:=(s.heap.objs.size + 1,s.heap.objs.size + 1)) ⟨rfl,out.toList,⟨e,by simpa using he⟩,rel _ _ a1⟩ (Za S.rep.size hle) (Za S.rep.size hle) no no,⟨⟨_,rfl,by simp⟩,e0.size,e0.cls,e0.frz,e0.keep,e0.frm⟩,S.gens,S.os⟩
 exact ⟨s.heap.objs.size + 1,s.heap.objs.size + 1,rfl,by rw [← S.rep.len]; simp⟩
end
end
section
noncomputable def PartOk (T:Tp) (d:Nat) (sc:Scope) (ρ:Loc) (X:QX) (e:Option Expr) (Q:Option Int → Hp → Prop) (σ:Hp):Prop:=match e with
 | none => Q none σ
 | some e => EvOk T d sc ρ X e (fun v σ' => ∃ i,v = .int i ∧ Q (some i) σ') σ
section
variable {T:Tp} {A:Around} {fs:List Env} {d:Nat} {env:Env} {F:List Addr} {ι:Inj} {s:Shared} {ρ:Loc} {σ:Hp} {sc:Scope} {X:QX} {Q:QE}
theorem part_ok {e:Option Expr} {Q':Option Int → Hp → Prop} {R:Value → Shared → Prop} {E:Value → Shared → Prop} (hsc:env.scope = sc) (I:Inv T A fs d env F ρ ι σ s) (h:PartOk T d sc ρ X e Q' σ)
   (k:∀ l σ₁ ι₁ s₁,Q' (l.map (·.1)) σ₁ → Inv T A fs d env F ρ ι₁ σ₁ s₁ → Ext T [] ι s.heap ι₁ s₁.heap → R (partValue l) s₁) (kx:∀ x s',PostX T [] X ι s.heap x s' → E x s'):wpAny (model T.prog T.w) A (evalPart e env) R E s:=by
 cases e with
 | none => rw [evalPart_none]; exact Zjb (k none σ ι s h I (.refl ..))
 | some e =>
   rw [evalPart_some]
   refine Zib (h env A fs F ι s hsc I) (fun x s₁ p => ?_) fun x s' p => kx x s' p
   obtain ⟨v,σ₁,ι₁,⟨i,rfl,q⟩,rv,rp,ex,g,o⟩:=p
   obtain ⟨t,rfl⟩:=rv.int_inv
   exact k (some (i,t)) σ₁ ι₁ s₁ q (I.ext ex rp g o) ex
theorem EvOk.sliceStr {value:Expr} {lower upper:Option Expr} {p pos:Pos} (ht:∀ o r,letTemporaryGo value o r = pure ())
   (h:EvOk T d sc ρ X value (fun o σ₁ => PartOk T d sc ρ X lower (fun l σ₂ => PartOk T d sc ρ X upper (fun u σ₃ => ∃ x,o = .str x ∧ x.length ≤ sizeLine ∧ Q (.str (Txt.slice x l u)) σ₃) σ₂) σ₁) σ) :
   EvOk T d sc ρ X (.Subscript value (.Slice lower upper Option.none p) pos) Q σ:=by
 intro env A fs F ι s hsc I
 refine wpAny_Subscript_str_slice (Zib (h env A fs F ι s hsc I) (fun o s₁ p => ?_) fun zz zz p => p) ht
 obtain ⟨v,σ₁,ι₁,q,rv,rp,ex,g,oo⟩:=p
 have I₁:=I.ext ex rp g oo
 refine part_ok hsc I₁ q (fun l σ₂ ι₂ s₂ q₂ I₂ e₂ => ?_) fun zz zz p => p.trans ex
 refine part_ok hsc I₂ q₂ (fun u σ₃ ι₃ s₃ q₃ I₃ e₃ => ?_) fun zz zz p => p.trans (ex.trans e₂)
 obtain ⟨x,rfl,hx,q₃⟩:=q₃
 obtain ⟨t,rfl⟩:=rv.str_inv
 refine ⟨x,t,l,u,rfl,rfl,rfl,post_val_or_str ⟨Za (Txt.slice_le x _ _) hx,fun t' k => ?_⟩⟩
 have ep:=Ext.push T [] ι₃ s₃.heap { cls:=.type "slice",data:=.fields #[partValue l,partValue u,.none] }
 exact ⟨_,σ₃,ι₃,q₃,.str_mk,I₃.rep.push _,ex.trans (e₂.trans (e₃.trans ep)),I₃.gens,I₃.os⟩
end
end
section
noncomputable def biTab:List (Str × V):=[("len",.bi "len"),("isinstance",.bi "isinstance"),("ord",.bi "ord"),("all",.bi "all"),("any",.bi "any"),("min",.bi "min"),("sorted",.bi "sorted"),("reversed",.type "reversed"),
 ("list",.type "list"),("tuple",.type "tuple"),("str",.type "str"),("int",.type "int"),("range",.type "range"),("bool",.type "bool"),("ValueError",.type "ValueError")]
noncomputable def gvV (x:Str):Value → Option V
 | .int i z1 => some (.int i)
 | .str s z1 => some (.str s)
 | .ref z1 => some (.glob x)
 | z1 => none
noncomputable def gvO (x:Str):Option (Option Value) → Option V
 | some (some y) => gvV x y
 | some none => biTab.lookup x
 | none => none
noncomputable def gvOf (K:PySem.W.Frag) (x:Str):Option V:=gvO x (PySem.W.nsIn K mainGlobals x)
theorem biTab_boot:(biTab.all fun p => match p.2 with
 | .bi id => bootBuiltins p.1 == some (.builtin id)
 | .type n => bootBuiltins p.1 == some (.type n)
 | z1 => false) = true:=by decide +kernel
theorem biTab_name:(biTab.all fun p => !(p.1 == ("__name__" : Str))) = true:=by decide +kernel
noncomputable def tpOf (prog:Program) (w:World) (s:Shared) (K:PySem.W.Frag):Tp:=⟨prog,w,s.heap,s.os,K,gvOf K,false⟩
theorem topOk_of {prog p:Program} {w:World} {s:Shared} {K:PySem.W.Frag} {loose:List Str} {mg mb:Str → Option Value} (TR:PySem.W.TopRead p loose mg mb s.heap) (X:K.In s.heap):TopOk (tpOf prog w s K) where
 X0:=X
 lim:=TR.nolimit
 own:=fun x C bmB newId e q => ⟨mg,PySem.W.own_of_in X TR e q⟩
 gl:=fun x v e => by
   have e':gvOf K x = some v:=e
   unfold gvOf at e'
   rcases hn:PySem.W.nsIn K mainGlobals x with zz | zz | y <;> rw [hn] at e'
   · cases e'
   rotate_left
   · have hb:=PySem.W.mg_of X TR.g hn
     refine ⟨_,mg,mb,TR.g,TR.b,.inl hb,?_⟩
     cases y <;> first | exact (no_some e').elim | skip
     · cases e'; exact .int_mk
     · cases e'; exact .str_mk
     · cases e'
       show Tp.g _ _ = _; unfold Tp.g
       show (PySem.W.nsIn K mainGlobals x).join = _
       rw [hn]; rfl
   · have hm:=mem_of_lookup e'
     have h1:=List.all_eq_true.mp biTab_boot _ hm
     have h2:=List.all_eq_true.mp biTab_name _ hm
     have hx:x ≠ "__name__":=by simpa using h2
     cases v <;> first | (cases h1; done) | skip
     · refine ⟨_,mg,mb,TR.g,TR.b,.inr ⟨PySem.W.mg_none_of X TR.g hn,(TR.builtins x hx).trans (beq_iff_eq.mp h1)⟩,?_⟩
       rfl
     · refine ⟨_,mg,mb,TR.g,TR.b,.inr ⟨PySem.W.mg_none_of X TR.g hn,(TR.builtins x hx).trans (beq_iff_eq.mp h1)⟩,?_⟩
       rfl
theorem start {prog p:Program} {w:World} {s:Shared} {K:PySem.W.Frag} {loose:List Str} {mg mb:Str → Option Value} {fa a la:Addr} {xs:List Int} {l:List (Int × Tok)} {o:Obj} {items:Array Value} {n:Nat} {name:Str}
   (TR:PySem.W.TopRead p loose mg mb s.heap) (X:K.In s.heap) (hg:s.gens = #[]) (hb:∃ b o,K.lookup b = some o ∧ 10 ≤ b) (hmg:mg name = some (.ref fa)) (hK:PySem.W.nsIn K mainGlobals name = some (some (.ref a)))
   (ho:s.heap.get? la = some o) (hc:o.cls = .type "list") (hd:o.data = .seq items n) (hl:items.toList = l.map (fun p => Value.int p.1 p.2)) (hx:l.map (·.1) = xs)
   (h:CallOk (tpOf prog w s K) 690 (fun zz zz => False) (.glob name) [.scr xs] (fun v zz => v = .bool true) []) :
   wpAny (model prog w) callerA (call (.ref fa) [.ref la]) (fun v s' => v = .bool true ∧ (∀ b o,s.heap.get? b = some o → s'.heap.get? b = some o) ∧ s'.os = s.os ∧ s'.gens = #[]) (fun zz zz => False) s:=by
 have hfa:=PySem.W.mg_of X TR.g hK
 rw [hmg] at hfa; cases hfa
 have hbig:10 ≤ s.heap.objs.size:=by
   obtain ⟨b,o,e,h10⟩:=hb
   exact Zq (Zk h10 (Zu (X _ _ e)))
 have S:St (tpOf prog w s K) callerA [] 690 [] [] s:=by
   have R:Rep (tpOf prog w s K) [] [] s.heap:={ len:=rfl,big:=hbig,size:=Zl _,base:=fun zz zz e => e,objs:=fun l o p e => by simp at e,fresh:=fun p hp => (by cases hp),apart:=fun i j p q e => by simp at e }
   exact ⟨R,⟨rfl,fun e he => (by cases he),by decide,by decide,fun zz => rfl,.none rfl⟩,hg,rfl⟩
 have rf:VRel (tpOf prog w s K) [] s.heap (.glob name) (.ref fa):=by
   show Tp.g _ _ = _; unfold Tp.g
   show (PySem.W.nsIn K mainGlobals name).join = _
   rw [hK]; rfl
 have rx:VRels (tpOf prog w s K) [] s.heap [.scr xs] [.ref la]:=by
   refine ⟨?_,trivial⟩
   exact ⟨la,o,items,n,rfl,ho,hc,hd,l,hl,hx⟩
 refine Zib (h callerA [] [] s (.ref fa) [.ref la] S rf rx) (fun v s' p => ?_) fun e s' p => ?_
 · obtain ⟨v',σ',ι',rfl,rv,rp,ex,g,oo⟩:=p
   cases rv.bool_inv
   exact ⟨rfl,rp.base,oo,g⟩
 · obtain ⟨zz,zz,zz,zz,zz,f,zz⟩:=p
   exact f.elim
theorem finish {M:Model} {A:Around} {t:Sem Value} {c:PySem.W.ClaimW} {cl:Str → Option Addr} {mean:ExcName → Option Value} {args:List PySem.W.WData} {s:Shared} (hn:∀ cls,c.raises args cls = false) (hp:c.post args (.bool true) args = true)
   (h:wpAny M A t (fun v s' => v = .bool true ∧ (∀ b o,s.heap.get? b = some o → s'.heap.get? b = some o) ∧ s'.os = s.os ∧ s'.gens = #[]) (fun zz zz => False) s) :
   wpAny M A t (fun v s' => PySem.W.GoodWG c cl mean args s (.ok (.ret v)) s') (fun e s' => PySem.W.GoodWG c cl mean args s (.error e) s') s:=by
 refine Zib h (fun v s' p => ?_) fun e s' p => p.elim
 obtain ⟨rfl,k,o,g⟩:=p
 exact PySem.W.GoodW.toG ⟨.inl ⟨_,.bool true,[],rfl,hn,.bool true,hp,fun zz => ⟨List.nodup_nil,fun a ha => by cases ha⟩⟩,k,o,g⟩
theorem ints_pairs {vs:List Value} {xs:List Int} (h:IntsAre vs xs):∃ l:List (Int × Tok),vs = l.map (fun p => Value.int p.1 p.2) ∧ l.map (·.1) = xs:=by
 induction h with
 | nil => exact ⟨[],rfl,rfl⟩
 | cons n t z1 ih => obtain ⟨l,rfl,rfl⟩:=ih; exact ⟨(n,t) :: l,rfl,rfl⟩
end
section
section
variable {T:Tp} {d:Nat} {sc:Scope} {ρ:Loc} {X:QX} {Q:QE} {σ:Hp} {x y:Int} {a b:V} {s t:Str}
end
end
section
section
variable {T:Tp} {d:Nat} {X:QX} {Q:QE} {σ:Hp}
theorem m_join:MethFacts "str" "join" "str.join":=⟨F.plainAttrs_str,F.slot_str_join,F.type_str_join⟩
theorem m_append:MethFacts "list" "append" "list.append":=⟨F.plainAttrs_list,F.slot_list_append,F.type_list_append⟩
theorem m_pop:MethFacts "list" "pop" "list.pop":=⟨F.plainAttrs_list,F.slot_list_pop,F.type_list_pop⟩
theorem m_extend:MethFacts "list" "extend" "list.extend":=⟨F.plainAttrs_list,F.slot_list_extend,F.type_list_extend⟩
theorem m_clear:MethFacts "list" "clear" "list.clear":=⟨F.plainAttrs_list,F.slot_list_clear,F.type_list_clear⟩
end
section
variable {T:Tp} {d:Nat} {sc:Scope} {ρ:Loc} {X:XS} {Q:QS} {σ:Hp}
end
end
section
section
variable {T:Tp} {d:Nat} {sc:Scope} {ρ:Loc} {X:QX} {Q:QE} {σ:Hp}
theorem EvOk.nm {x:Str} {pos:Pos} {v:V} (hv:ρ x = some v) (hk:isVar sc x = true) (ho:scOk sc = true) (h:Q v σ):EvOk T d sc ρ X (.Name x pos) Q σ:=EvOk.var h hv hk ho
theorem EvOk.ix {value slice:Expr} {pos:Pos} (ns:notSlice slice = true) (h:EvOk T d sc ρ X value (fun o σ₁ => EvOk T d sc ρ X slice (fun i σ₂ => itemVC o i Q σ₂) σ₁) σ):EvOk T d sc ρ X (.Subscript value slice pos) Q σ:=EvOk.item h ns
theorem i_tup {vs:List V} {k:Int} {j:Nat} {v:V} (e1:seqIndex? k vs.length = some j) (e2:vs[j]? = some v) (e3:decide (-(2 ^ 63) ≤ k ∧ k < 2 ^ 63) = true) (q:Q v σ):itemVC (.tup vs) (.int k) Q σ:=⟨v,.tup _ _ j v e1 e2 (Zgb e3:-(2 ^ 63) ≤ k ∧ k < 2 ^ 63),q⟩
theorem i_list {l:Nat} {vs:List V} {k:Int} {j:Nat} {v:V} (e0:σ[l]? = some (.list vs)) (e1:seqIndex? k vs.length = some j) (e2:vs[j]? = some v) (e3:sm63 k) (q:Q v σ):itemVC (.ref l) (.int k) Q σ:=⟨v,.list _ vs _ j v e0 e1 e2 e3,q⟩
end
section
variable {T:Tp} {d:Nat} {sc:Scope} {ρ:Loc} {X:XS} {Q:QS} {σ:Hp}
end
end
section
end
section
section
variable {T:Tp} {d:Nat} {sc:Scope} {ρ:Loc} {X:XS} {Q:QS} {σ:Hp}
end
end
section
open PySem PySem.Calls PyProof.Rows PySem.SeqAt PySem.W PySem.Spec Builtin Builtin.ObjectAttr Builtin.Getset_descriptor
section
variable {prog:Program} {w:World} {A:Around} {E:Value → Shared → Prop} {h:Heap} {g:Array GenState} {d:Drawn} {t:Nat} {os:OsState} {K:Frag} {a C:Addr} {o:Obj}
end
section
variable {T:Tp} {d:Nat} {X:QX} {Q:QE} {σ:Hp}
end
end
section
open PySem PySem.Calls PyProof.Rows PySem.SeqAt PySem.W
section
variable {T:Tp} {b:Bool} {ι ι':Inj} {h h':Heap}
end
section
variable {T:Tp} {A:Around} {fs:List Env} {d:Nat} {env:Env} {F:List Addr} {ι:Inj} {s:Shared} {ρ:Loc} {σ:Hp}
end
end
section
open PySem PySem.Calls PyProof.Rows PySem.SeqAt PySem.W
set_option tactic.hygienic true in
section
variable {T:Tp} {d:Nat} {sc:Scope} {ρ:Loc} {X:XS} {Q:QS} {σ:Hp}
set_option tactic.hygienic true in
end
end
section
noncomputable def Br (b:Bool) (P R:Prop):Prop:=@Bool.rec (fun zz => Prop) R P b
theorem Br.mk {b:Bool} {P R:Prop} (h1:b = true → P) (h2:b = false → R):Br b P R:=by
 cases b
 · exact h2 rfl
 · exact h1 rfl
theorem Br.t {b:Bool} {P R:Prop} (h:b = true) (p:P):Br b P R:=by subst h; exact p
theorem Br.f {b:Bool} {P R:Prop} (h:b = false) (p:R):Br b P R:=by subst h; exact p
inductive Cal (T:Tp) (d:Nat) (X:QX) (f:V) (args:List V) (Q:QE) (σ:Hp):Prop where
 | mk (h:CallOk T d X f args Q σ):Cal T d X f args Q σ
inductive Evx (T:Tp) (d:Nat) (sc:Scope) (ρ:Loc) (X:QX) (e:Expr) (Q:QE) (σ:Hp):Prop where
 | mk (h:EvOk T d sc ρ X e Q σ):Evx T d sc ρ X e Q σ
inductive Tsx (T:Tp) (d:Nat) (sc:Scope) (ρ:Loc) (X:QX) (e:Expr) (B:Bool → Hp → Prop) (σ:Hp):Prop where
 | mk (h:TsOk T d sc ρ X e B σ):Tsx T d sc ρ X e B σ
inductive Stx (T:Tp) (d:Nat) (sc:Scope) (ρ:Loc) (X:XS) (st:Stmt) (Q:QS) (σ:Hp):Prop where
 | mk (h:StOk T d sc ρ X st Q σ):Stx T d sc ρ X st Q σ
inductive Itm (o i:V) (Q:QE) (σ:Hp):Prop where
 | mk (h:itemVC o i Q σ):Itm o i Q σ
inductive Bin (op:Operator) (a b:V) (Q:QE) (σ:Hp):Prop where
 | mk (h:binVC op a b Q σ):Bin op a b Q σ
inductive Cmp (op:CmpOp) (a b:V) (Q:QE) (σ:Hp):Prop where
 | mk (h:cmpVC op a b Q σ):Cmp op a b Q σ
theorem Cal.out {T:Tp} {d:Nat} {X:QX} {f:V} {args:List V} {Q:QE} {σ:Hp} (h:Cal T d X f args Q σ):CallOk T d X f args Q σ:=by cases h; assumption
theorem Evx.out {T:Tp} {d:Nat} {sc:Scope} {ρ:Loc} {X:QX} {e:Expr} {Q:QE} {σ:Hp} (h:Evx T d sc ρ X e Q σ):EvOk T d sc ρ X e Q σ:=by cases h; assumption
theorem Tsx.out {T:Tp} {d:Nat} {sc:Scope} {ρ:Loc} {X:QX} {e:Expr} {B:Bool → Hp → Prop} {σ:Hp} (h:Tsx T d sc ρ X e B σ):TsOk T d sc ρ X e B σ:=by cases h; assumption
theorem Stx.out {T:Tp} {d:Nat} {sc:Scope} {ρ:Loc} {X:XS} {st:Stmt} {Q:QS} {σ:Hp} (h:Stx T d sc ρ X st Q σ):StOk T d sc ρ X st Q σ:=by cases h; assumption
noncomputable def gd (b:Bool) (P:Prop):Prop:=@Bool.rec (fun zz => Prop) False P b
theorem gd.of {b:Bool} {P:Prop} (h:b = true) (p:P):gd b P:=by subst h; exact p
theorem gd.out {b:Bool} {P:Prop} (h:gd b P):b = true ∧ P:=by
 cases b
 · exact h.elim
 · exact ⟨rfl,h⟩
noncomputable def short:List V → Nat → Bool
 | [],z1 => true
 | z1 :: r,n + 1 => short r n
 | z1 :: z2,0 => false
theorem short_le:∀ {vs:List V} {n:Nat},short vs n = true → vs.length ≤ n
 | [],z1,z2 => Zkb _
 | z1 :: z2,z3 + 1,h => Nat.succ_le_succ (short_le h)
noncomputable def tvc (v:V) (σ:Hp) (K:Bool → Prop):Prop:=match truthV v σ with | some b => K b | none => False
theorem tvc.of {v:V} {σ:Hp} {K:Bool → Prop} {b:Bool} (h:truthV v σ = some b) (k:K b):tvc v σ K:=by unfold tvc; rw [h]; exact k
theorem tvc.out {v:V} {σ:Hp} {K:Bool → Prop} (h:tvc v σ K):∃ b,truthV v σ = some b ∧ K b:=by
 unfold tvc at h
 generalize truthV v σ = o at h ⊢
 cases o
 · exact (show False from h).elim
 · exact ⟨_,rfl,h⟩
noncomputable def bvc (v:V) (K:Bool → Prop):Prop:=match v with | .bool b => K b | _ => False
theorem bvc.out {v:V} {K:Bool → Prop} (h:bvc v K):∃ b,v = .bool b ∧ K b:=by
 cases v <;> first | exact h.elim | exact ⟨_,rfl,h⟩
noncomputable def binG (op:Operator) (a b:V) (Q:QE) (σ:Hp):Prop:=match a,b with
 | .int x,.int y => (match op with
   | .Add => Q (.int (x + y)) σ
   | .Sub => Q (.int (x - y)) σ
   | .FloorDiv => gd (y != 0 && decide (y.natAbs < 1073741824)) (Q (.int (x.fdiv y)) σ)
   | .Mod => gd (y != 0) (Q (.int (x.fmod y)) σ)
   | op => Bin op a b Q σ)
 | a,b => Bin op a b Q σ
theorem binG.out {op:Operator} {a b:V} {Q:QE} {σ:Hp} (h:binG op a b Q σ):binVC op a b Q σ:=by
 have key:Bin op a b Q σ → binVC op a b Q σ:=fun h => h.rec id
 cases a <;> first | exact key h | skip
 cases b <;> first | exact key h | skip
 cases op <;> first | exact key h | skip
 · exact ⟨_,_,.add ..,h⟩
 · exact ⟨_,_,.sub ..,h⟩
 · exact ⟨_,_,.mod _ _ (bne_iff_ne.mp (gd.out h).1),(gd.out h).2⟩
 · exact ⟨_,_,.fdiv _ _ (bne_iff_ne.mp (Bool.and_eq_true_iff.mp (gd.out h).1).1) (Zgb (Bool.and_eq_true_iff.mp (gd.out h).1).2),(gd.out h).2⟩
noncomputable def cmpG (op:CmpOp) (a b:V) (Q:QE) (σ:Hp):Prop:=match a,b with
 | .int x,.int y => (match op with
   | .Lt => Q (.bool (decide (x < y))) σ
   | .LtE => Q (.bool (decide (x ≤ y))) σ
   | .Gt => Q (.bool (decide (y < x))) σ
   | .GtE => Q (.bool (decide (y ≤ x))) σ
   | .Eq => Q (.bool (x == y)) σ
   | .NotEq => Q (.bool (x != y)) σ
   | op => Cmp op a b Q σ)
 | .str x,.str y => (match op with
   | .Eq => Q (.bool (x == y)) σ
   | .NotEq => Q (.bool (x != y)) σ
   | op => Cmp op a b Q σ)
 | a,b => Cmp op a b Q σ
theorem cmpG.out {op:CmpOp} {a b:V} {Q:QE} {σ:Hp} (h:cmpG op a b Q σ):cmpVC op a b Q σ:=by
 have key:Cmp op a b Q σ → cmpVC op a b Q σ:=fun h => h.rec id
 cases a <;> first | exact key h | skip
 · cases b <;> first | exact key h | skip
   cases op <;> first | exact key h | exact ⟨_,.eqi ..,h⟩ | exact ⟨_,.nei ..,h⟩ | exact ⟨_,.lt ..,h⟩ | exact ⟨_,.le ..,h⟩ | exact ⟨_,.gt ..,h⟩ | exact ⟨_,.ge ..,h⟩
 · cases b <;> first | exact key h | skip
   cases op <;> first | exact key h | exact ⟨_,.eqs ..,h⟩ | exact ⟨_,.nes ..,h⟩
noncomputable def pick (vs:List V) (k:Int):Option V:=match k with
 | .ofNat n => bif Nat.ble n 1000 then vs[n]? else none
 | .negSucc n => bif Nat.ble n 1000 then (seqIndex? (.negSucc n) vs.length).bind (vs[·]?) else none
set_option tactic.hygienic true in
theorem pick_out {vs:List V} {k:Int} {v:V} (h:pick vs k = some v):∃ j,seqIndex? k vs.length = some j ∧ vs[j]? = some v ∧ decide (-(2 ^ 63) ≤ k ∧ k < 2 ^ 63) = true:=by
 unfold pick at h
 split at h
 · rename_i n
   cases hn:Nat.ble n 1000 <;> rw [hn] at h
   · cases h
   · have hl:=(Zb.mp h).1
     have:=Nat.le_of_ble_eq_true hn
     refine ⟨n,?_,h,Zmb ?_⟩
     · unfold seqIndex?
       simp only [show ¬ ((Int.ofNat n:Int) < 0) by simp,if_false]
       rw [if_pos (by simp only [Zob,decide_eq_true_eq]; clear h; simp only [Int.ofNat_eq_natCast]; lia)]
       simp
     · clear h; simp only [Int.ofNat_eq_natCast]; lia
 · rename_i n
   cases hn:Nat.ble n 1000 <;> rw [hn] at h
   · cases h
   · obtain ⟨j,h1,h2⟩:=Option.bind_eq_some_iff.mp h
     have:=Nat.le_of_ble_eq_true hn
     exact ⟨j,h1,h2,Zmb (by clear h h1 h2; lia)⟩
noncomputable def opP {α:Type} (o:Option α) (P:α → Prop):Prop:=match o with
 | some v => P v
 | none => False
theorem opP_out {α:Type} {o:Option α} {P:α → Prop} (h:opP o P):∃ v,o = some v ∧ P v:=by
 cases o
 · exact (show False from h).elim
 · exact ⟨_,rfl,h⟩
noncomputable def itemG (o i:V) (Q:QE) (σ:Hp):Prop:=match o,i with
 | .tup vs,.int k => opP (pick vs k) fun v => Q v σ
 | o,i => Itm o i Q σ
set_option tactic.hygienic true in
theorem itemG.out {o i:V} {Q:QE} {σ:Hp} (h:itemG o i Q σ):itemVC o i Q σ:=by
 have key:Itm o i Q σ → itemVC o i Q σ:=fun h => h.rec id
 cases o <;> first | exact key h | skip
 cases i <;> first | exact key h | skip
 rename_i vs k
 obtain ⟨v,hv,h⟩:=opP_out h
 obtain ⟨j,h1,h2,h3⟩:=pick_out hv
 exact i_tup h1 h2 h3 h
theorem itemG.at {vs:List V} {k:Int} {v:V} {Q:QE} {σ:Hp} (h:pick vs k = some v) (q:Q v σ):itemG (.tup vs) (.int k) Q σ:=by
 show opP _ _; rw [h]; exact q
theorem cmpVC_mono {op:CmpOp} {a b:V} {Q Q':QE} {σ:Hp} (h:cmpVC op a b Q σ) (k:∀ v σ,Q v σ → Q' v σ):cmpVC op a b Q' σ:=h.rec fun r c q => ⟨r,c,k _ _ q⟩
inductive MethOk (T:Tp) (ov:V) (name:Str) (σ:Hp) (K:V → Prop):Prop where
 | mk (f:V) (h:Resolves T σ name ov f) (k:K f):MethOk T ov name σ K
noncomputable def intV (v:V) (K:Int → Prop):Prop:=match v with | .int i => K i | _ => False
theorem intV.out {v:V} {K:Int → Prop} (h:intV v K):∃ i,v = .int i ∧ K i:=by
 cases v <;> first | exact h.elim | exact ⟨_,rfl,h⟩
noncomputable def nmG (o:Option V) (Q:QE) (σ:Hp):Prop:=@Option.rec V (fun zz => Prop) False (fun v => Q v σ) o
theorem nmG.of {o:Option V} {v:V} {Q:QE} {σ:Hp} (h:o = some v) (q:Q v σ):nmG o Q σ:=by subst h; exact q
theorem nmG.out {o:Option V} {Q:QE} {σ:Hp} (h:nmG o Q σ):∃ v,o = some v ∧ Q v σ:=by
 cases o with
 | none => exact h.elim
 | some v => exact ⟨v,rfl,h⟩
set_option genCtorIdx false in
inductive Tg where
 | nm (x:Str) (p:Pos)
 | at (o:Expr) (a:Str) (p:Pos)
 | ix (o i:Expr) (p:Pos)
 | tp (es:List Expr) (k:Nat) (p:Pos)
 | cl (f:Expr) (args:List Expr) (kws:List Keyword) (p:Pos)
 | lc (elt:Expr) (gens:List Comprehension) (scope:Scope) (p:Pos)
 | no
noncomputable def tg (e:Expr):Tg:=e.casesOn (fun _ _ _ => .no) (fun _ _ _ => .no) (fun _ _ _ _ => .no) (fun _ _ _ => .no) (fun _ _ _ _ => .no) (fun _ _ _ _ => .no) (fun _ _ _ => .no) (fun _ _ _ => .no) .lc (fun _ _ _ _ => .no) (fun _ _ _ _ _ => .no) (fun _ _ _ _ => .no) (fun _ _ => .no) (fun _ _ => .no) (fun _ _ => .no) (fun _ _ _ _ => .no) .cl (fun _ _ _ _ => .no) (fun _ _ => .no) (fun _ _ _ => .no) .at .ix (fun _ _ => .no) .nm (fun _ _ => .no) .tp (fun _ _ _ _ => .no)
noncomputable def Tg.back:Tg → Expr
 | .nm x p => .Name x p
 | .at o a p => .Attribute o a p
 | .ix o i p => .Subscript o i p
 | .tp es k p => .Tuple es k p
 | .cl f args kws p => .Call f args kws p
 | .lc elt gens scope p => .ListComp elt gens scope p
 | .no => .Starred (.Name "" default) default
noncomputable def Tg.ok:Tg → Bool
 | .no => false
 | .nm z1 z2 => true
 | .at z1 z2 z3 => true
 | .ix z1 z2 z3 => true
 | .tp z1 z2 z3 => true
 | .cl z1 z2 z3 z4 => true
 | .lc z1 z2 z3 z4 => true
theorem tg_back (e:Expr) (h:(tg e).ok = true):e = (tg e).back:=by
 cases e <;> first | rfl | exact (Zv h).elim
theorem tg_out {e:Expr} {t:Tg} (h:tg e = t) (hk:t.ok = true):e = t.back:=(tg_back e (h ▸ hk)).trans (congrArg Tg.back h)
set_option genInjectivity false
set_option genCtorIdx false in
inductive Wh where
 | tup
 | list
 | callG (x:Str)
 | callM (f ov:V)
set_option genCtorIdx false in
inductive Ko where
 | binR (op:Operator) (e:Expr)
 | binA (op:Operator) (a:V)
 | cmpR (op:CmpOp) (e:Expr)
 | cmpA (op:CmpOp) (a:V)
 | chnR (op op2:CmpOp) (e e2:Expr)
 | chnA (op op2:CmpOp) (a:V) (e2:Expr)
 | chnB (op2:CmpOp) (b:V) (e2:Expr)
 | arg (acc:List V) (es:List Expr) (w:Wh)
 | ixR (i:Expr)
 | ixA (o:V)
 | attr (a:Str)
 | not
 | neg
 | bo (op:BoolOp) (es:List Expr)
 | meth (name:Str) (args:List Expr)
 | comp (scope:Scope) (x:Str) (ifs:List Expr) (elt:Expr)
 | tst
 | tsb
 | rev
 | asgN (x:Str) (rest:List (List Stmt))
 | asgA (o:Expr) (a:Str) (rest:List (List Stmt))
 | asgB (a:Str) (v:V) (rest:List (List Stmt))
 | asgS (o i:Expr) (rest:List (List Stmt))
 | asgI (i:Expr) (v:V) (rest:List (List Stmt))
 | asgV (v ov:V) (rest:List (List Stmt))
 | expr (rest:List (List Stmt))
 | for1 (x:Str) (body:List Stmt) (rest:List (List Stmt))
 | for2 (a b:Str) (body:List Stmt) (rest:List (List Stmt))
 | bnot
 | bal (op:BoolOp) (es:List Expr)
 | ite (b o:List Stmt) (rest:List (List Stmt))
set_option genCtorIdx false in
inductive Cf where
 | ev (e:Expr) (k:List Ko) (ρ:Loc) (σ:Hp)
 | rt (v:V) (k:List Ko) (ρ:Loc) (σ:Hp)
 | ag (es:List Expr) (acc:List V) (w:Wh) (k:List Ko) (ρ:Loc) (σ:Hp)
 | bo (op:BoolOp) (es:List Expr) (k:List Ko) (ρ:Loc) (σ:Hp)
 | ts (e:Expr) (k:List Ko) (ρ:Loc) (σ:Hp)
 | al (op:BoolOp) (es:List Expr) (k:List Ko) (ρ:Loc) (σ:Hp)
 | bl (b:Bool) (k:List Ko) (ρ:Loc) (σ:Hp)
 | st (sss:List (List Stmt)) (ρ:Loc) (σ:Hp)
noncomputable def high (a b:V) (Q:QE) (σ:Hp):Prop:=binG .Add a b Q σ ∧ cmpG .Eq a b Q σ ∧ itemG a b Q σ ∧ tvc a σ (fun zz => True) ∧ nmG none Q σ ∧ gd true True
section
variable (r:Cf → Prop)
noncomputable def rtQ (k:List Ko) (ρ:Loc):QE:=fun v σ => let _h:=high; r (.rt v k ρ σ)
noncomputable def blQ (k:List Ko) (ρ:Loc):Bool → Hp → Prop:=fun b σ => let _h:=high; r (.bl b k ρ σ)
noncomputable def blK (k:List Ko) (ρ:Loc) (σ:Hp) (b:Bool):Prop:=let _h:=high; r (.bl b k ρ σ)
noncomputable def notK (k:List Ko) (ρ:Loc) (σ:Hp) (b:Bool):Prop:=r (.rt (.bool (!b)) k ρ σ)
noncomputable def negK (k:List Ko) (ρ:Loc) (σ:Hp) (i:Int):Prop:=r (.rt (.int (-i)) k ρ σ)
noncomputable def boK (op:BoolOp) (es:List Expr) (v:V) (k:List Ko) (ρ:Loc) (σ:Hp) (b:Bool):Prop:=match op with
 | .And => Br b (r (.bo .And es k ρ σ)) (r (.rt v k ρ σ))
 | .Or => Br b (r (.rt v k ρ σ)) (r (.bo .Or es k ρ σ))
noncomputable def chK (op2:CmpOp) (b:V) (e:Expr) (k:List Ko) (ρ:Loc) (σ:Hp) (c:Bool):Prop:=Br c (r (.ev e (.cmpA op2 b :: k) ρ σ)) (r (.rt (.bool false) k ρ σ))
noncomputable def mtK (args:List Expr) (ov:V) (k:List Ko) (ρ:Loc) (σ:Hp) (f:V):Prop:=r (.ag args [] (.callM f ov) k ρ σ)
noncomputable def revK:List V → List V → (List V → Prop) → Prop
 | [],out,P => P out
 | v :: acc,out,P => revK acc (v :: out) P
noncomputable def aftQ (Q:QS) (rest:List (List Stmt)):QS:=fun fl ρ σ => match fl with
 | .next => r (.st rest ρ σ)
 | fl => Q fl ρ σ
end
section
variable (T:Tp) (sc:Scope)
noncomputable def isGlob (x:Str):Bool:=match sc.names.lookup x with | some .globalImplicit => true | _ => false
noncomputable def keepV (v:V):Bool:=v.casesOn (callable v) (fun _ => callable v) (fun _ => callable v) (fun _ => callable v) (fun _ => callable v) (fun _ => callable v) (fun x => (T.g x).any fun v => PySem.W.keepIn T.K v) (fun _ _ => callable v) (fun _ => callable v) (fun _ => callable v) (fun _ => callable v) (fun _ => callable v) (fun _ => callable v) (fun _ _ => callable v)
noncomputable def keepO:Option V → Bool
 | some v => keepV T v
 | none => false
end
noncomputable def nmO:Tg → Option Str
 | .nm x z1 => some x
 | z1 => none
theorem nmO_out {e:Expr} {x:Str} (h:nmO (tg e) = some x):∃ p,e = .Name x p:=by
 cases ht:tg e <;> rw [ht] at h <;> first | exact (no_some h).elim | exact ⟨_,sm_inj h ▸ tg_out ht rfl⟩
noncomputable def revA:Tg → Option (Str × Expr)
 | .cl f [a] [] z1 => (nmO (tg f)).map fun x => (x,a)
 | z1 => none
noncomputable def revIs (sc:Scope) (x:Str) (a:Expr):Bool:=x == ("reversed" : Str) && (isGlob sc x && noStar [a])
noncomputable def isRevT:Option V → Bool
 | some (.type n) => n == "reversed"
 | z1 => false
theorem isRevT_out {o:Option V} (h:isRevT o = true):o = some (.type "reversed"):=by
 rcases o with zz | v
 · exact (Zv h).elim
 · cases v <;> first | exact (Zv h).elim | exact congrArg (some <| V.type ·) (eq_of_beq h)
inductive RevOk (K:V → Hp → Prop) (v:V) (σ:Hp):Prop where
 | mk (l:Nat) (vs:List V) (h:v = .ref l) (h1:σ[l]? = some (.list vs)) (k:K (.rev l vs.length) σ):RevOk K v σ
noncomputable def isCell (sc:Scope) (x:Str):Bool:=match sc.names.lookup x with | some .cell => true | _ => false
noncomputable def isLocal (sc:Scope) (x:Str):Bool:=match sc.names.lookup x with | some .local => true | _ => false
noncomputable def noRev (sc:Scope) (e:Expr):Bool:=match revA (tg e) with
 | some (x,a) => !revIs sc x a
 | none => true
section
variable (T:Tp) (d:Nat) (sc:Scope) (X:QX) (Q:QS) (r:Cf → Prop)
noncomputable def compOn (scope:Scope) (c:Comprehension) (x:Str):Bool:=compOk scope sc && isStore scope x && noSet c.iter && !T.hd && c.is_async == 0 && noRev sc c.iter
noncomputable def compG (elt:Expr) (gens:List Comprehension) (scope:Scope) (P:Prop) (k:List Ko) (ρ:Loc) (σ:Hp):Prop:=match gens with
 | [c] => (match nmO (tg c.target) with
   | some x => bif compOn T sc scope c x then r (.ev c.iter (.comp scope x c.ifs elt :: k) ρ σ) else P
   | none => P)
 | z1 => P
noncomputable def stE (e:Expr) (k:List Ko) (ρ:Loc) (σ:Hp):Prop:=e.casesOn
 (fun op es z1 => r (.bo op es k ρ σ)) (fun _ _ _ => Evx T d sc ρ X e (rtQ r k ρ) σ)
 (fun l op e2 z1 => r (.ev l (.binR op e2 :: k) ρ σ))
 (fun op x z1 => (match op with
   | .Not => r (.ev x (.not :: k) ρ σ)
   | .USub => r (.ev x (.neg :: k) ρ σ)
   | z1 => Evx T d sc ρ X e (rtQ r k ρ) σ)) (fun _ _ _ _ => Evx T d sc ρ X e (rtQ r k ρ) σ) (fun _ _ _ _ => Evx T d sc ρ X e (rtQ r k ρ) σ)
 (fun ks vs z1 => bif ks.isEmpty && vs.isEmpty then r (.rt (.ref σ.length) k ρ (σ ++ [.sdict []])) else Evx T d sc ρ X e (rtQ r k ρ) σ) (fun _ _ _ => Evx T d sc ρ X e (rtQ r k ρ) σ)
 (fun elt gens scope z1 => compG T sc r elt gens scope (Evx T d sc ρ X e (rtQ r k ρ) σ) k ρ σ) (fun _ _ _ _ => Evx T d sc ρ X e (rtQ r k ρ) σ) (fun _ _ _ _ _ => Evx T d sc ρ X e (rtQ r k ρ) σ) (fun _ _ _ _ => Evx T d sc ρ X e (rtQ r k ρ) σ) (fun _ _ => Evx T d sc ρ X e (rtQ r k ρ) σ) (fun _ _ => Evx T d sc ρ X e (rtQ r k ρ) σ) (fun _ _ => Evx T d sc ρ X e (rtQ r k ρ) σ)
 (fun l ops rs z1 => (match ops,rs with
   | [op],[e2] => bif behindInMarks op e2 then Evx T d sc ρ X e (rtQ r k ρ) σ else r (.ev l (.cmpR op e2 :: k) ρ σ)
   | [op,op2],[m,e2] => bif behindInMarks op2 e2 then Evx T d sc ρ X e (rtQ r k ρ) σ else r (.ev l (.chnR op op2 m e2 :: k) ρ σ)
   | z1,z2 => Evx T d sc ρ X e (rtQ r k ρ) σ))
 (fun f args kws pos => (match kws with | _ :: _ => Evx T d sc ρ X e (rtQ r k ρ) σ | [] => match tg f with
   | .nm x z1 => bif noStar args && isGlob sc x then gd (keepO T (T.gv x)) (r (.ag args [] (.callG x) k ρ σ)) else Evx T d sc ρ X e (rtQ r k ρ) σ
   | .at o name apos => bif plainBase o && noStar args && (apos.endLine == pos.line) && Nat.ble args.length 20 then r (.ev o (.meth name args :: k) ρ σ)
     else Evx T d sc ρ X e (rtQ r k ρ) σ
   | z1 => Evx T d sc ρ X e (rtQ r k ρ) σ)) (fun _ _ _ _ => Evx T d sc ρ X e (rtQ r k ρ) σ) (fun _ _ => Evx T d sc ρ X e (rtQ r k ρ) σ)
 (fun c z1 z2 => (match c with
   | .none => r (.rt .none k ρ σ)
   | .bool b => r (.rt (.bool b) k ρ σ)
   | .int i => r (.rt (.int i) k ρ σ)
   | .str t => r (.rt (.str t) k ρ σ)
   | z1 => Evx T d sc ρ X e (rtQ r k ρ) σ))
 (fun v a z1 => bif plainBase v then r (.ev v (.attr a :: k) ρ σ) else Evx T d sc ρ X e (rtQ r k ρ) σ)
 (fun v i z1 => bif notSlice i then r (.ev v (.ixR i :: k) ρ σ) else Evx T d sc ρ X e (rtQ r k ρ) σ) (fun _ _ => Evx T d sc ρ X e (rtQ r k ρ) σ)
 (fun x z1 => bif isVar sc x then nmG (ρ x) (rtQ r k ρ) σ else gd (isGlob sc x) (nmG (T.gv x) (rtQ r k ρ) σ))
 (fun es z1 => bif noStar es then r (.ag es [] .list k ρ σ) else Evx T d sc ρ X e (rtQ r k ρ) σ)
 (fun es z1 z2 => bif noStar es then r (.ag es [] .tup k ρ σ) else Evx T d sc ρ X e (rtQ r k ρ) σ) (fun _ _ _ _ => Evx T d sc ρ X e (rtQ r k ρ) σ)
noncomputable def finA (w:Wh) (k:List Ko) (ρ:Loc) (σ:Hp) (vs:List V):Prop:=match w with
 | .tup => gd (short vs 100) (r (.rt (.tup vs) k ρ σ))
 | .list => gd (short vs 100) (r (.rt (.ref σ.length) k ρ (σ ++ [.list vs])))
 | .callG x => nmG (T.gv x) (fun v σ => Cal T d X v vs (rtQ r k ρ) σ) σ
 | .callM f ov => Cal T d X f (ov :: vs) (rtQ r k ρ) σ
noncomputable def stR (v:V) (k:List Ko) (ρ:Loc) (σ:Hp):Prop:=match k with
 | [] => Q (.ret v) ρ σ
 | f :: k => match f with
   | .binR op e => r (.ev e (.binA op v :: k) ρ σ)
   | .binA op a => binG op a v (rtQ r k ρ) σ
   | .cmpR op e => r (.ev e (.cmpA op v :: k) ρ σ)
   | .cmpA op a => cmpG op a v (rtQ r k ρ) σ
   | .chnR op op2 e e2 => r (.ev e (.chnA op op2 v e2 :: k) ρ σ)
   | .chnA op op2 a e2 => cmpG op a v (rtQ r (.chnB op2 v e2 :: k) ρ) σ
   | .chnB op2 b e2 => bvc v (chK r op2 b e2 k ρ σ)
   | .arg acc es w => r (.ag es (v :: acc) w k ρ σ)
   | .ixR i => r (.ev i (.ixA v :: k) ρ σ)
   | .ixA o => itemG o v (rtQ r k ρ) σ
   | .attr a => AttrOk T a (rtQ r k ρ) v σ
   | .not => tvc v σ (notK r k ρ σ)
   | .neg => intV v (negK r k ρ σ)
   | .bo op es => tvc v σ (boK r op es v k ρ σ)
   | .meth name args => MethOk T v name σ (mtK r args v k ρ σ)
   | .comp scope x ifs elt => CompOk T d sc ρ X scope x ifs elt (rtQ r k ρ) v σ
   | .tst => tvc v σ (blK r k ρ σ)
   | .tsb => bvc v (blK r k ρ σ)
   | .rev => RevOk (rtQ r k ρ) v σ
   | .asgN x rest => r (.st rest (upd ρ x (some v)) σ)
   | .asgA o a rest => r (.ev o (.asgB a v rest :: k) ρ σ)
   | .asgB a u rest => SetAttrOk T a ρ (aftQ r Q rest) u v σ
   | .asgS o i rest => r (.ev o (.asgI i v rest :: k) ρ σ)
   | .asgI i u rest => r (.ev i (.asgV u v rest :: k) ρ σ)
   | .asgV u ov rest => SetItemOk ρ (aftQ r Q rest) u ov v σ
   | .expr rest => r (.st rest ρ σ)
   | .for1 x body rest => ForOk T d sc X (nx1 x) body (aftQ r Q rest) v ρ σ
   | .for2 a b body rest => ForOk T d sc X (nx2 a b) body (aftQ r Q rest) v ρ σ
   | .bnot => False
   | .bal z1 z2 => False
   | .ite z1 z2 z3 => False
noncomputable def stT (e:Expr) (k:List Ko) (ρ:Loc) (σ:Hp):Prop:=e.casesOn
 (fun op es z1 => r (.al op es k ρ σ)) (fun _ _ _ => r (.ev e (.tst :: k) ρ σ)) (fun _ _ _ _ => r (.ev e (.tst :: k) ρ σ))
 (fun op x z1 => (match op with
   | .Not => r (.ts x (.bnot :: k) ρ σ)
   | z1 => Tsx T d sc ρ X e (blQ r k ρ) σ)) (fun _ _ _ _ => r (.ev e (.tst :: k) ρ σ))
 (fun _ _ _ _ => Tsx T d sc ρ X e (blQ r k ρ) σ) (fun _ _ _ => r (.ev e (.tst :: k) ρ σ)) (fun _ _ _ => r (.ev e (.tst :: k) ρ σ)) (fun _ _ _ _ => r (.ev e (.tst :: k) ρ σ)) (fun _ _ _ _ => r (.ev e (.tst :: k) ρ σ)) (fun _ _ _ _ _ => r (.ev e (.tst :: k) ρ σ)) (fun _ _ _ _ => r (.ev e (.tst :: k) ρ σ)) (fun _ _ => r (.ev e (.tst :: k) ρ σ)) (fun _ _ => r (.ev e (.tst :: k) ρ σ)) (fun _ _ => r (.ev e (.tst :: k) ρ σ))
 (fun l ops rs z1 => (match ops,rs with
   | [op],[e2] => bif behindInMarks op e2 then Tsx T d sc ρ X e (blQ r k ρ) σ else r (.ev l (.cmpR op e2 :: .tsb :: k) ρ σ)
   | [op,op2],[m,e2] => bif behindInMarks op2 e2 then Tsx T d sc ρ X e (blQ r k ρ) σ else r (.ev l (.chnR op op2 m e2 :: .tsb :: k) ρ σ)
   | z1,z2 => Tsx T d sc ρ X e (blQ r k ρ) σ)) (fun _ _ _ _ => r (.ev e (.tst :: k) ρ σ)) (fun _ _ _ _ => r (.ev e (.tst :: k) ρ σ)) (fun _ _ => r (.ev e (.tst :: k) ρ σ)) (fun _ _ _ => r (.ev e (.tst :: k) ρ σ)) (fun _ _ _ => r (.ev e (.tst :: k) ρ σ)) (fun _ _ _ => r (.ev e (.tst :: k) ρ σ)) (fun _ _ => r (.ev e (.tst :: k) ρ σ)) (fun _ _ => r (.ev e (.tst :: k) ρ σ)) (fun _ _ => r (.ev e (.tst :: k) ρ σ)) (fun _ _ _ => r (.ev e (.tst :: k) ρ σ)) (fun _ _ _ _ => r (.ev e (.tst :: k) ρ σ))
noncomputable def stL (b:Bool) (k:List Ko) (ρ:Loc) (σ:Hp):Prop:=match k with
 | [] => Q (.ret (.bool b)) ρ σ
 | f :: k => f.casesOn (fun _ _ => False) (fun _ _ => False) (fun _ _ => False) (fun _ _ => False) (fun _ _ _ _ => False) (fun _ _ _ _ => False) (fun _ _ _ => False) (fun _ _ _ => False) (fun _ => False) (fun _ => False) (fun _ => False) False False (fun _ _ => False) (fun _ _ => False) (fun _ _ _ _ => False) False False False (fun _ _ => False) (fun _ _ _ => False) (fun _ _ _ => False) (fun _ _ _ => False) (fun _ _ _ => False) (fun _ _ _ => False) (fun _ => False) (fun _ _ _ => False) (fun _ _ _ _ => False) (r (.bl (!b) k ρ σ)) (fun op es => match op with
     | .And => Br b (r (.al .And es k ρ σ)) (r (.bl false k ρ σ))
     | .Or => Br b (r (.bl true k ρ σ)) (r (.al .Or es k ρ σ))) (fun t o rest => Br b (r (.st (t :: rest) ρ σ)) (r (.st (o :: rest) ρ σ)))
noncomputable def itG (iter:Expr) (k:List Ko) (ρ:Loc) (σ:Hp):Prop:=match revA (tg iter) with
 | some (x,a) => bif revIs sc x a then gd (isRevT (T.gv x)) (r (.ev a (.rev :: k) ρ σ)) else r (.ev iter k ρ σ)
 | none => r (.ev iter k ρ σ)
noncomputable def forT (a b:Option Str) (iter:Expr) (body:List Stmt) (P:Prop) (rest:List (List Stmt)) (ρ:Loc) (σ:Hp):Prop:=match a,b with
 | some a,some b => bif isStore sc a && isStore sc b && noSet iter && !T.hd then itG T sc r iter [.for2 a b body rest] ρ σ else P
 | z1,z2 => P
noncomputable def forG (t:Tg) (iter:Expr) (body:List Stmt) (P:Prop) (rest:List (List Stmt)) (ρ:Loc) (σ:Hp):Prop:=match t with
 | .nm x z1 => bif isStore sc x && noSet iter && !T.hd then itG T sc r iter [.for1 x body rest] ρ σ else P
 | .tp es z1 z2 => (match es with
   | [a,b] => forT T sc r (nmO (tg a)) (nmO (tg b)) iter body P rest ρ σ
   | z1 => P)
 | z1 => P
noncomputable def asgG (t:Tg) (value:Expr) (P:Prop) (rest:List (List Stmt)) (ρ:Loc) (σ:Hp):Prop:=match t with
 | .nm x z1 => bif isStore sc x then r (.ev value [.asgN x rest] ρ σ) else P
 | .at o a z1 => r (.ev value [.asgA o a rest] ρ σ)
 | .ix o i z1 => r (.ev value [.asgS o i rest] ρ σ)
 | z1 => P
noncomputable def asgC (t u:Tg) (value:Expr) (P:Prop) (rest:List (List Stmt)) (ρ:Loc) (σ:Hp):Prop:=match t with
 | .nm y py => bif isCell sc y then r (.ev value [.asgN y rest] ρ σ) else
   match u with
   | .lc elt gens scope pos => bif isLocal sc y && (py.line == pos.line && !(scope.names.any fun (n,k) => n == y && (k == .local || k == .cell))) then compG T sc r elt gens scope P [.asgN y rest] ρ σ else P
   | z1 => P
 | z1 => P
noncomputable def stM (st:Stmt) (rest:List (List Stmt)) (ρ:Loc) (σ:Hp):Prop:=st.casesOn (fun _ _ _ _ _ _ _ _ _ _ => Stx T d sc ρ X st (aftQ r Q rest) σ) (fun _ _ _ _ _ _ _ _ _ _ => Stx T d sc ρ X st (aftQ r Q rest) σ) (fun _ _ _ _ _ _ _ _ _ _ _ => Stx T d sc ρ X st (aftQ r Q rest) σ) (fun v _ => match v with | some e => r (.ev e [] ρ σ) | none => Q (.ret .none) ρ σ) (fun _ _ => Stx T d sc ρ X st (aftQ r Q rest) σ) (fun ts value _ => match ts with | [t] => bif noComp value then asgG sc r (tg t) value (Stx T d sc ρ X st (aftQ r Q rest) σ) rest ρ σ else asgC T sc r (tg t) (tg value) value (Stx T d sc ρ X st (aftQ r Q rest) σ) rest ρ σ | _ => Stx T d sc ρ X st (aftQ r Q rest) σ) (fun _ _ _ _ _ _ _ => Stx T d sc ρ X st (aftQ r Q rest) σ) (fun _ _ _ _ => Stx T d sc ρ X st (aftQ r Q rest) σ) (fun _ _ _ _ _ => Stx T d sc ρ X st (aftQ r Q rest) σ) (fun t iter body el _ => match el with | [] => forG T sc r (tg t) iter body (Stx T d sc ρ X st (aftQ r Q rest) σ) rest ρ σ | _ :: _ => Stx T d sc ρ X st (aftQ r Q rest) σ) (fun _ _ _ _ _ => Stx T d sc ρ X st (aftQ r Q rest) σ) (fun _ _ _ _ => Stx T d sc ρ X st (aftQ r Q rest) σ) (fun e b o _ => r (.ts e [.ite b o rest] ρ σ)) (fun _ _ _ => Stx T d sc ρ X st (aftQ r Q rest) σ) (fun _ _ _ => Stx T d sc ρ X st (aftQ r Q rest) σ) (fun _ _ _ => Stx T d sc ρ X st (aftQ r Q rest) σ) (fun _ _ _ => Stx T d sc ρ X st (aftQ r Q rest) σ) (fun _ _ _ _ _ => Stx T d sc ρ X st (aftQ r Q rest) σ) (fun _ _ _ _ _ => Stx T d sc ρ X st (aftQ r Q rest) σ) (fun _ _ _ => Stx T d sc ρ X st (aftQ r Q rest) σ) (fun _ _ => Stx T d sc ρ X st (aftQ r Q rest) σ) (fun _ _ _ _ => Stx T d sc ρ X st (aftQ r Q rest) σ) (fun _ _ => Stx T d sc ρ X st (aftQ r Q rest) σ) (fun _ _ => Stx T d sc ρ X st (aftQ r Q rest) σ) (fun e _ => bif noComp e then r (.ev e [.expr rest] ρ σ) else Stx T d sc ρ X st (aftQ r Q rest) σ) (fun _ => r (.st rest ρ σ)) (fun _ => Q .brk ρ σ) (fun _ => Q .cont ρ σ)
noncomputable def stepC (c:Cf):Prop:=match c with
 | .ev e k ρ σ => stE T d sc X r e k ρ σ
 | .rt v k ρ σ => stR T d sc X Q r v k ρ σ
 | .ag es acc w k ρ σ => (match es with
   | e :: es => r (.ev e (.arg acc es w :: k) ρ σ)
   | [] => revK acc [] (finA T d X r w k ρ σ))
 | .bo op es k ρ σ => (match es with
   | [] => False
   | [x] => r (.ev x k ρ σ)
   | x :: y :: t => r (.ev x (.bo op (y :: t) :: k) ρ σ))
 | .ts e k ρ σ => stT T d sc X r e k ρ σ
 | .al op es k ρ σ => (match es with
   | x :: es => r (.ts x (.bal op es :: k) ρ σ)
   | [] => r (.bl (match op with | .And => true | .Or => false) k ρ σ))
 | .bl b k ρ σ => stL Q r b k ρ σ
 | .st sss ρ σ => (match sss with
   | [] => Q .next ρ σ
   | [] :: rest => r (.st rest ρ σ)
   | (st :: b) :: rest => stM T d sc X Q r st (b :: rest) ρ σ)
noncomputable def gw:Nat → Cf → Prop
 | 0,z1 => False
 | n + 1,c => stepC T d sc X Q (gw n) c
end
theorem bif_out {b:Bool} {P R:Prop} (h:bif b then P else R):(b = true ∧ P) ∨ (b = false ∧ R):=by
 cases b
 · exact .inr ⟨rfl,h⟩
 · exact .inl ⟨rfl,h⟩
theorem bif_el {b:Bool} {P Rn C:Prop} (h:bif b then P else Rn) (h1:b = true → P → C) (h2:Rn → C):C:=by
 cases b
 · exact h2 h
 · exact h1 rfl h
theorem gd_el {b:Bool} {P C:Prop} (h:gd b P) (k:b = true → P → C):C:=by
 cases b
 · exact h.elim
 · exact k rfl h
theorem nmG_el {o:Option V} {Q:QE} {σ:Hp} {C:Prop} (h:nmG o Q σ) (k:∀ v,o = some v → Q v σ → C):C:=by
 cases o
 · exact h.elim
 · exact k _ rfl h
theorem and2 {a b:Bool} (h:(a && b) = true):a = true ∧ b = true:=Bool.and_eq_true_iff.mp h
theorem no_t {b:Bool} (h:(!b) = true):b = false:=by cases b <;> first | rfl | cases h
theorem dr {x y m:Nat} (h:x + y < m):x < m:=Zk (Zy ..) h
theorem dl {x y m:Nat} (h:x + y < m):y < m:=Zk (Ztb ..) h
theorem z1 {a m:Nat} (h:1 + a < m + 1):a < m:=by rw [Nat.add_comm] at h; exact Nat.lt_of_succ_lt_succ h
theorem z2 {a b m:Nat} (h:1 + a + b < m + 1):b < m:=dl (z1 (Nat.add_assoc 1 a b ▸ h))
theorem z3 {a b c m:Nat} (h:1 + a + b + c < m + 1):c < m:=z2 (a:=a + b) (Nat.add_assoc 1 a b ▸ h)
theorem zBool {op:BoolOp} {es:List Expr} {p:Pos} {m:Nat} (h:sizeOf (Expr.BoolOp op es p) < m + 1):sizeOf es < m:=by rw [Expr.BoolOp.sizeOf_spec] at h; exact z2 (dr h)
theorem zBin {l e:Expr} {op:Operator} {p:Pos} {m:Nat} (h:sizeOf (Expr.BinOp l op e p) < m + 1):sizeOf l < m ∧ sizeOf e < m:=by rw [Expr.BinOp.sizeOf_spec] at h; exact ⟨z1 (dr (dr (dr h))),z3 (dr h)⟩
theorem zUn {e:Expr} {op:UnaryOp} {p:Pos} {m:Nat} (h:sizeOf (Expr.UnaryOp op e p) < m + 1):sizeOf e < m:=by rw [Expr.UnaryOp.sizeOf_spec] at h; exact z2 (dr h)
theorem zCons {α:Type} [SizeOf α] {e:α} {es:List α} {m:Nat} (h:sizeOf (e :: es) < m):sizeOf e < m ∧ sizeOf es < m:=by rw [List.cons.sizeOf_spec] at h; exact ⟨dl (dr h),dl h⟩
theorem zCmp {l:Expr} {ops:List CmpOp} {es:List Expr} {p:Pos} {m:Nat} (h:sizeOf (Expr.Compare l ops es p) < m + 1):sizeOf l < m ∧ sizeOf es < m:=by rw [Expr.Compare.sizeOf_spec] at h; exact ⟨z1 (dr (dr (dr h))),z3 (dr h)⟩
theorem zCall {f:Expr} {es:List Expr} {ks:List Keyword} {p:Pos} {m:Nat} (h:sizeOf (Expr.Call f es ks p) < m + 1):sizeOf f < m ∧ sizeOf es < m:=by rw [Expr.Call.sizeOf_spec] at h; exact ⟨z1 (dr (dr (dr h))),z2 (dr (dr h))⟩
theorem zAtt {o:Expr} {a:Str} {p:Pos} {m:Nat} (h:sizeOf (Expr.Attribute o a p) < m):sizeOf o < m:=by rw [Expr.Attribute.sizeOf_spec] at h; exact dl (dr (dr h))
theorem zAt1 {o:Expr} {a:Str} {p:Pos} {m:Nat} (h:sizeOf (Expr.Attribute o a p) < m + 1):sizeOf o < m:=by rw [Expr.Attribute.sizeOf_spec] at h; exact z1 (dr (dr h))
theorem zSub {o i:Expr} {p:Pos} {m:Nat} (h:sizeOf (Expr.Subscript o i p) < m + 1):sizeOf o < m ∧ sizeOf i < m:=by rw [Expr.Subscript.sizeOf_spec] at h; exact ⟨z1 (dr (dr h)),z2 (dr h)⟩
theorem zList {es:List Expr} {p:Pos} {m:Nat} (h:sizeOf (Expr.List es p) < m + 1):sizeOf es < m:=by rw [Expr.List.sizeOf_spec] at h; exact z1 (dr h)
theorem zTup {es:List Expr} {k:Nat} {p:Pos} {m:Nat} (h:sizeOf (Expr.Tuple es k p) < m + 1):sizeOf es < m:=by rw [Expr.Tuple.sizeOf_spec] at h; exact z1 (dr (dr h))
theorem zComp {e:Expr} {c:Comprehension} {sc:Scope} {p:Pos} {m:Nat} (h:sizeOf (Expr.ListComp e [c] sc p) < m + 1):sizeOf c.iter < m:=by
 rw [Expr.ListComp.sizeOf_spec] at h
 have h:=(zCons (z2 (dr (dr h)))).1
 cases c; rw [Comprehension.mk.sizeOf_spec] at h; exact dl (dr (dr h))
theorem zSt {st:Stmt} {b:List Stmt} {m:Nat} (h:sizeOf (st :: b) < m + 1):sizeOf st < m ∧ sizeOf b < m:=by rw [List.cons.sizeOf_spec] at h; exact ⟨z1 (dr h),z2 h⟩
theorem zIf {e:Expr} {b o:List Stmt} {p:Pos} {m:Nat} (h:sizeOf (Stmt.If e b o p) < m):sizeOf b < m ∧ sizeOf o < m:=by rw [Stmt.If.sizeOf_spec] at h; exact ⟨dl (dr (dr h)),dl (dr h)⟩
theorem isGlob_out {sc:Scope} {x:Str} (h:isGlob sc x = true):sc.names.lookup x = some .globalImplicit:=by
 unfold isGlob at h
 generalize sc.names.lookup x = o at h ⊢
 rcases o with zz | k
 · exact (Zv h).elim
 · cases k <;> first | exact (Zv h).elim | rfl
theorem isCell_out {sc:Scope} {x:Str} (h:isCell sc x = true):sc.names.lookup x = some .cell:=by
 unfold isCell at h
 generalize sc.names.lookup x = o at h ⊢
 rcases o with zz | k
 · exact (Zv h).elim
 · cases k <;> first | exact (Zv h).elim | rfl
theorem isLocal_out {sc:Scope} {x:Str} (h:isLocal sc x = true):sc.names.lookup x = some .local:=by
 unfold isLocal at h
 generalize sc.names.lookup x = o at h ⊢
 rcases o with zz | k
 · exact (Zv h).elim
 · cases k <;> first | exact (Zv h).elim | rfl
theorem revK_out {P:List V → Prop}:∀ {acc out:List V},revK acc out P → P (acc.reverse ++ out)
 | [],z1,h => h
 | v :: acc,out,h => by rw [List.reverse_cons,Ze]; exact revK_out (acc:=acc) (out:=v :: out) h
section
variable {T:Tp} {d:Nat} {sc:Scope} {X:QX} {Q:QS} {ρ:Loc} {σ:Hp}
theorem PostB.mono {Q Q':Bool → Hp → Prop} {ι:Inj} {h:Heap} {b:Bool} {s':Shared} (p:PostB T Q ι h b s') (k:∀ b σ,Q b σ → Q' b σ):PostB T Q' ι h b s' :=
 by obtain ⟨σ',ι',q,rp,e',g,o⟩:=p; exact ⟨σ',ι',k _ _ q,rp,e',g,o⟩
theorem TsOk.mono {e:Expr} {B B':Bool → Hp → Prop} (h:TsOk T d sc ρ X e B σ) (k:∀ b σ,B b σ → B' b σ):TsOk T d sc ρ X e B' σ :=
 fun env A fs F ι s hsc I => Zib (h env A fs F ι s hsc I) (fun zz zz p => p.mono k) fun zz zz p => p
theorem EvsOk.mono {es:List Expr} {L L':List V → Hp → Prop} (h:EvsOk T d sc ρ X es L σ) (k:∀ vs σ,L vs σ → L' vs σ):EvsOk T d sc ρ X es L' σ :=
 fun env A fs F ι s hsc I => Zib (h env A fs F ι s hsc I) (fun zz zz p => by obtain ⟨vs,σ',ι',q,r,rp,e',g,o⟩:=p; exact ⟨vs,σ',ι',k _ _ q,r,rp,e',g,o⟩) fun zz zz p => p
theorem EvOk.mon {e:Expr} {Q Q':QE} (h:EvOk T d sc ρ X e Q σ) (k:∀ v σ,Q v σ → Q' v σ):EvOk T d sc ρ X e Q' σ:=h.mono k fun zz zz h => h
theorem ForOk.mono {nx:V → Loc → Option Loc} {body:List Stmt} {Q Q':QS} {v:V} (h:ForOk T d sc X nx body Q v ρ σ) (k:∀ fl ρ σ,Q fl ρ σ → Q' fl ρ σ):ForOk T d sc X nx body Q' v ρ σ :=
 h.rec fun items J h0 h1 h2 h3 => ⟨items,J,h0,h1,fun ρ σ j => k _ _ _ (h2 ρ σ j),fun i x ρ σ j e => Zh (h3 i x ρ σ j e) fun ρ' h => ⟨ρ',h.1,h.2.mono (fun fl ρ σ q => by cases fl <;> first | exact q | exact k _ _ _ q) fun zz zz q => q⟩⟩
noncomputable def Rn (T:Tp) (d:Nat) (sc:Scope) (X:QX) (Q:QS) (c:Cf):Prop:=∃ n,gw T d sc X Q n c
theorem Rn.of {n:Nat} {c:Cf} (h:gw T d sc X Q n c):Rn T d sc X Q c:=⟨n,h⟩
theorem Rn.un {c:Cf} {P:Prop} (h:Rn T d sc X Q c) (k:∀ n,stepC T d sc X Q (gw T d sc X Q n) c → P):P:=Zh h fun n h => by
 cases n
 · exact (show False from h).elim
 · exact k _ h
theorem aft_up {n:Nat} {rest:List (List Stmt)} (fl:Fl) (ρ:Loc) (σ:Hp) (h:aftQ (gw T d sc X Q n) Q rest fl ρ σ):aftQ (Rn T d sc X Q) Q rest fl ρ σ:=by
 cases fl <;> first | exact h | exact ⟨_,h⟩
theorem fin_up {n:Nat} {w:Wh} {k:List Ko} {vs:List V} (h:finA T d X (gw T d sc X Q n) w k ρ σ vs):finA T d X (Rn T d sc X Q) w k ρ σ vs:=by
 cases w
 · exact gd.of (gd.out h).1 ⟨_,(gd.out h).2⟩
 · exact gd.of (gd.out h).1 ⟨_,(gd.out h).2⟩
 · exact Zh (nmG.out h) fun v h => nmG.of h.1 ⟨h.2.out.mono (fun zz zz h => ⟨_,h⟩) fun zz zz h => h⟩
 · exact ⟨(Cal.out h).mono (fun zz zz h => ⟨_,h⟩) fun zz zz h => h⟩
theorem evx_up {n:Nat} {e:Expr} {k:List Ko} (h:Evx T d sc ρ X e (rtQ (gw T d sc X Q n) k ρ) σ):EvOk T d sc ρ X e (rtQ (Rn T d sc X Q) k ρ) σ:=h.out.mon fun zz zz h => Rn.of h
theorem tsx_up {n:Nat} {e:Expr} {k:List Ko} (h:Tsx T d sc ρ X e (blQ (gw T d sc X Q n) k ρ) σ):TsOk T d sc ρ X e (blQ (Rn T d sc X Q) k ρ) σ:=h.out.mono fun zz zz h => Rn.of h
theorem stx_up {n:Nat} {st:Stmt} {rest:List (List Stmt)} (h:Stx T d sc ρ X st (aftQ (gw T d sc X Q n) Q rest) σ):StOk T d sc ρ X st (aftQ (Rn T d sc X Q) Q rest) σ:=h.out.mono aft_up fun zz zz h => h
noncomputable abbrev EvAll (T:Tp) (d:Nat) (sc:Scope) (X:QX) (Q:QS) (m:Nat):Prop:=∀ (e:Expr),sizeOf e < m → ∀ k ρ σ,Rn T d sc X Q (.ev e k ρ σ) → EvOk T d sc ρ X e (rtQ (Rn T d sc X Q) k ρ) σ
theorem ag_ok {m:Nat} (ih:EvAll T d sc X Q m):∀ {es:List Expr} {acc:List V} {w:Wh} {k:List Ko} {ρ:Loc} {σ:Hp},sizeOf es < m → Rn T d sc X Q (.ag es acc w k ρ σ) → EvsOk T d sc ρ X es (fun vs σ => finA T d X (Rn T d sc X Q) w k ρ σ (acc.reverse ++ vs)) σ
 | [],z1,z2,z3,z4,z5,z6,h => h.un fun zz h => EvsOk.nil (fin_up (revK_out h))
 | e :: es,acc,w,k,ρ,σ,hm,h => h.un fun n h =>
   EvsOk.cons ((ih e (zCons hm).1 _ _ _ (Rn.of h)).mon fun v σ h => Rn.un h fun n h => (ag_ok ih (zCons hm).2 (Rn.of h)).mono fun vs σ h => by rw [List.reverse_cons,Ze] at h; exact h)
theorem bo_ok {m:Nat} (ih:EvAll T d sc X Q m) {op:BoolOp}:∀ {es:List Expr} {k:List Ko} {ρ:Loc} {σ:Hp},sizeOf es < m → Rn T d sc X Q (.bo op es k ρ σ) → BoolsOk T d sc ρ X op es (rtQ (Rn T d sc X Q) k ρ) σ
 | [],z1,z2,z3,z4,h => h.un fun zz h => (show False from h).elim
 | [x],z1,z2,z3,hm,h => h.un fun zz h => BoolsOk.one (ih x (zCons hm).1 _ _ _ (Rn.of h))
 | x :: y :: t,k,ρ,σ,hm,h => h.un fun n h => by
   have h:=ih x (zCons hm).1 _ _ _ (Rn.of h)
   cases op
   · exact BoolsOk.and (h.mon fun v σ h => Rn.un h fun n h => Zh (tvc.out h) fun b h => ⟨b,h.1,by
       cases b
       · exact Rn.of h.2
       · exact bo_ok ih (zCons hm).2 (Rn.of h.2)⟩)
   · exact BoolsOk.or (h.mon fun v σ h => Rn.un h fun n h => Zh (tvc.out h) fun b h => ⟨b,h.1,by
       cases b
       · exact bo_ok ih (zCons hm).2 (Rn.of h.2)
       · exact Rn.of h.2⟩)
theorem cmpA_ok {op:CmpOp} {a v:V} {k:List Ko} (h:Rn T d sc X Q (.rt v (.cmpA op a :: k) ρ σ)):cmpVC op a v (rtQ (Rn T d sc X Q) k ρ) σ:=h.un fun zz h => cmpVC_mono (cmpG.out h) fun zz zz h => Rn.of h
theorem cmp_go {m:Nat} (ih:EvAll T d sc X Q m) {l e:Expr} {op:CmpOp} {k:List Ko} (hl:sizeOf l < m) (he:sizeOf e < m) (h:Rn T d sc X Q (.ev l (.cmpR op e :: k) ρ σ)):EvOk T d sc ρ X l (fun a σ => EvOk T d sc ρ X e (fun b σ => cmpVC op a b (rtQ (Rn T d sc X Q) k ρ) σ) σ) σ :=
 (ih l hl _ _ _ h).mon fun zz zz h => Rn.un h fun zz h => (ih e he _ _ _ (Rn.of h)).mon fun zz zz h => cmpA_ok h
theorem chn_go {m:Nat} (ih:EvAll T d sc X Q m) {l e e2:Expr} {op op2:CmpOp} {k:List Ko} (hl:sizeOf l < m) (he:sizeOf e < m) (he2:sizeOf e2 < m) (h:Rn T d sc X Q (.ev l (.chnR op op2 e e2 :: k) ρ σ)) :
   EvOk T d sc ρ X l (fun a σ => EvOk T d sc ρ X e (fun b σ => cmpVC op a b (fun v σ => ∃ c,v = .bool c ∧ (if c then EvOk T d sc ρ X e2 (fun w σ => cmpVC op2 b w (rtQ (Rn T d sc X Q) k ρ) σ) σ else rtQ (Rn T d sc X Q) k ρ (.bool false) σ)) σ) σ) σ :=
 (ih l hl _ _ _ h).mon fun zz zz h => Rn.un h fun zz h => (ih e he _ _ _ (Rn.of h)).mon fun b zz h => Rn.un h fun zz h => cmpVC_mono (cmpG.out h) fun v σ h => Rn.un (Rn.of h) fun zz h => Zh (bvc.out h) fun c h => ⟨c,h.1,by
   cases c
   · exact Rn.of h.2
   · exact (ih e2 he2 _ _ _ (Rn.of h.2)).mon fun zz zz h => cmpA_ok h⟩
theorem comp_go {m:Nat} (ih:EvAll T d sc X Q m) {iter elt:Expr} {ifs:List Expr} {scope:Scope} {x:Str} {k:List Ko} (hi:sizeOf iter < m) (h:Rn T d sc X Q (.ev iter (.comp scope x ifs elt :: k) ρ σ)):EvOk T d sc ρ X iter (fun v σ => CompOk T d sc ρ X scope x ifs elt (rtQ (Rn T d sc X Q) k ρ) v σ) σ :=
 (ih iter hi _ _ _ h).mon fun zz zz h => Rn.un h fun zz h => (show CompOk _ _ _ _ _ _ _ _ _ _ _ _ from h).rec fun items J h0 h1 h2 h3 => ⟨items,J,h0,h1,fun acc σ j => Rn.of (h2 acc σ j),h3⟩
theorem compOn_out {scope:Scope} {c:Comprehension} {x:Str} (h:compOn T sc scope c x = true):compOk scope sc = true ∧ isStore scope x = true ∧ noSet c.iter = true ∧ T.hd = false ∧ c.is_async = 0 :=
 have h:=(and2 h).1; ⟨(and2 (and2 (and2 (and2 h).1).1).1).1,(and2 (and2 (and2 (and2 h).1).1).1).2,(and2 (and2 (and2 h).1).1).2,no_t (and2 (and2 h).1).2,eq_of_beq (and2 h).2⟩
theorem comp_el {n:Nat} {elt:Expr} {gens:List Comprehension} {scope:Scope} {P C:Prop} {k:List Ko} (h:compG T sc (gw T d sc X Q n) elt gens scope P k ρ σ) (h1:P → C)
   (h2:∀ x p iter ifs,gens = [⟨.Name x p,iter,ifs,0⟩] → compOk scope sc = true → isStore scope x = true → noSet iter = true → T.hd = false → Rn T d sc X Q (.ev iter (.comp scope x ifs elt :: k) ρ σ) → C):C:=by
 rcases gens with zz | ⟨c,zz | ⟨zz,zz⟩⟩
 · exact h1 h
 · have h:(match nmO (tg c.target) with
     | some x => bif compOn T sc scope c x then gw T d sc X Q n (.ev c.iter (.comp scope x c.ifs elt :: k) ρ σ) else P
     | none => P):=h
   cases hx:nmO (tg c.target) with
   | none => rw [hx] at h; exact h1 h
   | some x =>
     rw [hx] at h
     exact bif_el h (fun hb h => Zh (nmO_out hx) fun p e => h2 x p c.iter c.ifs (by
       have:=(compOn_out hb).2.2.2.2
       cases c; cases this; cases e; rfl) (compOn_out hb).1 (compOn_out hb).2.1 (compOn_out hb).2.2.1 (compOn_out hb).2.2.2.1 (Rn.of h)) h1
 · exact h1 h
set_option tactic.hygienic true in
theorem call_ok {m:Nat} (TO:TopOk T) (ho:scOk sc = true) (ih:EvAll T d sc X Q m) {n:Nat} {x:Str} {np pos:Pos} {args:List Expr} {k:List Ko} (hm:sizeOf args < m) (ns:noStar args = true) (hg:isGlob sc x = true) (h:gd (keepO T (T.gv x)) (gw T d sc X Q n (.ag args [] (.callG x) k ρ σ))):EvOk T d sc ρ X (.Call (.Name x np) args [] pos) (rtQ (Rn T d sc X Q) k ρ) σ :=
 gd_el h fun h0 h => by
   cases hv:T.gv x with
   | none => rw [hv] at h0; exact (Zv h0).elim
   | some v =>
     rw [hv] at h0
     have h4:=(ag_ok ih hm (Rn.of h)).mono (L':=fun vs σ => CallOk T d X v vs (rtQ (Rn T d sc X Q) k ρ) σ) fun vs σ h => nmG_el h fun u h1 h2 => sm_inj (hv.symm.trans h1) ▸ h2.out
     refine EvOk.call TO ns (EvOk.glob TO ?_ hv (isGlob_out hg) ho)
     cases v <;> first | exact ⟨.inl h0,.inl h0,h4⟩ | skip
     rename_i y
     refine ⟨.inr (.inl ⟨y,rfl⟩),.inr fun v hv => ?_,h4⟩
     rcases hv with ⟨y,e,hv⟩ | ⟨c,y,e,zz⟩
     · cases e
       have h0:(T.g y).any (fun v => PySem.W.keepIn T.K v) = true:=h0
       rw [hv] at h0; exact h0
     · cases e
set_option tactic.hygienic true in
theorem ev_ok (TO:TopOk T) (ho:scOk sc = true):∀ m,EvAll T d sc X Q m
 | 0,z1,hm,z2,z3,z4,z5 => absurd hm (Nat.not_lt_zero _)
 | m + 1,e,hm,k,ρ,σ,g => g.un fun n h => by
   clear g
   have ih:=ev_ok TO ho m
   cases e <;> first | exact evx_up h | skip
   · exact EvOk.bools (bo_ok ih (zBool hm) (Rn.of h))
   · exact EvOk.bin ((ih _ (zBin hm).1 _ _ _ (Rn.of h)).mon fun zz zz h => Rn.un h fun zz h => (ih _ (zBin hm).2 _ _ _ (Rn.of h)).mon fun zz zz h => Rn.un h fun zz h => (binG.out h).rec fun v σ r q => ⟨v,σ,r,Rn.of q⟩)
   · rename_i op _ _
     cases op <;> first | exact evx_up h | skip
     · exact EvOk.not ((ih _ (zUn hm) _ _ _ (Rn.of h)).mon fun zz zz h => Rn.un h fun zz h => Zh (tvc.out h) fun b h => ⟨b,h.1,Rn.of h.2⟩)
     · exact EvOk.neg ((ih _ (zUn hm) _ _ _ (Rn.of h)).mon fun zz zz h => Rn.un h fun zz h => Zh (intV.out h) fun b h => ⟨b,h.1,Rn.of h.2⟩)
   · rename_i ks vs _
     cases ks <;> first | exact evx_up h | skip
     cases vs <;> first | exact evx_up h | skip
     exact EvOk.dict (Rn.of h)
   · exact comp_el h evx_up fun x p iter ifs e h1 h2 h3 h4 h5 => by subst e; exact EvOk.comp h1 h2 h3 (comp_go ih (zComp hm) h5) h4
   · rename_i l ops rs _
     have hz:=zCmp hm
     clear hm
     rcases ops with zz | ⟨op,zz | ⟨op2,zz | ⟨zz,zz⟩⟩⟩ <;> rcases rs with zz | ⟨r,zz | ⟨r2,zz | ⟨zz,zz⟩⟩⟩ <;> first | exact evx_up h | skip
     · rcases bif_out h with ⟨zz,h⟩ | ⟨hb,h⟩
       · exact evx_up h
       · exact EvOk.cmp (cmp_go ih hz.1 (zCons hz.2).1 (Rn.of h)) hb
     · rcases bif_out h with ⟨zz,h⟩ | ⟨hb,h⟩
       · exact evx_up h
       · exact EvOk.cmp2 (chn_go ih hz.1 (zCons hz.2).1 (zCons (zCons hz.2).2).1 (Rn.of h)) hb
   · rename_i f args kws pos
     have hz:=zCall hm
     clear hm
     cases kws <;> first | exact evx_up h | skip
     have h:(match tg f with
       | .nm x z1 => bif noStar args && isGlob sc x then gd (keepO T (T.gv x)) (gw T d sc X Q n (.ag args [] (.callG x) k ρ σ)) else Evx T d sc ρ X (.Call f args [] pos) (rtQ (gw T d sc X Q n) k ρ) σ
       | .at o name apos => bif plainBase o && noStar args && (apos.endLine == pos.line) && Nat.ble args.length 20 then gw T d sc X Q n (.ev o (.meth name args :: k) ρ σ)
         else Evx T d sc ρ X (.Call f args [] pos) (rtQ (gw T d sc X Q n) k ρ) σ
       | z1 => Evx T d sc ρ X (.Call f args [] pos) (rtQ (gw T d sc X Q n) k ρ) σ):=h
     cases ht:tg f <;> rw [ht] at h <;> first | exact evx_up h | skip
     · exact bif_el h (fun hb h => by rw [tg_out ht rfl]; exact call_ok TO ho ih hz.2 (and2 hb).1 (and2 hb).2 h) evx_up
     · exact bif_el h (fun hb h => by
         have e:=tg_out ht rfl
         rw [e] at hz ⊢
         exact EvOk.meth TO (and2 (and2 (and2 hb).1).1).1 (and2 (and2 (and2 hb).1).1).2 (and2 (and2 hb).1).2 (Zk (Nat.le_of_ble_eq_true (and2 hb).2) (by decide)) ((ih _ (zAtt hz.1) _ _ _ (Rn.of h)).mon fun zz zz h => Rn.un h fun zz h => (show MethOk _ _ _ _ _ from h).rec fun f h1 h2 => ⟨f,h1,(ag_ok ih hz.2 (Rn.of h2)).mono fun zz zz h => Cal.out h⟩)) evx_up
   · rename_i c _ _
     cases c <;> first | exact evx_up h | skip
     · exact EvOk.none (Rn.of h)
     · exact EvOk.bool (Rn.of h)
     · exact EvOk.int (Rn.of h)
     · exact EvOk.str (Rn.of h)
   · exact bif_el h (fun hb h => EvOk.attr TO hb ((ih _ (zAt1 hm) _ _ _ (Rn.of h)).mon fun zz zz h => Rn.un h fun zz h => (show AttrOk _ _ _ _ _ from h).rec fun l c gs v C h0 h1 h2 h3 h4 h5 h6 => ⟨l,c,gs,v,C,h0,h1,h2,h3,h4,h5,Rn.of h6⟩)) evx_up
   · exact bif_el h (fun hb h => EvOk.ix hb ((ih _ (zSub hm).1 _ _ _ (Rn.of h)).mon fun zz zz h => Rn.un h fun zz h => (ih _ (zSub hm).2 _ _ _ (Rn.of h)).mon fun zz zz h => Rn.un h fun zz h => (itemG.out h).rec fun v r q => ⟨v,r,Rn.of q⟩)) evx_up
   · exact bif_el h (fun hb h => nmG_el h fun v h1 h2 => EvOk.nm h1 hb ho (Rn.of h2)) fun h => gd_el h fun h0 h => nmG_el h fun v h1 h2 => EvOk.glob TO (Rn.of h2) h1 (isGlob_out h0) ho
   · exact bif_el h (fun hb h => EvOk.list ((ag_ok ih (zList hm) (Rn.of h)).mono fun vs σ h => ⟨Za (short_le (gd.out h).1) (by decide),(gd.out h).2⟩) hb) evx_up
   · exact bif_el h (fun hb h => EvOk.tup ((ag_ok ih (zTup hm) (Rn.of h)).mono fun vs σ h => ⟨Za (short_le (gd.out h).1) (by decide),(gd.out h).2⟩) hb) evx_up
theorem ev_all (TO:TopOk T) (ho:scOk sc = true) {e:Expr} {k:List Ko} (h:Rn T d sc X Q (.ev e k ρ σ)):EvOk T d sc ρ X e (rtQ (Rn T d sc X Q) k ρ) σ:=ev_ok TO ho _ e (Zs _) k ρ σ h
noncomputable abbrev TsAll (T:Tp) (d:Nat) (sc:Scope) (X:QX) (Q:QS) (m:Nat):Prop:=∀ (e:Expr),sizeOf e < m → ∀ k ρ σ,Rn T d sc X Q (.ts e k ρ σ) → TsOk T d sc ρ X e (blQ (Rn T d sc X Q) k ρ) σ
theorem al_ok {m:Nat} (ih:TsAll T d sc X Q m) {op:BoolOp}:∀ {es:List Expr} {k:List Ko} {ρ:Loc} {σ:Hp},sizeOf es < m → Rn T d sc X Q (.al op es k ρ σ) → AllOk T d sc ρ X op es (blQ (Rn T d sc X Q) k ρ) σ
 | [],z1,z2,z3,z4,h => h.un fun zz h => by
   cases op
   · exact AllOk.and_nil (Rn.of h)
   · exact AllOk.or_nil (Rn.of h)
 | x :: es,k,ρ,σ,hm,h => h.un fun zz h => by
   have h:=ih x (zCons hm).1 _ _ _ (Rn.of h)
   cases op
   · exact AllOk.and_cons (h.mono fun b σ h => Rn.un h fun zz h => by
       cases b
       · exact Rn.of h
       · exact al_ok ih (zCons hm).2 (Rn.of h))
   · exact AllOk.or_cons (h.mono fun b σ h => Rn.un h fun zz h => by
       cases b
       · exact al_ok ih (zCons hm).2 (Rn.of h)
       · exact Rn.of h)
theorem bvc_up {n:Nat} {v:V} {k:List Ko} (h:bvc v (blK (gw T d sc X Q n) k ρ σ)):∃ c,v = .bool c ∧ blQ (Rn T d sc X Q) k ρ c σ:=Zh (bvc.out h) fun c h => ⟨c,h.1,Rn.of h.2⟩
theorem ts_val {n:Nat} {e:Expr} {k:List Ko} (TO:TopOk T) (ho:scOk sc = true) (h:gw T d sc X Q n (.ev e (.tst :: k) ρ σ)) (hp:plainTest e = true):TsOk T d sc ρ X e (blQ (Rn T d sc X Q) k ρ) σ:=TsOk.val ((ev_all TO ho (Rn.of h)).mon fun zz zz h => Rn.un h fun zz h => Zh (tvc.out h) fun b h => ⟨b,h.1,Rn.of h.2⟩) hp
set_option tactic.hygienic true in
theorem ts_ok (TO:TopOk T) (ho:scOk sc = true):∀ m,TsAll T d sc X Q m
 | 0,z1,hm,z2,z3,z4,z5 => absurd hm (Nat.not_lt_zero _)
 | m + 1,e,hm,k,ρ,σ,g => g.un fun n h => by
   clear g
   have ih:=ts_ok TO ho m
   cases e <;> first | exact ts_val TO ho h rfl | exact tsx_up h | skip
   · exact TsOk.bool (al_ok ih (zBool hm) (Rn.of h))
   · rename_i op _ _
     cases op <;> first | exact tsx_up h | skip
     exact TsOk.not ((ih _ (zUn hm) _ _ _ (Rn.of h)).mono fun b σ h => Rn.un h fun zz h => Rn.of h)
   · rename_i l ops rs _
     have hz:=zCmp hm
     clear hm
     rcases ops with zz | ⟨op,zz | ⟨op2,zz | ⟨zz,zz⟩⟩⟩ <;> rcases rs with zz | ⟨r,zz | ⟨r2,zz | ⟨zz,zz⟩⟩⟩ <;> first | exact tsx_up h | skip
     · rcases bif_out h with ⟨zz,h⟩ | ⟨hb,h⟩
       · exact tsx_up h
       · exact TsOk.cmp ((cmp_go (ev_ok TO ho m) hz.1 (zCons hz.2).1 (Rn.of h)).mon fun zz zz h => h.mon fun zz zz h => cmpVC_mono h fun zz zz h => Rn.un h fun zz h => bvc_up h) hb
     · rcases bif_out h with ⟨zz,h⟩ | ⟨hb,h⟩
       · exact tsx_up h
       · exact TsOk.cmp2 ((chn_go (ev_ok TO ho m) hz.1 (zCons hz.2).1 (zCons (zCons hz.2).2).1 (Rn.of h)).mon fun zz zz h => h.mon fun zz zz h => cmpVC_mono h fun zz zz h => Zh h fun c h => ⟨c,h.1,by
           cases c
           · exact Rn.un h.2 fun zz h => Zh (bvc_up (v:=.bool false) h) fun c h => by cases h.1; exact h.2
           · exact (show EvOk _ _ _ _ _ _ _ _ from h.2).mon fun zz zz h => cmpVC_mono h fun zz zz h => Rn.un h fun zz h => bvc_up h⟩) hb
theorem ts_all (TO:TopOk T) (ho:scOk sc = true) {e:Expr} {k:List Ko} (h:Rn T d sc X Q (.ts e k ρ σ)):TsOk T d sc ρ X e (blQ (Rn T d sc X Q) k ρ) σ:=ts_ok TO ho _ e (Zs _) k ρ σ h
theorem rev_ok {n:Nat} {x:Str} {np pos:Pos} {a:Expr} {k:List Ko} (TO:TopOk T) (ho:scOk sc = true) (hb:revIs sc x a = true) (h:gd (isRevT (T.gv x)) (gw T d sc X Q n (.ev a (.rev :: k) ρ σ))):ItOk T d sc ρ X (.Call (.Name x np) [a] [] pos) (rtQ (Rn T d sc X Q) k ρ) σ :=
 gd_el h fun h0 h => ItOk.reversed TO (EvOk.glob TO ⟨rfl,rfl⟩ (isRevT_out h0) (isGlob_out (and2 (and2 hb).2).1) ho) (and2 (and2 hb).2).2 ((ev_all TO ho (Rn.of h)).mon fun zz zz h => Rn.un h fun zz h => (show RevOk _ _ _ from h).rec fun l vs a b c => ⟨l,vs,a,b,Rn.of c⟩)
set_option tactic.hygienic true in
theorem revA_out {e:Expr} {x:Str} {a:Expr} (h:revA (tg e) = some (x,a)):∃ np pos,e = .Call (.Name x np) [a] [] pos:=by
 cases ht:tg e <;> rw [ht] at h <;> first | exact (no_some h).elim | skip
 rename_i f args kws p
 rcases args with zz | ⟨b,zz | ⟨zz,zz⟩⟩ <;> first | exact (no_some h).elim | skip
 cases kws <;> first | exact (no_some h).elim | skip
 obtain ⟨y,h1,h2⟩:=Zpb.mp h
 cases h2
 obtain ⟨np,h3⟩:=nmO_out h1
 exact ⟨np,p,h3 ▸ tg_out ht rfl⟩
theorem itG_ok {n:Nat} {iter:Expr} {k:List Ko} (TO:TopOk T) (ho:scOk sc = true) (h:itG T sc (gw T d sc X Q n) iter k ρ σ):ItOk T d sc ρ X iter (rtQ (Rn T d sc X Q) k ρ) σ:=by
 have pl:gw T d sc X Q n (.ev iter k ρ σ) → ItOk T d sc ρ X iter (rtQ (Rn T d sc X Q) k ρ) σ:=fun h => (ev_all TO ho (Rn.of h)).it
 unfold itG at h
 cases hv:revA (tg iter) with
 | none => rw [hv] at h; exact pl h
 | some p =>
   rw [hv] at h
   exact bif_el h (fun hb h => ex2 (revA_out hv) fun np pos e => by rw [e]; exact rev_ok TO ho hb h) pl
theorem ItOk.mono {e:Expr} {K K':V → Hp → Prop} (h:ItOk T d sc ρ X e K σ) (k:∀ v σ,K v σ → K' v σ):ItOk T d sc ρ X e K' σ:=fun env A fs F ι s hsc I =>
 Zib (h env A fs F ι s hsc I) (fun zz zz p => p.rec (fun v σ' ι' a b c e f g => .of v σ' ι' (k _ _ a) b c e f g) fun l n I σ' ι' a b c e f g i j m => .rev l n I σ' ι' (k _ _ a) b c e f g i j m) fun zz zz p => p
set_option tactic.hygienic true in
theorem forG_ok {n:Nat} {t iter:Expr} {u:Tg} {body:List Stmt} {pos:Pos} {rest:List (List Stmt)} {P:Prop} (TO:TopOk T) (ho:scOk sc = true) (vx:P → StOk T d sc ρ X (.For t iter body [] pos) (aftQ (Rn T d sc X Q) Q rest) σ) (ht:tg t = u)
   (h:forG T sc (gw T d sc X Q n) u iter body P rest ρ σ):StOk T d sc ρ X (.For t iter body [] pos) (aftQ (Rn T d sc X Q) Q rest) σ:=by
 cases u <;> first | exact vx h | skip
 · cases tg_out ht rfl
   exact bif_el h (fun hb h => StOk.forG ((itG_ok TO ho h).mono fun zz zz h => Rn.un h fun zz h => ForOk.mono h aft_up) (asg_nm (and2 (and2 hb).1).1) (and2 (and2 hb).1).2 (no_t (and2 hb).2)) vx
 · rename_i es _ _
   rcases es with zz | ⟨a,zz | ⟨b,zz | ⟨zz,zz⟩⟩⟩ <;> first | exact vx h | skip
   have h:forT T sc (gw T d sc X Q n) (nmO (tg a)) (nmO (tg b)) iter body P rest ρ σ:=h
   cases ha:nmO (tg a) with
   | none => rw [ha] at h; exact vx h
   | some x =>
     rw [ha] at h
     cases hb:nmO (tg b) with
     | none => rw [hb] at h; exact vx h
     | some y =>
       rw [hb] at h
       obtain ⟨pa,rfl⟩:=nmO_out ha
       obtain ⟨pb,rfl⟩:=nmO_out hb
       cases tg_out ht rfl
       exact bif_el h (fun hb h => StOk.forG ((itG_ok TO ho h).mono fun zz zz h => Rn.un h fun zz h => ForOk.mono h aft_up) (asg_two (no_t (and2 hb).2) (and2 (and2 (and2 hb).1).1).1 (and2 (and2 (and2 hb).1).1).2) (and2 (and2 hb).1).2 (no_t (and2 hb).2)) vx
theorem asgN_up {v:V} {x:Str} {rest:List (List Stmt)} {ρ:Loc} {σ:Hp} (h:Rn T d sc X Q (.rt v [.asgN x rest] ρ σ)):aftQ (Rn T d sc X Q) Q rest .next (upd ρ x (some v)) σ:=h.un fun zz h => Rn.of h
theorem asg_ok {n:Nat} {t value:Expr} {u:Tg} {pos:Pos} {rest:List (List Stmt)} {P:Prop} (TO:TopOk T) (ho:scOk sc = true) (hc:noComp value = true) (vx:P → StOk T d sc ρ X (.Assign [t] value pos) (aftQ (Rn T d sc X Q) Q rest) σ) (ht:tg t = u)
   (h:asgG sc (gw T d sc X Q n) u value P rest ρ σ):StOk T d sc ρ X (.Assign [t] value pos) (aftQ (Rn T d sc X Q) Q rest) σ:=by
 cases u <;> first | exact vx h | cases tg_out ht rfl
 · exact bif_el h (fun hb h => StOk.assign ((ev_all TO ho (Rn.of h)).mon fun zz zz h => asgN_up h) hc hb) vx
 · exact StOk.setAttr TO ((ev_all TO ho (Rn.of h)).mon fun zz zz h => Rn.un h fun zz h => (ev_all TO ho (Rn.of h)).mon fun zz zz h => Rn.un h fun zz h => (show SetAttrOk _ _ _ _ _ _ _ from h).rec fun l c gs C h0 h1 h2 h3 h4 h5 => ⟨l,c,gs,C,h0,h1,h2,h3,h4,aft_up _ _ _ h5⟩) hc
 · exact StOk.setItem ((ev_all TO ho (Rn.of h)).mon fun zz zz h => Rn.un h fun zz h => (ev_all TO ho (Rn.of h)).mon fun zz zz h => Rn.un h fun zz h => (ev_all TO ho (Rn.of h)).mon fun zz zz h => Rn.un h fun zz h => (show SetItemOk _ _ _ _ _ _ from h).rec (fun l k kvs h0 h1 h2 h3 h4 => .mk l k kvs h0 h1 h2 h3 (aft_up _ _ _ h4)) fun l k kvs h0 h1 h2 h3 h4 => .pr l k kvs h0 h1 h2 h3 (aft_up _ _ _ h4)) hc
theorem asgC_ok {n:Nat} {t value:Expr} {u v:Tg} {pos:Pos} {rest:List (List Stmt)} {P:Prop} (TO:TopOk T) (ho:scOk sc = true) (vx:P → StOk T d sc ρ X (.Assign [t] value pos) (aftQ (Rn T d sc X Q) Q rest) σ) (ht:tg t = u) (hu:tg value = v)
   (h:asgC T sc (gw T d sc X Q n) u v value P rest ρ σ):StOk T d sc ρ X (.Assign [t] value pos) (aftQ (Rn T d sc X Q) Q rest) σ:=by
 cases u <;> first | exact vx h | skip
 cases tg_out ht rfl
 refine bif_el h (fun hb h => StOk.assignCell ((ev_all TO ho (Rn.of h)).mon fun zz zz h => asgN_up h) (isCell_out hb)) fun g => ?_
 clear h
 cases v <;> first | exact vx g | skip
 cases tg_out hu rfl
 refine bif_el g (fun hb h => ?_) vx
 exact comp_el h vx fun x p iter ifs e h1 h2 h3 h4 h5 => by
   subst e
   exact StOk.assignComp h1 h2 h3 (isLocal_out (and2 hb).1) (and2 hb).2 ((comp_go (ev_ok TO ho _) (Zs _) h5).mon fun zz zz h => h.rec fun items J h0 h1 h2 h3 => ⟨items,J,h0,h1,fun acc σ j => asgN_up (h2 acc σ j),h3⟩) h4
set_option tactic.hygienic true in
theorem sb_ok (TO:TopOk T) (ho:scOk sc = true):∀ (m:Nat) (b:List Stmt),sizeOf b < m → ∀ rest ρ σ,Rn T d sc X Q (.st (b :: rest) ρ σ) → ExOk T d sc ρ X b (aftQ (Rn T d sc X Q) Q rest) σ
 | 0,z1,hm,z2,z3,z4,z5 => absurd hm (Nat.not_lt_zero _)
 | m + 1,[],z1,rest,ρ,σ,h => h.un fun zz h => ExOk.nil (Rn.of h)
 | m + 1,st :: b,hm,rest,ρ,σ,g => g.un fun n h => by
   clear g
   have ih:=sb_ok TO ho m
   have hz:=zSt hm
   clear hm
   refine ExOk.cons (StOk.mono (Q:=aftQ (Rn T d sc X Q) Q (b :: rest)) ?_ (fun fl ρ' σ' h => ?_) fun zz zz h => h)
   rotate_left
   · cases fl <;> first | exact h | exact ih b hz.2 _ _ _ h
   cases st <;> first | exact stx_up h | skip
   · rename_i e _
     cases e
     · exact StOk.retNone h
     · exact StOk.ret ((ev_all TO ho (Rn.of h)).mon fun zz zz h => Rn.un h fun zz h => h)
   · rename_i ts value _
     rcases ts with zz | ⟨t,zz | ⟨zz,zz⟩⟩ <;> first | exact stx_up h | skip
     rcases bif_out h with ⟨hc,h⟩ | ⟨zz,h⟩
     · exact asg_ok TO ho hc stx_up rfl h
     · exact asgC_ok TO ho stx_up rfl rfl h
   · rename_i t iter body orelse _
     cases orelse <;> first | exact stx_up h | skip
     exact forG_ok TO ho stx_up rfl h
   · exact StOk.ite ((ts_all TO ho (Rn.of h)).mono fun t σ h => Rn.un h fun zz h => by
       cases t
       · exact ih _ (zIf hz.1).2 _ _ _ (Rn.of h)
       · exact ih _ (zIf hz.1).1 _ _ _ (Rn.of h))
   · rcases bif_out h with ⟨hc,h⟩ | ⟨zz,h⟩
     · exact StOk.expr ((ev_all TO ho (Rn.of h)).mon fun zz zz h => Rn.un h fun zz h => Rn.of h) hc
     · exact stx_up h
   · exact StOk.pass (Rn.of h)
   · exact StOk.brk h
   · exact StOk.cont h
end
noncomputable def tsQ (B:Bool → Hp → Prop):QS:=fun fl zz σ => match fl with
 | .ret v => bvc v fun b => B b σ
 | z1 => False
section
variable {T:Tp} {d:Nat} {sc:Scope} {X:QX} {ρ:Loc}
theorem vE_ok (TO:TopOk T) (ho:scOk sc = true) (_:Nat) (e:Expr) (Q:QE) (σ:Hp) (h:gw T d sc X (retQ Q) 4000 (.ev e [] ρ σ)):EvOk T d sc ρ X e Q σ:=(ev_all TO ho (Rn.of h)).mon fun zz zz h => Rn.un h fun zz h => h
theorem vT_ok (TO:TopOk T) (ho:scOk sc = true) (_ _:Nat) (e:Expr) (B:Bool → Hp → Prop) (σ:Hp) (h:gw T d sc X (tsQ B) 4000 (.ts e [] ρ σ)):TsOk T d sc ρ X e B σ:=(ts_all TO ho (Rn.of h)).mono fun zz zz h => Rn.un h fun zz h => h
theorem vB_ok (TO:TopOk T) (ho:scOk sc = true) (_:Nat) (ss:List Stmt) (Q:QS) (ρ:Loc) (σ:Hp) (h:gw T d sc X Q 4000 (.st [ss] ρ σ)):ExOk T d sc ρ X ss Q σ:=(sb_ok TO ho _ ss (Zs _) [] ρ σ (Rn.of h)).mono (fun fl ρ σ h => by
 cases fl <;> first | exact h | exact Rn.un h fun zz h => h) fun zz zz h => h
end
end
section
noncomputable def Has (ρ:Loc):List (Str × V) → Prop
 | [] => True
 | (k,v) :: r => ρ k = some v ∧ Has ρ r
noncomputable def locs (ρ:Loc):List (Str × V) → Loc
 | [] => ρ
 | (k,v) :: r => upd (locs ρ r) k (some v)
theorem Has.eq {ρ:Loc}:∀ {kvs:List (Str × V)},Has ρ kvs → locs ρ kvs = ρ:=by
 intro xx
 induction xx with
 | nil =>
   intro z1
   exact rfl
 | cons pp r ih =>
   obtain ⟨k,v⟩:=pp
   intro h
   show upd (locs ρ r) k (some v) = ρ
   rw [ih h.2]
   funext y
   unfold upd
   split
   · next e => rw [e]; exact h.1.symm
   · rfl
theorem ite_no {T:Tp} {d n:Nat} {sc:Scope} {X:QX} {ρ:Loc} {σ:Hp} {b:Bool} {A B:Hp → Prop} (h:¬ b = true) (q:B σ):blK (gw T d sc X (tsQ fun b σ => if b then A σ else B σ) (n + 1)) [] ρ σ b:=show (if b then A σ else B σ) by rw [if_neg h]; exact q
theorem ite_yes {T:Tp} {d n:Nat} {sc:Scope} {X:QX} {ρ:Loc} {σ:Hp} {b:Bool} {A B:Hp → Prop} (h:b = true) (q:A σ):blK (gw T d sc X (tsQ fun b σ => if b then A σ else B σ) (n + 1)) [] ρ σ b:=show (if b then A σ else B σ) by rw [if_pos h]; exact q
theorem Has.use {ρ:Loc} {kvs:List (Str × V)} (h:Has ρ kvs):∃ r,ρ = locs r kvs:=⟨ρ,h.eq.symm⟩
section
variable {T:Tp} {d:Nat} {sc:Scope} {X:QX} {Q:QE} {σ:Hp}
theorem CallOk.go {x:Str} {ps:List Str} {body:List Stmt} {args:List V} (TO:TopOk T) (e:(T.g x).bind (fnIn T.K) = some (ps,body,sc)) (hl:args.length = ps.length)
 (hb:gw T d sc X (retQ Q) 4000 (.st [body] (bindLoc (fun zz => none) ps args) σ)):CallOk T (d + 1) X (.glob x) args Q σ:=Zh (Option.bind_eq_some_iff.mp e) fun zz e => CallOk.fn TO (FnV.glob e.1 (fnIn_out e.2).1) hl (vB_ok TO (fnIn_out e.2).2 0 _ _ _ _ hb)
theorem CodeOk.goM {c x:Str} {ps:List Str} {body:List Stmt} {args:List V} (TO:TopOk T) (e:(T.m c x).bind (fnIn T.K) = some (ps,body,sc)) (hl:args.length = ps.length)
 (hb:gw T d sc X (retQ Q) 4000 (.st [body] (bindLoc (fun zz => none) ps args) σ)):CodeOk T (d + 1) X (.mth c x) args Q σ:=Zh (Option.bind_eq_some_iff.mp e) fun zz e => CodeOk.fn TO (FnV.mth e.1 (fnIn_out e.2).1) hl (vB_ok TO (fnIn_out e.2).2 0 _ _ _ _ hb)
theorem CallOk.goM {c x:Str} {ps:List Str} {body:List Stmt} {args:List V} (TO:TopOk T) (e:(T.m c x).bind (fnIn T.K) = some (ps,body,sc)) (hl:args.length = ps.length)
 (hb:gw T d sc X (retQ Q) 4000 (.st [body] (bindLoc (fun zz => none) ps args) σ)):CallOk T (d + 1) X (.mth c x) args Q σ:=(CodeOk.goM TO e hl hb).call
theorem CallOk.goX {x:Str} {ps:List Str} {body:List Stmt} {args:List V} (TO:TopOk T) (e:(T.g x).bind (fnIn T.K) = some (ps,body,sc)) (hl:args.length = ps.length)
 (hb:ExOk T d sc (bindLoc (fun zz => none) ps args) X body (retQ Q) σ):CallOk T (d + 1) X (.glob x) args Q σ:=Zh (Option.bind_eq_some_iff.mp e) fun zz e => CallOk.fn TO (FnV.glob e.1 (fnIn_out e.2).1) hl hb
theorem Cal.len {v:V} {n:Nat} (e:lenV σ v = some n) (hn:n < 2 ^ 62) (q:Q (.int n) σ):Cal T d X (.bi "len") [v] Q σ:=⟨CallOk.len e hn q⟩
theorem Cal.lenT {vs:List V} (h:short vs 100 = true) (q:Q (.int vs.length) σ):Cal T d X (.bi "len") [.tup vs] Q σ:=.len rfl (Zk (short_le h) (by decide)) q
theorem Cal.isi {v:V} {ty:String} {b:Bool} (e:isiV σ v ty = some b) (q:Q (.bool b) σ):Cal T d X (.bi "isinstance") [v,.type ty] Q σ:=⟨CallOk.isi e q⟩
theorem Cal.ord {c:Nat} (q:Q (.int c) σ):Cal T d X (.bi "ord") [.str ⟨#[c]⟩] Q σ:=⟨CallOk.ord q⟩
theorem Cal.range {n:Int} (q:Q (.rng n) σ):Cal T d X (.type "range") [.int n] Q σ:=⟨CallOk.range q⟩
theorem Cal.list {v:V} {vs:List V} (e:seqV σ v = some vs) (hn:vs.length ≤ sizeLine) (q:Q (.ref σ.length) (σ ++ [.list vs])):Cal T d X (.type "list") [v] Q σ:=⟨CallOk.list e hn q⟩
theorem iter_list {l:Nat} {vs:List V} (h:σ[l]? = some (.list vs)):iterV σ (.ref l) = some vs:=atL_of h
theorem iter_rev {l:Nat} {vs:List V} (h:σ[l]? = some (.list vs)):iterV σ (.rev l vs.length) = some vs.reverse:=(atL_of h).trans (if_pos rfl)
theorem seq_list {l:Nat} {vs:List V} (h:σ[l]? = some (.list vs)):seqV σ (.ref l) = some vs:=atL_of h
theorem kn_list {l:Nat} {vs:List V} (h:σ[l]? = some (.list vs)):kindName σ (.ref l) = some "list":=atL_of h
theorem isi_list {l:Nat} {vs:List V} (h:σ[l]? = some (.list vs)):isiV σ (.ref l) "list" = some true:=by unfold isiV; rw [kn_list h]; rfl
theorem truth_list {l:Nat} {vs:List V} (h:σ[l]? = some (.list vs)) (hl:vs.length < 1000000000):truthV (.ref l) σ = some (!vs.isEmpty):=(atL_of h).trans (if_pos hl)
theorem truth_cons {l:Nat} {vs:List V} (h:σ[l]? = some (.list vs)) (hl:vs.length < 1000000000) (h0:vs.isEmpty = false):truthV (.ref l) σ = some true:=(truth_list h hl).trans (congrArg (fun b => some (!b)) h0)
theorem len_tup {vs:List V} {n:Nat} (h:vs.length = n):lenV σ (.tup vs) = some n:=congrArg some h
theorem len_str_ {x:Str} {n:Nat} (h:x.length = n):lenV σ (.str x) = some n:=congrArg some h
theorem len_at {l n:Nat} {vs:List V} (h:σ[l]? = some (.list vs)) (hn:vs.length = n):lenV σ (.ref l) = some n:=(len_list h).trans (congrArg some hn)
theorem kind_list {l:Nat} {vs:List V} (h:σ[l]? = some (.list vs)):kindV σ (.ref l) = some "list":=congrArg kindO h
theorem MethOk.bi {ov:V} {name:Str} {id ty:String} {K:V → Prop} (h1:kindV σ ov = some ty) (h2:MethFacts ty name id) (k:K (.bi id)):MethOk T ov name σ K:=⟨.bi id,.bi h1 h2,k⟩
theorem MethOk.append {l:Nat} {vs:List V} {K:V → Prop} (h:σ[l]? = some (.list vs)) (k:K (.bi "list.append")):MethOk T (.ref l) "append" σ K:=.bi (kind_list h) m_append k
theorem MethOk.pop {l:Nat} {vs:List V} {K:V → Prop} (h:σ[l]? = some (.list vs)) (k:K (.bi "list.pop")):MethOk T (.ref l) "pop" σ K:=.bi (kind_list h) m_pop k
theorem MethOk.extend {l:Nat} {vs:List V} {K:V → Prop} (h:σ[l]? = some (.list vs)) (k:K (.bi "list.extend")):MethOk T (.ref l) "extend" σ K:=.bi (kind_list h) m_extend k
theorem MethOk.clear {l:Nat} {vs:List V} {K:V → Prop} (h:σ[l]? = some (.list vs)) (k:K (.bi "list.clear")):MethOk T (.ref l) "clear" σ K:=.bi (kind_list h) m_clear k
theorem MethOk.join {x:Str} {K:V → Prop} (k:K (.bi "str.join")):MethOk T (.str x) "join" σ K:=.bi (ty:="str") rfl m_join k
theorem Itm.list {l:Nat} {vs:List V} {k:Int} {j:Nat} {v:V} (e0:σ[l]? = some (.list vs)) (e1:seqIndex? k vs.length = some j) (e2:vs[j]? = some v) (e3:sm63 k) (q:Q v σ):Itm (.ref l) (.int k) Q σ:=⟨i_list e0 e1 e2 e3 q⟩
theorem Cmp.inR {neg r:Bool} {a b:V} (h:InR σ a b r) (q:Q (.bool (neg != r)) σ):Cmp (if neg then .NotIn else .In) a b Q σ:=by
 cases neg
 · exact ⟨r,.isin _ _ _ h,Bool.false_bne r ▸ q⟩
 · exact ⟨!r,.nin _ _ _ h,Bool.true_bne r ▸ q⟩
theorem Cmp.inD {k:Str} {l:Nat} {kvs:List (Str × V)} {r:Bool} (h:σ[l]? = some (.sdict kvs)) (e:(kvs.any fun kv => kv.1 = k) = r) (q:Q (.bool r) σ):Cmp .In (.str k) (.ref l) Q σ:=⟨r,.isin _ _ _ (e ▸ .dict _ _ _ h),q⟩
theorem Cmp.ninD {k:Str} {l:Nat} {kvs:List (Str × V)} {r:Bool} (h:σ[l]? = some (.sdict kvs)) (e:(kvs.any fun kv => kv.1 = k) = r) (q:Q (.bool (!r)) σ):Cmp .NotIn (.str k) (.ref l) Q σ:=⟨_,.nin _ _ _ (e ▸ .dict _ _ _ h),q⟩
theorem Cmp.eqR {a b:V} {da db:PyData} {r:Bool} (h1:Deep σ da a) (h2:Deep σ db b) (h3:da.depth ≤ 40) (e:PyData.eqv da db = r) (q:Q (.bool r) σ):Cmp .Eq a b Q σ:=⟨r,e ▸ .eq _ _ _ _ h1 h2 h3,q⟩
theorem Cmp.neR {a b:V} {da db:PyData} {r:Bool} (h1:Deep σ da a) (h2:Deep σ db b) (h3:da.depth ≤ 40) (e:PyData.eqv da db = r) (q:Q (.bool (!r)) σ):Cmp .NotEq a b Q σ:=⟨_,.ne _ _ _ _ h1 h2 h3,e ▸ q⟩
theorem Cmp.isN {v:V} {r:Bool} (h:isNoneV v = some r) (q:Q (.bool r) σ):Cmp .Is v .none Q σ:=⟨r,.isN _ _ h,q⟩
theorem Cmp.notN {v:V} {r:Bool} (h:isNoneV v = some r) (q:Q (.bool (!r)) σ):Cmp .IsNot v .none Q σ:=⟨_,.notN _ _ h,q⟩
theorem Bin.cat {s t:Str} (k:s.length + t.length ≤ sizeLine) (h:Q (.str (s ++ t)) σ):Bin .Add (.str s) (.str t) Q σ:=⟨_,_,.cat _ _ k,h⟩
theorem Bin.mulr {x y:Int} (k:decide (-(2 ^ 64) < y ∧ y < 2 ^ 64) = true) (h:Q (.int (x * y)) σ):Bin .Mult (.int x) (.int y) Q σ:=⟨_,_,.mul _ _ (.inr (Zgb k:-(2 ^ 64) < y ∧ y < 2 ^ 64)),h⟩
theorem Bin.mull {x y:Int} (k:decide (-(2 ^ 64) < x ∧ x < 2 ^ 64) = true) (h:Q (.int (x * y)) σ):Bin .Mult (.int x) (.int y) Q σ:=⟨_,_,.mul _ _ (.inl (Zgb k:-(2 ^ 64) < x ∧ x < 2 ^ 64)),h⟩
theorem binG.add {Q:QS} {k:List Ko} {ρ:Loc} {n:Nat} {x y z:Int} (e:x + y = z) (h:rtQ (gw T d sc X Q n) k ρ (.int z) σ):rtQ (gw T d sc X Q (n + 1)) (.binA .Add (.int x) :: k) ρ (.int y) σ:=by subst e; exact h
theorem Bin.lists {l m:Nat} {xs ys:List V} (h1:σ[l]? = some (.list xs)) (h2:σ[m]? = some (.list ys)) (h3:xs.length + ys.length ≤ sizeLine) (h:Q (.ref σ.length) (σ ++ [.list (xs ++ ys)])):Bin .Add (.ref l) (.ref m) Q σ:=⟨_,_,.lists _ _ _ _ h1 h2 h3,h⟩
end
end
section
theorem VRels.take {T:Tp} {ι:Inj} {h:Heap} {vs:List V} {xs:List Value} (k:Nat) (e:VRels T ι h vs xs):VRels T ι h (vs.take k) (xs.take k):=(e.all.take k).vrels
theorem VRels.drop {T:Tp} {ι:Inj} {h:Heap} {vs:List V} {xs:List Value} (k:Nat) (e:VRels T ι h vs xs):VRels T ι h (vs.drop k) (xs.drop k):=(e.all.drop k).vrels
section
variable {T:Tp} {d:Nat} {sc:Scope} {ρ:Loc} {X:QX} {Q:QE} {σ:Hp}
end
theorem execs_append (env:Env) (r:List Stmt):∀ ss:List Stmt,execs (ss ++ r) env = (execs ss env >>= fun f => match f with | .next => execs r env | f => pure f)
 | [] => by
   rw [List.nil_append,show execs [] env = pure Flow.next from rfl,pure_bind]
 | st :: ss => by
   rw [List.cons_append,execs_cons,execs_cons,bind_assoc]
   congr 1
   funext f
   cases f
   · exact execs_append env r ss
   · exact (pure_bind _ _).symm
   · exact (pure_bind _ _).symm
   · exact (pure_bind _ _).symm
theorem ExOk.cutAt {T:Tp} {d:Nat} {sc:Scope} {ρ:Loc} {X:XS} {Q:QS} {σ:Hp} {ss:List Stmt} (k:Nat) (P:Loc → Hp → Prop) (h1:ExOk T d sc ρ X (ss.take k) (fun fl ρ' σ' => match fl with | .next => P ρ' σ' | fl => Q fl ρ' σ') σ) (h2:∀ ρ' σ',P ρ' σ' → ExOk T d sc ρ' X (ss.drop k) Q σ'):ExOk T d sc ρ X ss Q σ:=by
 intro env A fs F ι s hsc I
 rw [← List.take_append_drop k ss,execs_append]
 refine Zhb (Zib (h1 env A fs F ι s hsc I) (fun f s₁ p => ?_) fun zz zz p => p)
 obtain ⟨fl,ρ',σ',ι',q,r,i,e⟩:=p
 induction r with
 | next => exact Zib (h2 _ _ q env A fs F ι' s₁ hsc i) (fun zz zz p => p.trans e) fun zz zz p => p.trans e
 | brk => exact Zjb ⟨_,ρ',σ',ι',q,.brk,i,e⟩
 | cont => exact Zjb ⟨_,ρ',σ',ι',q,.cont,i,e⟩
 | ret r => exact Zjb ⟨_,ρ',σ',ι',q,.ret r,i,e⟩
end
section
theorem Rep.retag {T:Tp} {ι:Inj} {σ:Hp} {h:Heap} (r:Rep T ι σ h) {k:Nat} (hk:σ[k]? = some (.sdict [])):Rep T ι (σ.set k (.tdict [])) h where
 len:=by simp [r.len]
 big:=r.big
 size:=r.size
 base:=r.base
 objs:=fun l o p e q => by
   by_cases hl:k = l
   · subst hl
     rw [Zw (Zb.mp hk).1] at e
     cases e
     obtain ⟨h0,rvs,⟨o,es,ep,h1,h2,h3,zz,h5,zz⟩,h7⟩:=r.objs k _ p hk q
     cases rvs with
     | cons => cases h7
     | nil =>
       refine ⟨h0,[],⟨o,es,ep,h1,h2,h3,?_,fun zz hx => by simp at hx,List.nodup_nil⟩,.nil⟩
       cases hs:es.toList with
       | nil => rfl
       | cons => rw [hs] at h5; cases h5
   · rw [Zi hl] at e
     exact r.objs l o p e q
 fresh:=r.fresh
 apart:=r.apart
theorem CallOk.retag {T:Tp} {d:Nat} {X:QX} {f:V} {args:List V} {Q:QE} {σ:Hp} (h:CallOk T d X f args (fun v σ' => ∃ k,σ'[k]? = some (.sdict []) ∧ Q v (σ'.set k (.tdict []))) σ):CallOk T d X f args Q σ:=by
 intro A fs ι s fv xs S rf rxs
 refine Zib (h A fs ι s fv xs S rf rxs) (fun x s' p => ?_) fun zz zz p => p
 obtain ⟨v,σ',ι',⟨k,hk,q⟩,rv,rp,ex,g,o⟩:=p
 exact ⟨v,_,ι',q,rv,rp.retag hk,ex,g,o⟩
section
variable {T:Tp} {d:Nat} {X:QX} {Q:QE} {σ:Hp}
theorem Cmp.pairs {neg:Bool} {k:Str × Int} {l:Nat} {kvs:List ((Str × Int) × V)} (hl:σ[l]? = some (.tdict kvs)) (q:Q (.bool (neg != kvs.any fun kv => kv.1 = k)) σ):Cmp (if neg then .NotIn else .In) (.tup [.str k.1,.int k.2]) (.ref l) Q σ:=.inR (.tdict _ _ _ hl) q
theorem Itm.pair {l:Nat} {k:Str × Int} {kvs:List ((Str × Int) × V)} {v:V} (h1:σ[l]? = some (.tdict kvs)) (h2:(kvs.find? fun kv => kv.1 = k).map (·.2) = some v) (q:Q v σ):Itm (.ref l) (.tup [.str k.1,.int k.2]) Q σ:=⟨⟨v,.tdict _ _ _ _ h1 h2,q⟩⟩
theorem SetItemOk.pair {l:Nat} {k:Str × Int} {kvs:List ((Str × Int) × V)} {v:V} {ρ:Loc} {K:QS} (h1:σ[l]? = some (.tdict kvs)) (h2:kvs.length ≤ sizeLine) (q:K .next ρ (σ.set l (.tdict (setTK kvs k v)))):SetItemOk ρ K v (.ref l) (.tup [.str k.1,.int k.2]) σ:=.pr l k kvs rfl rfl h1 h2 q
end
end
section
section
variable {T:Tp} {d:Nat} {sc:Scope} {ρ:Loc} {X:QX} {Q:QE} {σ:Hp}
theorem Cal.isiInt {i:Int} (q:Q (.bool true) σ):Cal T d X (.bi "isinstance") [.int i,.type "int"] Q σ:=⟨.b2 rfl fun S r r2 => by
 rw [VRel.type_inv r2]; obtain ⟨t,rfl⟩:=r.int_inv
 exact IsiPair.int_int (S.post0 q .bool_mk)⟩
theorem Cal.isiNo {i:Int} (q:Q (.bool false) σ):Cal T d X (.bi "isinstance") [.int i,.type "bool"] Q σ:=⟨.b2 rfl fun S r r2 => by
 rw [VRel.type_inv r2]; obtain ⟨t,rfl⟩:=r.int_inv
 exact IsiPair.int_bool (S.post q .bool_mk _)⟩
end
section
variable {T:Tp} {A:Around} {fs:List Env} {d:Nat} {env:Env} {F:List Addr} {ι:Inj} {s:Shared} {ρ:Loc} {σ:Hp} {sc:Scope} {X:QX} {Q:QE}
theorem rev_picked (x:Str):(Builtin.Str.strSliceIndices none none (-1) x.length).filterMap (x.cps[·]?) = x.cps.toList.reverse:=by
 rw [picked_rev,PySem.W.krv_range,List.filterMap_reverse]
 exact congrArg List.reverse (PySem.W.krv_all x.cps)
theorem EvOk.revStr {value st:Expr} {p pos:Pos} (ht:∀ o r,letTemporaryGo value o r = pure ())
   (h:EvOk T d sc ρ X value (fun o σ₁ => EvOk T d sc ρ X st (fun k σ₂ => k = .int (-1) ∧ ∃ x:Str,o = .str x ∧ x.length ≤ sizeLine ∧ Q (.str ⟨x.cps.toList.reverse.toArray⟩) σ₂) σ₁) σ) :
   EvOk T d sc ρ X (.Subscript value (.Slice Option.none Option.none (some st) p) pos) Q σ:=by
 intro env A fs F ι s hsc I
 refine wpAny_Subscript_Slice_step (T:="str") PySem.F.slot_str_getitem.lookup (Zib (h env A fs F ι s hsc I) (fun o s₁ p => ?_) fun zz zz p => p) ht
 obtain ⟨v,σ₁,ι₁,q,rv,rp,ex,g,oo⟩:=p
 have I₁:=I.ext ex rp g oo
 refine wpAny_Slice ?_
 rw [evalPart_none,evalPart_some]
 refine Zjb (Zjb (Zib (q env A fs F ι₁ s₁ hsc I₁) (fun k s₂ p => ?_) fun zz zz p => p.trans ex))
 obtain ⟨kv,σ₂,ι₂,⟨rfl,x,rfl,hx,q⟩,rk,rp2,ex2,g2,o2⟩:=p
 obtain ⟨t,rfl⟩:=rv.str_inv
 obtain ⟨u,rfl⟩:=rk.int_inv
 refine ⟨typeIs_str _ x t,wpAny_getItem_str_slice (l:=Option.none) (u:=Option.none) (st:=some (-1,u)) ⟨_,Heap.get?_push_size _ rfl,rfl,rfl⟩ rfl ?_⟩
 have e:sliceMade x t Option.none Option.none (some (-1,u)) = .str ⟨x.cps.toList.reverse.toArray⟩:=by
   rw [← rev_picked x]; rfl
 rw [e]
 have I₂:=I₁.ext ex2 rp2 g2 o2
 have ep:=Ext.push T [] ι₂ s₂.heap { cls:=.type "slice",data:=.fields #[.none,.none,.int (-1) u] }
 exact ⟨by simpa [Str.length] using hx,_,σ₂,ι₂,q,.str_mk,I₂.rep.push _,ex.trans (ex2.trans ep),I₂.gens,I₂.os⟩
end
end
section
section
variable {prog:Program} {w:World} {A:Around} {E:Value → Shared → Prop} {s:Shared}
theorem adjust_to (b n:Nat) (hb:b ≤ n):Builtin.Slice.sliceAdjust none (some (b:Int)) 1 (n:Int) = (0,(b:Int)):=by
 unfold Builtin.Slice.sliceAdjust
 have h1:¬ ((1:Int) < 0):=by decide
 have h2:¬ ((b:Int) < 0):=Int.not_lt.mpr (Int.natCast_nonneg b)
 simp only [h1,h2,if_false]
 congr 1
 omega
theorem applied_to {sl:Addr} {b n:Nat} {u:Tok} {Q:Int × Int × Nat → Shared → Prop} (hs:s.heap.IsSliceOf sl .none (.int b u) .none) (hb:b ≤ n) (h:Q (0,1,b) s):wpAny (model prog w) A (Builtin.Slice.sliceApplied (.ref sl) (pure (n:Int))) Q E s:=by
 obtain ⟨o,ho,zz,hd⟩:=hs
 unfold Builtin.Slice.sliceApplied Builtin.Slice.sliceFields
 refine Zhb (Zhb (wpAny_field ho hd (x:=.none) rfl (Zhb (wpAny_field ho hd (x:=.int b u) rfl (Zhb (wpAny_field ho hd (x:=.none) rfl (Zjb ?_)))))))
 refine Zhb (slicePart_none ?_)
 show wpAny _ _ (if ((1:Int) == 0) = true then _ else _) _ _ s
 rw [if_neg (by decide)]
 refine Zhb (slicePart_none (Zhb (slicePart_int (Zhb (Zjb ?_)))))
 show wpAny _ _ (match Builtin.Slice.sliceAdjust none (some (b:Int)) 1 (n:Int) with | (lo,hi) => pure (lo,(1:Int),Builtin.Slice.slicePlaces lo hi 1)) _ _ s
 rw [adjust_to b n hb]
 show wpAny _ _ (pure ((0:Int),(1:Int),Builtin.Slice.slicePlaces ((0:Nat):Int) (b:Int) 1)) _ _ s
 rw [places_from 0 b (Zkb b)]
 exact Zjb h
theorem item_to {t sl:Addr} {items:Array Value} {b:Nat} {u:Tok} {Q:Value → Shared → Prop} (ht:IsTup s.heap t items) (hs:s.heap.IsSliceOf sl .none (.int b u) .none) (hb:b < items.size)
   (h:Q (.ref s.heap.objs.size) { s with heap:=s.heap.push { cls:=.type "tuple",data:=.seq (items.toList.take b).toArray } })
   (hsz:items.size ≤ sizeLine):wpAny (model prog w) A (getItem (.ref t) (.ref sl)) Q E s:=by
 have hcut:sizeOk (.seq (items.toList.take b).toArray):=by
   show (items.toList.take b).toArray.size ≤ sizeLine
   rw [List.size_toArray,List.length_take,Array.length_toList]
   exact Za (Nat.min_le_right ..) hsz
 have hTs:s.TypeIs (.ref sl) "slice":=by obtain ⟨o,ho,hc,zz⟩:=hs; exact ⟨o,ho,hc⟩
 have pk:((List.range b).filterMap fun (k:Nat) => items[((0:Int) + (k:Int) * 1).toNat]?).toArray = (items.toList.take b).toArray:=by
   have:=pick_run items 0 b
   rw [List.filterMap_map,List.drop_zero] at this
   rw [← this]
   congr 2
   funext k
   show items[((0:Int) + (k:Int) * 1).toNat]? = items[0 + k]?
   congr 1; omega
 unfold getItem
 try with_reducible refine wpAny_holding ?_
 first | refine Zhb (Zjb ?_) | skip
 refine Zhb (wpAny_sequenceKey ht.typeIs (by decide) ?_)
 refine Zhb (wpAny_callSpecial?_slot (name:=Str.ofString "__getitem__") ht.typeIs slot_tuple_getitem
   (wpAny_call_entry slot_tuple_getitem ht.typeIs entry_tuple_getitem ?_ (args_tuple_getitem _ _)))
 show wpAny _ _ (Builtin.Tuple.tupleItemsOf (.ref t) >>= _) _ _ s
 refine Zhb (tupleItemsOf_ ht ?_)
 refine Zhb (wpAny_typeOf hTs ?_)
 rw [if_pos (by decide)]
 refine Zhb (applied_to hs (Zq hb) ?_)
 have hno:¬ (((0:Int) == 0 && (1:Int) == 1 && b == items.size) = true):=by
   have:(b == items.size) = false:=beq_eq_false_iff_ne.mpr (Nat.ne_of_lt hb)
   rw [this]; decide
 show wpAny _ _ (if ((0:Int) == 0 && (1:Int) == 1 && b == items.size) = true then _ else _) _ _ s
 rw [if_neg hno,pk]
 first
   | exact Zhb (m:=Builtin.Tuple.tupleExact _) (wpAny_newObj_type (Zjb ⟨_,rfl,Zjb h⟩) hcut)
   | exact Zhb (m:=Builtin.Tuple.tupleExact _) (wpAny_newObj_type (Zhb (Zjb (Zjb ⟨_,rfl,Zjb h⟩))) hcut)
   | exact Zhb (Zhb (m:=Builtin.Tuple.tupleExact _) (wpAny_newObj_type (Zjb (Zjb ⟨_,rfl,Zjb h⟩)) hcut))
   | exact Zhb (Zhb (m:=Builtin.Tuple.tupleExact _) (wpAny_newObj_type (Zjb ⟨_,rfl,Zjb h⟩) hcut))
end
inductive TSl (f:List V → Nat → List V) (o i:V) (Q:QE) (σ:Hp):Prop where
 | mk (vs:List V) (k:Nat) (h0:o = .tup vs) (h1:i = .int k) (h2:1 ≤ k) (h3:k < vs.length) (h4:vs.length ≤ sizeLine) (q:Q (.tup (f vs k)) σ):TSl f o i Q σ
section
variable {T:Tp} {d:Nat} {sc:Scope} {ρ:Loc} {X:QX} {Q:QE} {σ:Hp}
theorem EvOk.tupTo {x:Str} {np p pos:Pos} {e:Expr} (h:EvOk T d sc ρ X (.Name x np) (fun o σ₁ => EvOk T d sc ρ X e (fun i σ₂ => TSl (fun vs k => vs.take k) o i Q σ₂) σ₁) σ) :
   EvOk T d sc ρ X (.Subscript (.Name x np) (.Slice Option.none (some e) Option.none p) pos) Q σ:=by
 intro env A fs F ι s hsc I
 refine wpAny_Subscript_Slice (T:="tuple") PySem.F.slot_tuple_getitem.lookup (Zib (h env A fs F ι s hsc I) (fun o s₁ p => ?_) fun zz zz p => p) (fun zz zz => rfl)
 obtain ⟨v,σ₁,ι₁,q,rv,rp,ex,g,oo⟩:=p
 have I₁:=I.ext ex rp g oo
 refine wpAny_Slice ?_
 rw [evalPart_none,evalPart_some]
 refine Zjb (Zib (q env A fs F ι₁ s₁ hsc I₁) (fun y s₂ p => ?_) fun zz zz p => p.trans ex)
 obtain ⟨v₂,σ₂,ι₂,⟨vs,k,rfl,rfl,h2,h3,h4,q2⟩,rv₂,rp₂,ex₂,g₂,o₂⟩:=p
 have I₂:=I₁.ext ex₂ rp₂ g₂ o₂
 obtain ⟨a,items,n,rfl,ht,hv⟩:=(rv.mono ex₂.mono).tup_inv
 obtain ⟨t,rfl⟩:=rv₂.int_inv
 have hlen:=hv.length
 rw [Array.length_toList] at hlen
 have ep:=Ext.push T [] ι₂ s₂.heap { cls:=.type "slice",data:=.fields #[.none,.int k t,.none] }
 have I₃:Inv T A fs d env F ρ ι₂ σ₂ { s₂ with heap:=s₂.heap.push { cls:=.type "slice",data:=.fields #[.none,.int k t,.none] } }:=I₂.ext ep (rp₂.push _) I₂.gens I₂.os
 have hT:IsTup (s₂.heap.push { cls:=.type "slice",data:=.fields #[.none,.int k t,.none] }) a items:=⟨_,Zx _ ht,rfl,n,rfl⟩
 refine Zjb ⟨hT.typeIs,item_to hT (Heap.IsSliceOf.new ..) (hlen.symm ▸ h3) ?_ (hlen.symm ▸ h4)⟩
 exact (I₃.st.newTup (Q:=Q) (items:=(items.toList.take k).toArray) (F:=[]) (by simpa using (hv.mono ep.mono).take k) q2 (t:=s₂.toks)).trans (ex.trans (ex₂.trans ep))
theorem EvOk.tupFrom {x:Str} {np p pos:Pos} {e:Expr} (h:EvOk T d sc ρ X (.Name x np) (fun o σ₁ => EvOk T d sc ρ X e (fun i σ₂ => TSl (fun vs k => vs.drop k) o i Q σ₂) σ₁) σ) :
   EvOk T d sc ρ X (.Subscript (.Name x np) (.Slice (some e) Option.none Option.none p) pos) Q σ:=by
 intro env A fs F ι s hsc I
 refine wpAny_Subscript_Slice (T:="tuple") PySem.F.slot_tuple_getitem.lookup (Zib (h env A fs F ι s hsc I) (fun o s₁ p => ?_) fun zz zz p => p) (fun zz zz => rfl)
 obtain ⟨v,σ₁,ι₁,q,rv,rp,ex,g,oo⟩:=p
 have I₁:=I.ext ex rp g oo
 refine wpAny_Slice ?_
 rw [evalPart_some]
 refine Zib (q env A fs F ι₁ s₁ hsc I₁) (fun y s₂ p => ?_) fun zz zz p => p.trans ex
 obtain ⟨v₂,σ₂,ι₂,⟨vs,k,rfl,rfl,h2,h3,h4,q2⟩,rv₂,rp₂,ex₂,g₂,o₂⟩:=p
 have I₂:=I₁.ext ex₂ rp₂ g₂ o₂
 obtain ⟨a,items,n,rfl,ht,hv⟩:=(rv.mono ex₂.mono).tup_inv
 obtain ⟨t,rfl⟩:=rv₂.int_inv
 have hlen:=hv.length
 rw [Array.length_toList] at hlen
 have ep:=Ext.push T [] ι₂ s₂.heap { cls:=.type "slice",data:=.fields #[.int k t,.none,.none] }
 have I₃:Inv T A fs d env F ρ ι₂ σ₂ { s₂ with heap:=s₂.heap.push { cls:=.type "slice",data:=.fields #[.int k t,.none,.none] } }:=I₂.ext ep (rp₂.push _) I₂.gens I₂.os
 have hT:IsTup (s₂.heap.push { cls:=.type "slice",data:=.fields #[.int k t,.none,.none] }) a items:=⟨_,Zx _ ht,rfl,n,rfl⟩
 refine Zjb (Zjb ⟨hT.typeIs,getItem_tuple_from hT (Heap.IsSliceOf.new ..) h2 (hlen.symm ▸ Zq h3) ?_ (hlen.symm ▸ h4)⟩)
 exact (I₃.st.newTup (Q:=Q) (items:=(items.toList.drop k).toArray) (F:=[]) (by simpa using (hv.mono ep.mono).drop k) q2 (t:=s₂.toks)).trans (ex.trans (ex₂.trans ep))
theorem ExOk.retag {X:XS} {Q:QS} {ss:List Stmt} {k:Nat} (hk:σ[k]? = some (.sdict [])) (h:ExOk T d sc ρ X ss Q (σ.set k (.tdict []))):ExOk T d sc ρ X ss Q σ :=
 fun env A fs F ι s hsc I => h env A fs F ι s hsc ⟨I.rep.retag hk,I.aok,I.frm,I.top,I.gens,I.os⟩
end
end
section
section
variable {T:Tp} {d:Nat} {X:QX} {Q:QE} {σ:Hp}
theorem Cal.intB {b:Bool} (q:Q (.int (if b then 1 else 0)) σ):Cal T d X (.type "int") [.bool b] Q σ:=⟨.b1 rfl fun S r => by
 rw [r.bool_inv]
 exact call_int_bool (S.post q .int_mk _)⟩
end
section
variable {prog:Program} {w:World} {K:Type} [DecidableEq K] {knd:HeapKind prog w K} {A:Around} {E:Value → Shared → Prop} {s:Shared}
theorem range_same {β:Type} {M:Model} {f:Nat → β → Sem (ForInStep β)} {n:Nat} {b:β} {Q:β → Shared → Prop} (turn:∀ i,i < n → ∀ Q':ForInStep β → Shared → Prop,Q' (.yield b) s → wpAny M A (f i b) Q' E s) (h:Q b s):wpAny M A (forIn (List.range' 0 n) b f) Q E s:=by
 refine wpAny_forIn_list f (fun rest q s' => s' = s ∧ q = b ∧ ∀ i ∈ rest,i < n) Q (fun x rest q s' h' => ?_) (fun q s' h' => ?_) _ _ ⟨rfl,rfl,fun i hi => ?_⟩
 · obtain ⟨rfl,rfl,h3⟩:=h'
   exact turn x (h3 x (Zt ..)) _ ⟨rfl,rfl,fun i hi => h3 i (Zd _ hi)⟩
 · obtain ⟨rfl,rfl,h3⟩:=h'
   exact h
 · rw [← List.range_eq_range'] at hi; exact List.mem_range.mp hi
theorem idx_same {xb:List (K × Addr × Value)} (hnb:(xb.map (·.1)).Nodup) {j x:Nat} {k:K} {p p':Addr × Value} (hj:xb[j]? = some (k,p')) (hp:xb[x]? = some (k,p)):j = x ∧ True:=by
 have l1:=Zb.mp hj
 have l2:=Zb.mp hp
 have e1:=hnb.idxOf_getElem j (by rw [Zc]; exact l1.1)
 have e2:=hnb.idxOf_getElem x (by rw [Zc]; exact l2.1)
 rw [List.getElem_map,l1.2] at e1
 rw [List.getElem_map,l2.2] at e2
 exact ⟨e1.symm.trans e2,trivial⟩
theorem same_pairs {nm:String} {a b:Addr} {xa xb:List (K × Addr × Value)} {Q:Bool → Shared → Prop} (ha:(a == sysModules) = false) (hb:(b == sysModules) = false) (da:s.heap.DictOfH knd a xa) (db:s.heap.DictOfH knd b xb) (hl:xa.length = xb.length) (hu:knd.room A)
   (hits:∀ (i:Nat) (x:K × Addr × Value),xa[i]? = some x → ∃ p:Addr × Value,xb[i]? = some (x.1,p) ∧ EqAt A s x.2.2 p.2 true) (h:Q true s):wpAny (model prog w) A (Builtin.Dict.samePairs nm a b) Q E s:=by
 refine ex3 da fun oa es ep h' => and6 h' fun hoa zz hda hea hia zz => ?_
 clear h' da
 refine ex3 db fun ob fs ep' h' => and6 h' fun hob zz hdb heb hib hnb => ?_
 clear h' db
 have hsa:=size_of_entries hea
 have hsb:=size_of_entries heb
 unfold Builtin.Dict.samePairs Builtin.Dict.showsAll
 rw [if_neg (show ¬ (a == sysModules) = true by rw [ha]; exact Zv),if_neg (show ¬ (b == sysModules) = true by rw [hb]; exact Zv)]
 refine Zhb (Zjb (Zhb (Zjb ?_)))
 refine Zhb (wpAny_dictEntries hoa hda ?_)
 dsimp only
 refine Zhb (wpAny_dictEntries hob hdb ?_)
 rw [if_neg (by rw [hsa,hsb,hl]; simp)]
 refine Zhb (wpAny_dictEpoch hoa hda ?_)
 refine Zhb ?_
 rw [Std.Legacy.Range.forIn_eq_forIn_range']
 simp only [Std.Legacy.Range.size,Nat.sub_zero,Nat.add_sub_cancel,Nat.div_one]
 refine range_same (fun x hlt Q' hq => ?_) (Zjb h)
 have hx:=Zp (hsa ▸ hlt:x < xa.length)
 refine Zh (hits x _ hx) fun p h' => ?_
 have hp:=h'.1
 refine Zhb (wpAny_dictEntries hoa hda ?_)
 rw [entry_at hea x,hx]
 show wpAny _ _ (holding [.ref xa[x].2.1,xa[x].2.2] _ >>= _) _ _ _
 refine Zhb (wpAny_holding (Zhb (wpAny_dictFind_heap hu (hia _ (Zn hx)) hob hdb heb hib hnb (fun hn => absurd hp (hn x p)) fun j p' hj => ?_)))
 have hjx:=idx_same hnb hj hp
 refine Zhb (wpAny_dictEntries hob hdb ?_)
 rw [entry_at heb j,hjx.1,hp]
 refine wpAny_holding (h'.2 prog w _ _ ?_)
 show wpAny _ _ (if (!true) = true then _ else _) _ _ _
 rw [if_neg (by decide)]
 refine Zhb (wpAny_dictEpoch hoa hda ?_)
 rw [if_neg (by simp)]
 exact Zjb hq
theorem ne_dicts {a b:Addr} {xa xb:List (K × Addr × Value)} {Q:Value → Shared → Prop} (ha:(a == sysModules) = false) (hb:(b == sysModules) = false) (da:s.heap.DictOfH knd a xa) (db:s.heap.DictOfH knd b xb) (hl:xa.length = xb.length) (hu:A.units < cLine) (hu1:knd.room A.in1)
   (hits:∀ (i:Nat) (x:K × Addr × Value),xa[i]? = some x → ∃ p:Addr × Value,xb[i]? = some (x.1,p) ∧ EqAt A.in1 s x.2.2 p.2 true) (h:Q (.bool false) s):wpAny (model prog w) A (compareOp .NotEq (.ref a) (.ref b)) Q E s:=by
 refine wpAny_richCompare_same_room (op:=.NotEq) da.typeIs db.typeIs PySem.F.slot_dict_ne (wpAny_call_entry PySem.F.slot_dict_ne da.typeIs PySem.F.entry_dict_ne ?_ (PySem.F.args_dict_ne_2 _ _)) hu
 show wpAny _ _ (Builtin.Dict.dictSlotArgs "__ne__" ⟨[.ref a,.ref b],[]⟩ >>= _) _ _ s
 refine Zhb ?_
 unfold Builtin.Dict.dictSlotArgs
 refine Zhb (wpAny_notOrdered_dict da.typeIs ?_)
 show wpAny _ _ (pure (Value.ref a,Value.ref b)) _ _ s
 refine Zjb ?_
 refine Zhb (wpAny_isInstance (T:="dict") db.typeIs PySem.F.sub_dict_dict ?_)
 simp only [Bool.not_true,Bool.false_eq_true,if_false]
 refine Zhb (Zjb (Zhb (Zjb ?_)))
 refine Zhb (same_pairs ha hb da db hl hu1 hits ?_)
 exact Zjb ⟨_,rfl,(fun x => by cases x),h⟩
end
section
variable {T:Tp} {d:Nat} {X:QX} {Q:QE} {σ:Hp}
theorem KRel.get {α K:Type} {R:V → α → Prop} {kvs:List (K × V)} {xs:List (K × α)} (h:KRel R kvs xs):∀ (i:Nat) (k:K) (v:V),kvs[i]? = some (k,v) → ∃ x,xs[i]? = some (k,x) ∧ R v x:=by
 induction h with
 | nil => intro i k v e; cases e
 | cons h t ih =>
   intro i k v e
   cases i with
   | zero => cases e; exact ⟨_,rfl,h⟩
   | succ i => exact ih i k v e
theorem KRel.back {α K:Type} {R:V → α → Prop} {kvs:List (K × V)} {xs:List (K × α)} (h:KRel R kvs xs):∀ (i:Nat) (x:K × α),xs[i]? = some x → ∃ v,kvs[i]? = some (x.1,v) ∧ R v x.2:=by
 induction h with
 | nil => intro i x e; cases e
 | cons h t ih =>
   intro i x e
   cases i with
   | zero => cases e; exact ⟨_,rfl,h⟩
   | succ i => exact ih i x e
theorem Cmp.neT {l m:Nat} {kvs kvs':List ((Str × Int) × V)} (h1:σ[l]? = some (.tdict kvs)) (h2:σ[m]? = some (.tdict kvs')) (hl:kvs.length = kvs'.length)
   (hits:∀ (i:Nat) (k:Str × Int) (v:V),kvs[i]? = some (k,v) → ∃ v' dd,kvs'[i]? = some (k,v') ∧ Deep σ dd v ∧ Deep σ dd v' ∧ dd.depth ≤ 40) (q:Q (.bool false) σ):Cmp .NotEq (.ref l) (.ref m) Q σ:=by
 refine ⟨false,.own _ _ _ _ fun {T d X Q} q A fs ι s x y S hx hy => ?_,q⟩
 obtain ⟨a,d1,rfl,hla⟩:=hx.ref_inv
 obtain ⟨b,d2,rfl,hlb⟩:=hy.ref_inv
 obtain ⟨xa,da,ra,na⟩:=S.rep.tdict_at h1 hla
 obtain ⟨xb,db,rb,nb⟩:=S.rep.tdict_at h2 hlb
 have hu:=S.aok.units
 refine ne_dicts (knd:=pairKind T.prog T.w) na nb da db (by rw [ra.length,rb.length]; exact hl) (room40 (x:=0) hu (by decide)) (show A.units + 1 < cLine from room41 (x:=0) hu (by decide)) (fun i x hx => ?_) (S.post0 q .bool_mk)
 obtain ⟨v,e1,r1⟩:=ra.back i x hx
 obtain ⟨v',dd,e2,g1,g2,g3⟩:=hits i _ _ e1
 obtain ⟨p,e3,r3⟩:=rb.get i _ _ e2
 obtain ⟨as,t1⟩:=g1.reads S.rep r1
 obtain ⟨bs,t2⟩:=g2.reads S.rep r3
 refine ⟨p,e3,?_⟩
 have:=eqAt_reads dd dd A.in1 s x.2.2 p.2 as bs t1 t2 g1.lay g2.lay (show A.units + 1 + min dd.depth dd.depth < cLine from room41 hu (Za (Nat.min_le_left ..) g3))
 rw [eqv_refl _ g1.lay] at this
 exact this
end
end
section
section
variable {T:Tp} {d:Nat} {sc:Scope} {ρ:Loc} {X:QX} {Q:QE} {σ:Hp}
theorem EvOk.strTo {x:Str} {kk:Nat} {np p pos:Pos} {e:Expr} (hx:x.length ≤ sizeLine) (h:EvOk T d sc ρ X e (fun i σ₁ => ∃ k,i = .int k ∧ Q (.str (Txt.slice x Option.none (some k))) σ₁) σ) :
   EvOk T d sc ρ X (.Subscript (.Constant (.str x) kk np) (.Slice Option.none (some e) Option.none p) pos) Q σ:=by
 intro env A fs F ι s hsc I
 have h':EvOk T d sc ρ X (.Constant (.str x) kk np) (fun o σ₁ => o = .str x ∧ EvOk T d sc ρ X e (fun i σ₁ => ∃ k,i = .int k ∧ Q (.str (Txt.slice x Option.none (some k))) σ₁) σ₁) σ:=EvOk.str ⟨rfl,h⟩
 refine Subscript_ (Zib (h' env A fs F ι s hsc I) (fun o s₁ p => ?_) fun zz zz p => p)
 obtain ⟨v,σ₁,ι₁,⟨rfl,q⟩,rv,rp,ex,g,oo⟩:=p
 have I₁:=I.ext ex rp g oo
 refine wpAny_Slice ?_
 rw [evalPart_none,evalPart_some]
 refine Zjb (Zib (q env A fs F ι₁ s₁ hsc I₁) (fun y s₂ p => ?_) fun zz zz p => p.trans ex)
 obtain ⟨v₂,σ₂,ι₂,⟨k,rfl,q2⟩,rv₂,rp₂,ex₂,g₂,o₂⟩:=p
 have I₂:=I₁.ext ex₂ rp₂ g₂ o₂
 obtain ⟨t,rfl⟩:=rv.str_inv
 obtain ⟨u,rfl⟩:=rv₂.int_inv
 refine Zjb (subscriptTail_ops (T:="str") (typeIs_str _ x t) PySem.F.slot_str_getitem.lookup (wpAny_getItem_str_slice (l:=Option.none) (u:=some (k,u)) (st:=Option.none) ⟨_,Heap.get?_push_size _ rfl,rfl,rfl⟩ rfl (post_val_or_str ⟨Za (Txt.slice_le x _ _) hx,fun t2 k2 => ?_⟩)) rfl fun _ => rfl)
 have ep:=Ext.push T [] ι₂ s₂.heap { cls:=.type "slice",data:=.fields #[.none,.int k u,.none] }
 exact ⟨_,σ₂,ι₂,q2,.str_mk,I₂.rep.push _,ex.trans (ex₂.trans ep),I₂.gens,I₂.os⟩
end
end
section
noncomputable def isSignC (c:Nat):Bool:=c == 10 || c == 9 || (decide (32 ≤ c) && decide (c ≤ 126) && c != 37)
theorem sz (n:Nat) (h:Nat.ble n 1000 = true):n ≤ sizeLine:=Za (Nat.le_of_ble_eq_true h) (by decide)
theorem szo {n:Nat} (h:n ≤ 16777216):n ≤ sizeLine:=sizeLine_eq ▸ h
theorem len1 {α:Type} {l:List α} (h:l.length = 1):∃ a,l = [a]:=by
 cases l with
 | nil => cases h
 | cons a r => cases r with
   | nil => exact ⟨a,rfl⟩
   | cons b r => cases h
theorem len2 {α:Type} {l:List α} (h:l.length = 2):∃ a b,l = [a,b]:=by
 cases l with
 | nil => cases h
 | cons a r => obtain ⟨b,rfl⟩:=len1 (Nat.succ.inj h); exact ⟨a,b,rfl⟩
theorem len3 {α:Type} {l:List α} (h:l.length = 3):∃ a b c,l = [a,b,c]:=by
 cases l with
 | nil => cases h
 | cons a r => obtain ⟨b,c,rfl⟩:=len2 (Nat.succ.inj h); exact ⟨a,b,c,rfl⟩
theorem beq_ch {a b:Nat}:((⟨#[a]⟩:Str) == ⟨#[b]⟩) = (a == b):=by
 by_cases e:a = b
 · subst e; simp
 · have e2:(⟨#[a]⟩:Str) ≠ ⟨#[b]⟩:=fun q => e (by injection q with q; simpa using q)
   rw [beq_eq_false_iff_ne.mpr e2,beq_eq_false_iff_ne.mpr e]
set_option tactic.hygienic true in
end
set_option genSizeOf false
set_option genInjectivity false
section
inductive Pt where
 | sign (c:Nat)
 | span (a b:Nat)
 | any
 | rule (n:Str)
 | row (ps:List Pt)
 | alt (ps:List Pt)
 | many (p:Pt)
 | nt (p:Pt)
mutual
noncomputable def Pt.v:Pt → V
 | .sign c => .tup [.str "sign",.str ⟨#[c]⟩]
 | .span a b => .tup [.str "span",.str ⟨#[a]⟩,.str ⟨#[b]⟩]
 | .any => .tup [.str "any"]
 | .rule n => .tup [.str "rule",.str n]
 | .row ps => .tup [.str "row",.tup (Pt.vs ps)]
 | .alt ps => .tup [.str "or",.tup (Pt.vs ps)]
 | .many p => .tup [.str "many",p.v]
 | .nt p => .tup [.str "not",p.v]
noncomputable def Pt.vs:List Pt → List V
 | [] => []
 | p :: r => p.v :: Pt.vs r
end
theorem Pt.v1 (c:Nat):(Pt.sign c).v = V.tup [V.str (Str.ofString "sign"),V.str { cps:=#[c] }]:=rfl
theorem Pt.v2 (a b:Nat):(Pt.span a b).v = V.tup [V.str (Str.ofString "span"),V.str { cps:=#[a] },V.str { cps:=#[b] }]:=rfl
theorem Pt.v3:Pt.any.v = V.tup [V.str (Str.ofString "any")]:=rfl
theorem Pt.v4 (n:Str):(Pt.rule n).v = V.tup [V.str (Str.ofString "rule"),V.str n]:=rfl
theorem Pt.v5 (ps:List Pt):(Pt.row ps).v = V.tup [V.str (Str.ofString "row"),V.tup (Pt.vs ps)]:=rfl
theorem Pt.v6 (ps:List Pt):(Pt.alt ps).v = V.tup [V.str (Str.ofString "or"),V.tup (Pt.vs ps)]:=rfl
theorem Pt.v7 (p:Pt):p.many.v = V.tup [V.str (Str.ofString "many"),p.v]:=rfl
theorem Pt.v8 (p:Pt):p.nt.v = V.tup [V.str (Str.ofString "not"),p.v]:=rfl
theorem Pt.vs1:Pt.vs [] = []:=rfl
theorem Pt.vs2 (p:Pt) (r:List Pt):Pt.vs (p :: r) = p.v :: Pt.vs r:=rfl
theorem Pt.vs_map:∀ ps:List Pt,Pt.vs ps = ps.map Pt.v:=by
 intro xx
 induction xx with
 | nil =>
   simp [Pt.vs1]
 | cons p r ih =>
   simp [Pt.vs2,ih]
noncomputable def Pt.kids:Pt → List Pt
 | .row ps | .alt ps => ps
 | .many p | .nt p => [p]
 | .sign _ | .span _ _ | .any | .rule _ => []
theorem Pt.kids1 (ps:List Pt):(Pt.row ps).kids = ps:=rfl
theorem Pt.kids2 (ps:List Pt):(Pt.alt ps).kids = ps:=rfl
theorem Pt.kids3 (p:Pt):p.many.kids = [p]:=rfl
theorem Pt.kids4 (p:Pt):p.nt.kids = [p]:=rfl
theorem Pt.kids5 (c:Nat):(Pt.sign c).kids = []:=rfl
theorem Pt.kids6 (a b:Nat):(Pt.span a b).kids = []:=rfl
theorem Pt.kids7:Pt.any.kids = []:=rfl
theorem Pt.kids8 (n:Str):(Pt.rule n).kids = []:=rfl
noncomputable def Pt.word:Pt → Str
 | .sign z1 => "sign" | .span _ _ => "span" | .any => "any" | .rule _ => "rule" | .row _ => "row" | .alt _ => "or" | .many _ => "many" | .nt _ => "not"
theorem Pt.word1 (c:Nat):(Pt.sign c).word = Str.ofString "sign":=rfl
theorem Pt.word2 (a b:Nat):(Pt.span a b).word = Str.ofString "span":=rfl
theorem Pt.word3:Pt.any.word = Str.ofString "any":=rfl
theorem Pt.word4 (n:Str):(Pt.rule n).word = Str.ofString "rule":=rfl
theorem Pt.word5 (ps:List Pt):(Pt.row ps).word = Str.ofString "row":=rfl
theorem Pt.word6 (ps:List Pt):(Pt.alt ps).word = Str.ofString "or":=rfl
theorem Pt.word7 (p:Pt):p.many.word = Str.ofString "many":=rfl
theorem Pt.word8 (p:Pt):p.nt.word = Str.ofString "not":=rfl
mutual
noncomputable def Pt.deep:Pt → Nat
 | .row ps | .alt ps => Pt.deeps ps + 1
 | .many p | .nt p => p.deep + 1
 | .sign _ | .span _ _ | .any | .rule _ => 1
noncomputable def Pt.deeps:List Pt → Nat
 | [] => 0
 | p :: r => max p.deep (Pt.deeps r)
end
theorem Pt.deep1 (ps:List Pt):(Pt.row ps).deep = Pt.deeps ps + 1:=rfl
theorem Pt.deep2 (ps:List Pt):(Pt.alt ps).deep = Pt.deeps ps + 1:=rfl
theorem Pt.deep3 (p:Pt):p.many.deep = p.deep + 1:=rfl
theorem Pt.deep4 (p:Pt):p.nt.deep = p.deep + 1:=rfl
theorem Pt.deep5 (c:Nat):(Pt.sign c).deep = 1:=rfl
theorem Pt.deep6 (a b:Nat):(Pt.span a b).deep = 1:=rfl
theorem Pt.deep7:Pt.any.deep = 1:=rfl
theorem Pt.deep8 (n:Str):(Pt.rule n).deep = 1:=rfl
theorem Pt.deeps2 (p:Pt) (r:List Pt):Pt.deeps (p :: r) = max p.deep (Pt.deeps r):=rfl
mutual
noncomputable def Pt.size:Pt → Nat
 | .row ps | .alt ps => Pt.sizes ps + 1
 | .many p | .nt p => p.size + 1
 | .sign _ | .span _ _ | .any | .rule _ => 1
noncomputable def Pt.sizes:List Pt → Nat
 | [] => 0
 | p :: r => p.size + Pt.sizes r
end
theorem Pt.size1 (ps:List Pt):(Pt.row ps).size = Pt.sizes ps + 1:=rfl
theorem Pt.size2 (ps:List Pt):(Pt.alt ps).size = Pt.sizes ps + 1:=rfl
theorem Pt.size3 (p:Pt):p.many.size = p.size + 1:=rfl
theorem Pt.size4 (p:Pt):p.nt.size = p.size + 1:=rfl
theorem Pt.size5 (c:Nat):(Pt.sign c).size = 1:=rfl
theorem Pt.size6 (a b:Nat):(Pt.span a b).size = 1:=rfl
theorem Pt.size7:Pt.any.size = 1:=rfl
theorem Pt.size8 (n:Str):(Pt.rule n).size = 1:=rfl
theorem Pt.sizes1:Pt.sizes [] = 0:=rfl
theorem Pt.sizes2 (p:Pt) (r:List Pt):Pt.sizes (p :: r) = p.size + Pt.sizes r:=rfl
mutual
noncomputable def Pt.good:Pt → Bool
 | .sign c => isSignC c
 | .span a b => isSignC a && isSignC b && decide (a ≤ b)
 | .any => true
 | .rule z1 => true
 | .row ps => Pt.goods ps
 | .alt ps => !ps.isEmpty && Pt.goods ps
 | .many p | .nt p => p.good
noncomputable def Pt.goods:List Pt → Bool
 | [] => true
 | p :: r => p.good && Pt.goods r
end
theorem Pt.good1 (c:Nat):(Pt.sign c).good = isSignC c:=rfl
theorem Pt.good2 (a b:Nat):(Pt.span a b).good = (isSignC a && isSignC b && decide (a ≤ b)):=rfl
theorem Pt.good3:Pt.any.good = true:=rfl
theorem Pt.good4 (n:Str):(Pt.rule n).good = true:=rfl
theorem Pt.good5 (ps:List Pt):(Pt.row ps).good = Pt.goods ps:=rfl
theorem Pt.good6 (ps:List Pt):(Pt.alt ps).good = (!ps.isEmpty && Pt.goods ps):=rfl
theorem Pt.good7 (p:Pt):p.many.good = p.good:=rfl
theorem Pt.good8 (p:Pt):p.nt.good = p.good:=rfl
theorem Pt.goods1:Pt.goods [] = true:=rfl
theorem Pt.goods2 (p:Pt) (r:List Pt):Pt.goods (p :: r) = (p.good && Pt.goods r):=rfl
end
section
section
variable {σ r:Hp} {a b a':MObj}
theorem get0:(σ ++ a :: r)[σ.length]? = some a:=by simp
theorem set0:(σ ++ a :: r).set σ.length a' = σ ++ a' :: r:=by simp
theorem get1:(σ ++ a :: b :: r)[σ.length + 1]? = some b:=by
 rw [List.getElem?_append_right (by exact Zq (Zs (List.length σ)))]; simp
theorem set1:(σ ++ a :: b :: r).set (σ.length + 1) a' = σ ++ a :: a' :: r:=by
 rw [List.set_append_right _ _ (by exact Zq (Zs (List.length σ)))]; simp
end
inductive Pt.Asks:Pt → Str → Prop where
 | here {n:Str}:Pt.Asks (.rule n) n
 | deep {p q:Pt} {n:Str}:q ∈ p.kids → Pt.Asks q n → Pt.Asks p n
theorem Pt.size_pos (p:Pt):1 ≤ p.size:=by cases p <;> simp [Pt.size1,Pt.size2,Pt.size3,Pt.size4,Pt.size5,Pt.size6,Pt.size7,Pt.size8]
theorem Pt.sizes_append:∀ a b:List Pt,Pt.sizes (a ++ b) = Pt.sizes a + Pt.sizes b:=by
 intro xx
 induction xx with
 | nil =>
   intro b
   simp [Pt.sizes1]
 | cons p r ih =>
   intro b
   simp [Pt.sizes2,ih b]; lia
theorem Pt.kids_size (p:Pt):Pt.sizes p.kids + 1 ≤ p.size:=by
 cases p <;> simp [Pt.kids1,Pt.kids2,Pt.kids3,Pt.kids4,Pt.kids5,Pt.kids6,Pt.kids7,Pt.kids8,Pt.size1,Pt.size2,Pt.size3,Pt.size4,Pt.size5,Pt.size6,Pt.size7,Pt.size8,Pt.sizes1,Pt.sizes2]
theorem Pt.deep_pos (p:Pt):1 ≤ p.deep:=by cases p <;> simp [Pt.deep1,Pt.deep2,Pt.deep3,Pt.deep4,Pt.deep5,Pt.deep6,Pt.deep7,Pt.deep8]
theorem Pt.deeps_mem {ps:List Pt} {p:Pt} (h:p ∈ ps):p.deep ≤ Pt.deeps ps:=by
 induction ps with
 | nil => cases h
 | cons a r ih =>
   rw [Pt.deeps2]
   rcases Zg.mp h with rfl | h
   · exact Nat.le_max_left ..
   · exact Za (ih h) (Nat.le_max_right ..)
theorem Pt.goods_mem {ps:List Pt} {p:Pt} (hg:Pt.goods ps = true) (h:p ∈ ps):p.good = true:=by
 induction ps with
 | nil => cases h
 | cons a r ih =>
   rw [Pt.goods2,Zob] at hg
   rcases Zg.mp h with rfl | h
   · exact hg.1
   · exact ih hg.2 h
theorem Pt.kids_deep {p q:Pt} (h:q ∈ p.kids):q.deep + 1 ≤ p.deep:=by
 cases p <;> simp only [Pt.kids1,Pt.kids2,Pt.kids3,Pt.kids4,Pt.kids5,Pt.kids6,Pt.kids7,Pt.kids8,List.not_mem_nil,Zj] at h
 · rw [Pt.deep1]; exact Nat.succ_le_succ (Pt.deeps_mem h)
 · rw [Pt.deep2]; exact Nat.succ_le_succ (Pt.deeps_mem h)
 · subst h; rw [Pt.deep3]; exact Zl _
 · subst h; rw [Pt.deep4]; exact Zl _
noncomputable def Pt.few:Pt → Prop:=fun p => p.kids.length < 1000
inductive Pt.All (P:Pt → Prop):Pt → Prop where
 | mk {p:Pt}:P p → (∀ q ∈ p.kids,Pt.All P q) → Pt.All P p
noncomputable def Pt.rest:Pt → List V
 | .sign c => [.str ⟨#[c]⟩] | .span a b => [.str ⟨#[a]⟩,.str ⟨#[b]⟩] | .any => [] | .rule n => [.str n] | .row ps => [.tup (Pt.vs ps)] | .alt ps => [.tup (Pt.vs ps)] | .many p => [p.v] | .nt p => [p.v]
theorem Pt.head (p:Pt):p.v = .tup (.str p.word :: p.rest):=by
 cases p <;> simp only [Pt.v1,Pt.v2,Pt.v3,Pt.v4,Pt.v5,Pt.v6,Pt.v7,Pt.v8,Pt.word1,Pt.word2,Pt.word3,Pt.word4,Pt.word5,Pt.word6,Pt.word7,Pt.word8,Pt.rest]
theorem Pt.word_rule {p:Pt} (h:p.word = "rule"):∃ n,p = .rule n:=by
 cases p <;> first | exact ⟨_,rfl⟩ | (have h':=h; simp only [Pt.word1,Pt.word2,Pt.word3,Pt.word5,Pt.word6,Pt.word7,Pt.word8] at h'; exact absurd h' (by decide +kernel))
noncomputable def isLetter (c:Nat):Bool:=decide (97 ≤ c) && decide (c ≤ 122)
theorem letters_in:((List.range 123).all fun c => !isLetter c || strIn ⟨#[c]⟩ (Str.ofString "abcdefghijklmnopqrstuvwxyz")) = true:=by decide +kernel
theorem letter_in {c:Nat} (h:isLetter c = true):strIn ⟨#[c]⟩ (Str.ofString "abcdefghijklmnopqrstuvwxyz") = true:=by
 have hc:c < 123:=by simp [isLetter] at h; lia
 have:=List.all_eq_true.mp letters_in c (by simpa using hc)
 simpa [h] using this
noncomputable def isName (x:Str):Bool:=decide (1 ≤ x.length) && decide (x.length ≤ 12) && x.cps.toList.all isLetter
noncomputable abbrev ruleV (r:Str × Pt):V:=.tup [.str r.1,r.2.v]
structure GoodRule (names:List Str) (r:Str × Pt):Prop where
 name:isName r.1 = true
 good:r.2.good = true
 deep:r.2.deep ≤ 12
 few:Pt.All Pt.few r.2
 size:r.2.size < 100000
 asks:∀ n,r.2.Asks n → n ∈ names
structure GoodRules (rs:List (Str × Pt)):Prop where
 one:1 ≤ rs.length
 most:rs.length ≤ 40
 nodup:(rs.map (·.1)).Nodup
 all:∀ r ∈ rs,GoodRule (rs.map (·.1)) r
noncomputable def metKV (ns:List Str):List (Str × V):=ns.map fun n => (n,.bool true)
theorem metKV_any {ns:List Str} {n:Str}:((metKV ns).any fun kv => decide (kv.1 = n)) = decide (n ∈ ns):=by
 rw [Bool.eq_iff_iff]; simp [metKV]
theorem metKV_set {ns:List Str} {n:Str} (h:n ∉ ns):setKV (metKV ns) n (.bool true) = metKV (ns ++ [n]):=by
 unfold setKV; rw [metKV_any,if_neg (by simpa using h)]; simp [metKV]
theorem nodup_take {α:Type} {rs:List α} {f:α → Str} {i:Nat} {r:α} (h:(rs.map f).Nodup) (hr:rs[i]? = some r):f r ∉ (rs.take i).map f:=fun hmem => by
 obtain ⟨r',hr',e⟩:=Zsb.mp hmem
 obtain ⟨j,hj,e2⟩:=List.getElem_of_mem hr'
 simp only [List.length_take] at hj
 rw [List.getElem_take] at e2
 obtain ⟨hi1,hi2⟩:=Zb.mp hr
 have:=List.pairwise_iff_getElem.mp h j i (by simp; (clear hi1 hi2 hr e2; lia)) (by simpa using hi1) (by (clear hi1 hi2 hr e2; lia))
 simp [e2,hi2,e] at this
theorem take_next {α:Type} {rs:List α} {i:Nat} {r:α} (hr:rs[i]? = some r):rs.take (i + 1) = rs.take i ++ [r]:=by
 rw [List.take_add_one,hr]; rfl
end
section
mutual
noncomputable def Pt.may (B:Str → Bool):Pt → Bool
 | .many _ | .nt _ => true
 | .rule n => B n
 | .row ps => Pt.mayAll B ps
 | .alt ps => Pt.mayAny B ps
 | .sign _ | .span _ _ | .any => false
noncomputable def Pt.mayAll (B:Str → Bool):List Pt → Bool
 | [] => true
 | p :: r => p.may B && Pt.mayAll B r
noncomputable def Pt.mayAny (B:Str → Bool):List Pt → Bool
 | [] => false
 | p :: r => p.may B || Pt.mayAny B r
end
theorem Pt.may1 (B:Str → Bool) (p:Pt):Pt.may B p.many = true:=rfl
theorem Pt.may2 (B:Str → Bool) (p:Pt):Pt.may B p.nt = true:=rfl
theorem Pt.may3 (B:Str → Bool) (n:Str):Pt.may B (Pt.rule n) = B n:=rfl
theorem Pt.may4 (B:Str → Bool) (ps:List Pt):Pt.may B (Pt.row ps) = Pt.mayAll B ps:=rfl
theorem Pt.may5 (B:Str → Bool) (ps:List Pt):Pt.may B (Pt.alt ps) = Pt.mayAny B ps:=rfl
theorem Pt.may6 (B:Str → Bool) (c:Nat):Pt.may B (Pt.sign c) = false:=rfl
theorem Pt.may7 (B:Str → Bool) (a b:Nat):Pt.may B (Pt.span a b) = false:=rfl
theorem Pt.may8 (B:Str → Bool):Pt.may B Pt.any = false:=rfl
theorem Pt.mayAll1 (B:Str → Bool):Pt.mayAll B [] = true:=rfl
theorem Pt.mayAll2 (B:Str → Bool) (p:Pt) (r:List Pt):Pt.mayAll B (p :: r) = (Pt.may B p && Pt.mayAll B r):=rfl
theorem Pt.mayAny1 (B:Str → Bool):Pt.mayAny B [] = false:=rfl
theorem Pt.mayAny2 (B:Str → Bool) (p:Pt) (r:List Pt):Pt.mayAny B (p :: r) = (Pt.may B p || Pt.mayAny B r):=rfl
theorem Pt.mayAll_eq (B:Str → Bool):∀ ps,Pt.mayAll B ps = ps.all (Pt.may B)
 | [] => by simp [Pt.mayAll1]
 | p :: r => by simp [Pt.mayAll2,Pt.mayAll_eq B r]
theorem Pt.mayAny_eq (B:Str → Bool):∀ ps,Pt.mayAny B ps = ps.any (Pt.may B)
 | [] => by simp [Pt.mayAny1]
 | p :: r => by simp [Pt.mayAny2,Pt.mayAny_eq B r]
mutual
theorem Pt.may_mono {B C:Str → Bool} (h:∀ x,B x = true → C x = true):∀ p:Pt,p.may B = true → p.may C = true
 | .sign _,q | .span _ _,q | .any,q => by simp [Pt.may6,Pt.may7,Pt.may8] at q
 | .rule n,q => by simp only [Pt.may3] at q ⊢; exact h n q
 | .row ps,q => by simp only [Pt.may4] at q ⊢; exact Pt.mayAll_mono h ps q
 | .alt ps,q => by simp only [Pt.may5] at q ⊢; exact Pt.mayAny_mono h ps q
 | .many _,_ | .nt _,_ => by simp [Pt.may1,Pt.may2]
theorem Pt.mayAll_mono {B C:Str → Bool} (h:∀ x,B x = true → C x = true):∀ ps:List Pt,Pt.mayAll B ps = true → Pt.mayAll C ps = true
 | [],z1 => by simp [Pt.mayAll1]
 | p :: r,q => by
   simp only [Pt.mayAll2,Zob] at q ⊢
   exact ⟨Pt.may_mono h p q.1,Pt.mayAll_mono h r q.2⟩
theorem Pt.mayAny_mono {B C:Str → Bool} (h:∀ x,B x = true → C x = true):∀ ps:List Pt,Pt.mayAny B ps = true → Pt.mayAny C ps = true
 | [],q => by simp [Pt.mayAny1] at q
 | p :: r,q => by
   simp only [Pt.mayAny2,Bool.or_eq_true] at q ⊢
   rcases q with q | q
   · exact .inl (Pt.may_mono h p q)
   · exact .inr (Pt.mayAny_mono h r q)
end
noncomputable def inB (bs:List Str):Str → Bool:=fun x => decide (x ∈ bs)
theorem inB_iff {bs:List Str} {x:Str}:inB bs x = true ↔ x ∈ bs:=by simp [inB]
noncomputable def turnE (rs:List (Str × Pt)) (E:List Str):List Str:=(rs.filter fun r => r.2.may (inB E)).map (·.1)
noncomputable def turnsE (rs:List (Str × Pt)):Nat → List Str
 | 0 => []
 | n + 1 => turnE rs (turnsE rs n)
structure Bare (rs:List (Str × Pt)) (bs:List Str):Prop where
 sub:∀ x ∈ bs,x ∈ rs.map (·.1)
 closed:∀ r ∈ rs,r.2.may (inB bs) = true → r.1 ∈ bs
 least:∀ S:Str → Bool,(∀ r ∈ rs,r.2.may S = true → S r.1 = true) → ∀ x ∈ bs,S x = true
section
variable {rs:List (Str × Pt)}
theorem mem_turnE {E:List Str} {x:Str}:x ∈ turnE rs E ↔ ∃ r ∈ rs,r.2.may (inB E) = true ∧ r.1 = x:=by
 simp only [turnE,Zsb,List.mem_filter]
 constructor
 · rintro ⟨r,⟨h1,h2⟩,h3⟩; exact ⟨r,h1,h2,h3⟩
 · rintro ⟨r,h1,h2,h3⟩; exact ⟨r,⟨h1,h2⟩,h3⟩
theorem turnE_mono {E F:List Str} (h:∀ x ∈ E,x ∈ F):∀ x ∈ turnE rs E,x ∈ turnE rs F:=fun x hx => by
 rw [mem_turnE] at hx ⊢
 obtain ⟨r,h1,h2,h3⟩:=hx
 exact ⟨r,h1,Pt.may_mono (fun y hy => inB_iff.mpr (h y (inB_iff.mp hy))) _ h2,h3⟩
theorem turnsE_up:∀ n,∀ x ∈ turnsE rs n,x ∈ turnsE rs (n + 1)
 | 0,x,hx => by cases hx
 | n + 1,x,hx => turnE_mono (turnsE_up n) x hx
theorem turnE_sub {E F:List Str} (h:∀ x ∈ E,x ∈ F):(turnE rs E).Sublist (turnE rs F):=by
 unfold turnE
 refine List.Sublist.map _ ?_
 induction rs with
 | nil => simp
 | cons r t ih =>
   simp only [List.filter_cons]
   by_cases h1:r.2.may (inB E) = true
   · have h2:=Pt.may_mono (fun y hy => inB_iff.mpr (h y (inB_iff.mp hy))) _ h1
     rw [if_pos h1,if_pos h2]; exact ih.cons_cons _
   · rw [if_neg h1]
     split
     · exact ih.cons _
     · exact ih
theorem turnsE_grow:∀ n,turnsE rs (n + 1) = turnsE rs n ∨ (turnsE rs n).length + 1 ≤ (turnsE rs (n + 1)).length:=fun n => by
 have hs:(turnsE rs n).Sublist (turnsE rs (n + 1)):=by
   cases n with
   | zero => exact List.nil_sublist _
   | succ n => exact turnE_sub (turnsE_up n)
 rcases Nat.lt_or_ge (turnsE rs n).length (turnsE rs (n + 1)).length with h | h
 · exact .inr h
 · exact .inl (hs.eq_of_length_le h).symm
theorem turnsE_fix:∀ n,turnsE rs (n + 1) = turnsE rs n ∨ n + 1 ≤ (turnsE rs (n + 1)).length
 | 0 => by
   rcases turnsE_grow (rs:=rs) 0 with h | h
   · exact .inl h
   · exact .inr (by exact h)
 | n + 1 => by
   rcases turnsE_fix n with h | h
   · left; show turnE rs (turnsE rs (n + 1)) = turnE rs (turnsE rs n); rw [h]
   · rcases turnsE_grow (rs:=rs) (n + 1) with g | g
     · exact .inl g
     · exact .inr (by lia)
theorem turnsE_end:turnE rs (turnsE rs rs.length) = turnsE rs rs.length:=by
 rcases turnsE_fix (rs:=rs) rs.length with h | h
 · exact h
 · have:(turnE rs (turnsE rs rs.length)).length ≤ rs.length:=by
     unfold turnE; rw [Zc]; exact List.length_filter_le ..
   exact absurd h (by show ¬ (rs.length + 1 ≤ (turnE rs (turnsE rs rs.length)).length); (clear h; lia))
end
end
section
mutual
noncomputable def Pt.ahd (B:Str → Bool):Pt → List Str
 | .rule n => [n]
 | .row ps => Pt.ahdRow B ps
 | .alt ps => Pt.ahdAlt B ps
 | .many p | .nt p => p.ahd B
 | .sign _ | .span _ _ | .any => []
noncomputable def Pt.ahdRow (B:Str → Bool):List Pt → List Str
 | [] => []
 | p :: r => p.ahd B ++ if p.may B then Pt.ahdRow B r else []
noncomputable def Pt.ahdAlt (B:Str → Bool):List Pt → List Str
 | [] => []
 | p :: r => p.ahd B ++ Pt.ahdAlt B r
end
theorem Pt.ahd1 (B:Str → Bool) (n:Str):Pt.ahd B (Pt.rule n) = [n]:=rfl
theorem Pt.ahd2 (B:Str → Bool) (ps:List Pt):Pt.ahd B (Pt.row ps) = Pt.ahdRow B ps:=rfl
theorem Pt.ahd3 (B:Str → Bool) (ps:List Pt):Pt.ahd B (Pt.alt ps) = Pt.ahdAlt B ps:=rfl
theorem Pt.ahd4 (B:Str → Bool) (p:Pt):Pt.ahd B p.many = Pt.ahd B p:=rfl
theorem Pt.ahd5 (B:Str → Bool) (p:Pt):Pt.ahd B p.nt = Pt.ahd B p:=rfl
theorem Pt.ahd6 (B:Str → Bool) (c:Nat):Pt.ahd B (Pt.sign c) = []:=rfl
theorem Pt.ahd7 (B:Str → Bool) (a b:Nat):Pt.ahd B (Pt.span a b) = []:=rfl
theorem Pt.ahd8 (B:Str → Bool):Pt.ahd B Pt.any = []:=rfl
theorem Pt.ahdRow1 (B:Str → Bool):Pt.ahdRow B [] = []:=rfl
theorem Pt.ahdRow2 (B:Str → Bool) (p:Pt) (r:List Pt):Pt.ahdRow B (p :: r) = Pt.ahd B p ++ if Pt.may B p = true then Pt.ahdRow B r else []:=rfl
theorem Pt.ahdAlt1 (B:Str → Bool):Pt.ahdAlt B [] = []:=rfl
theorem Pt.ahdAlt2 (B:Str → Bool) (p:Pt) (r:List Pt):Pt.ahdAlt B (p :: r) = Pt.ahd B p ++ Pt.ahdAlt B r:=rfl
mutual
theorem Pt.ahd_size (B:Str → Bool):∀ p:Pt,(p.ahd B).length ≤ p.size
 | .sign _ | .span _ _ | .any | .rule _ => by simp [Pt.ahd1,Pt.ahd6,Pt.ahd7,Pt.ahd8,Pt.size5,Pt.size6,Pt.size7,Pt.size8]
 | .row ps => by have:=Pt.ahdRow_size B ps; simp only [Pt.ahd2,Pt.size1]; exact Zeb this
 | .alt ps => by have:=Pt.ahdAlt_size B ps; simp only [Pt.ahd3,Pt.size2]; exact Zeb this
 | .many p | .nt p => by have:=Pt.ahd_size B p; simp only [Pt.ahd4,Pt.ahd5,Pt.size3,Pt.size4]; exact Zeb this
theorem Pt.ahdRow_size (B:Str → Bool):∀ ps:List Pt,(Pt.ahdRow B ps).length ≤ Pt.sizes ps
 | [] => by simp [Pt.ahdRow1]
 | p :: r => by
   have h1:=Pt.ahd_size B p
   have h2:=Pt.ahdRow_size B r
   simp only [Pt.ahdRow2,Pt.sizes2,Zf]
   split
   · lia
   · simp; (clear h2; lia)
theorem Pt.ahdAlt_size (B:Str → Bool):∀ ps:List Pt,(Pt.ahdAlt B ps).length ≤ Pt.sizes ps
 | [] => by simp [Pt.ahdAlt1]
 | p :: r => by
   have h1:=Pt.ahd_size B p
   have h2:=Pt.ahdAlt_size B r
   simp only [Pt.ahdAlt2,Pt.sizes2,Zf]; lia
end
mutual
noncomputable def Pt.ok (P:Str → Prop):Pt → Prop
 | .sign c => isSignC c = true
 | .span a b => isSignC a = true ∧ isSignC b = true ∧ a ≤ b
 | .any => True
 | .rule n => P n
 | .row ps => ps.length < 1000 ∧ Pt.oks P ps
 | .alt ps => ps ≠ [] ∧ ps.length < 1000 ∧ Pt.oks P ps
 | .many p | .nt p => p.ok P
noncomputable def Pt.oks (P:Str → Prop):List Pt → Prop
 | [] => True
 | p :: r => p.ok P ∧ Pt.oks P r
end
theorem Pt.ok1 (P:Str → Prop) (c:Nat):Pt.ok P (Pt.sign c) = (isSignC c = true):=rfl
theorem Pt.ok2 (P:Str → Prop) (a b:Nat):Pt.ok P (Pt.span a b) = (isSignC a = true ∧ isSignC b = true ∧ a ≤ b):=rfl
theorem Pt.ok3 (P:Str → Prop):Pt.ok P Pt.any = True:=rfl
theorem Pt.ok4 (P:Str → Prop) (n:Str):Pt.ok P (Pt.rule n) = P n:=rfl
theorem Pt.ok5 (P:Str → Prop) (ps:List Pt):Pt.ok P (Pt.row ps) = (ps.length < 1000 ∧ Pt.oks P ps):=rfl
theorem Pt.ok6 (P:Str → Prop) (ps:List Pt):Pt.ok P (Pt.alt ps) = (ps ≠ [] ∧ ps.length < 1000 ∧ Pt.oks P ps):=rfl
theorem Pt.ok7 (P:Str → Prop) (p:Pt):Pt.ok P p.many = Pt.ok P p:=rfl
theorem Pt.ok8 (P:Str → Prop) (p:Pt):Pt.ok P p.nt = Pt.ok P p:=rfl
theorem Pt.oks1 (P:Str → Prop):Pt.oks P [] = True:=rfl
theorem Pt.oks2 (P:Str → Prop) (p:Pt) (r:List Pt):Pt.oks P (p :: r) = (Pt.ok P p ∧ Pt.oks P r):=rfl
theorem Pt.oks_mem {P:Str → Prop} {ps:List Pt} (h:Pt.oks P ps):∀ q ∈ ps,q.ok P:=by
 induction ps with
 | nil => intro q hq; cases hq
 | cons a r ih =>
   intro q hq
   rw [Pt.oks2] at h
   rcases Zg.mp hq with rfl | hq
   · exact h.1
   · exact ih h.2 q hq
theorem Pt.ok_kids {P:Str → Prop} {p:Pt} (h:p.ok P):∀ q ∈ p.kids,q.ok P:=by
 intro q hq
 cases p <;> simp only [Pt.kids1,Pt.kids2,Pt.kids3,Pt.kids4,Pt.kids5,Pt.kids6,Pt.kids7,Pt.kids8,List.not_mem_nil,Zj] at hq
 · rw [Pt.ok5] at h; exact Pt.oks_mem h.2 q hq
 · rw [Pt.ok6] at h; exact Pt.oks_mem h.2.2 q hq
 · subst hq; rw [Pt.ok7] at h; exact h
 · subst hq; rw [Pt.ok8] at h; exact h
mutual
theorem Pt.ok_good {P:Str → Prop}:∀ p:Pt,p.ok P → p.good = true
 | .sign c,h => by simpa only [Pt.ok1,Pt.ok2,Pt.ok3,Pt.ok4,Pt.ok5,Pt.ok6,Pt.ok7,Pt.ok8,Pt.good1,Pt.good2,Pt.good3,Pt.good4,Pt.good5,Pt.good6,Pt.good7,Pt.good8] using h
 | .span a b,h => by simp only [Pt.ok2] at h; simp [Pt.good2,h]
 | .any,_ | .rule _,_ => by simp [Pt.good3,Pt.good4]
 | .row ps,h => by simp only [Pt.ok5] at h; simp only [Pt.good5]; exact Pt.oks_good ps h.2
 | .alt ps,h => by simp only [Pt.ok6] at h; simp only [Pt.good6,Zob]; exact ⟨by simpa using h.1,Pt.oks_good ps h.2.2⟩
 | .many p,h | .nt p,h => by simp only [Pt.ok7,Pt.ok8] at h; simp only [Pt.good7,Pt.good8]; exact Pt.ok_good p h
theorem Pt.oks_good {P:Str → Prop}:∀ ps:List Pt,Pt.oks P ps → Pt.goods ps = true
 | [],z1 => by simp [Pt.goods1]
 | p :: r,h => by simp only [Pt.oks2] at h; simp only [Pt.goods2,Zob]; exact ⟨Pt.ok_good p h.1,Pt.oks_good r h.2⟩
end
theorem Pt.ok_few {P:Str → Prop}:∀ (n:Nat) (p:Pt),p.deep ≤ n → p.ok P → Pt.All Pt.few p
 | 0,p,hn,z1 => absurd (Pt.deep_pos p) (by lia)
 | n + 1,p,hn,h => ⟨by
     show p.kids.length < 1000
     cases p <;> simp only [Pt.kids1,Pt.kids2,Pt.kids3,Pt.kids4,Pt.kids5,Pt.kids6,Pt.kids7,Pt.kids8,List.length_nil,List.length_singleton] <;> first | (clear hn; exact Zgb (id (Eq.refl true))) | (simp only [Pt.ok5,Pt.ok6] at h; first | exact h.1 | exact h.2.1),
   fun q hq => Pt.ok_few n q (by have:=Pt.kids_deep hq; lia) (Pt.ok_kids h q hq)⟩
theorem Pt.ok_asks {P:Str → Prop} {p:Pt} {n:Str} (h:p.Asks n):p.ok P → P n:=by
 induction h with
 | here => intro h; simpa only [Pt.ok1,Pt.ok2,Pt.ok3,Pt.ok4,Pt.ok5,Pt.ok6,Pt.ok7,Pt.ok8] using h
 | deep hq z1 ih => intro h; exact ih (Pt.ok_kids h _ hq)
mutual
theorem Pt.ok_mono {P R:Str → Prop} (hm:∀ n,P n → R n):∀ p:Pt,p.ok P → p.ok R
 | .sign c,h => by simpa only [Pt.ok1,Pt.ok2,Pt.ok3,Pt.ok4,Pt.ok5,Pt.ok6,Pt.ok7,Pt.ok8] using h
 | .span a b,h => by simpa only [Pt.ok1,Pt.ok2,Pt.ok3,Pt.ok4,Pt.ok5,Pt.ok6,Pt.ok7,Pt.ok8] using h
 | .any,z1 => by simp [Pt.ok3]
 | .rule z1,h => by simp only [Pt.ok4] at h ⊢; exact hm _ h
 | .row ps,h => by simp only [Pt.ok5] at h ⊢; exact ⟨h.1,Pt.oks_mono hm ps h.2⟩
 | .alt ps,h => by simp only [Pt.ok6] at h ⊢; exact ⟨h.1,h.2.1,Pt.oks_mono hm ps h.2.2⟩
 | .many p,h | .nt p,h => by simp only [Pt.ok7,Pt.ok8] at h ⊢; exact Pt.ok_mono hm p h
theorem Pt.oks_mono {P R:Str → Prop} (hm:∀ n,P n → R n):∀ ps:List Pt,Pt.oks P ps → Pt.oks R ps
 | [],z1 => by simp [Pt.oks1]
 | p :: r,h => by simp only [Pt.oks2] at h ⊢; exact ⟨Pt.ok_mono hm p h.1,Pt.oks_mono hm r h.2⟩
end
mutual
theorem Pt.ok_ahd {P:Str → Prop} (B:Str → Bool):∀ p:Pt,p.ok P → ∀ n ∈ p.ahd B,P n
 | .sign _,_ | .span _ _,_ | .any,_ => by simp [Pt.ahd6,Pt.ahd7,Pt.ahd8]
 | .rule m,h => by simp only [Pt.ok4] at h; simpa [Pt.ahd1,Pt.ahd2,Pt.ahd3,Pt.ahd4,Pt.ahd5,Pt.ahd6,Pt.ahd7,Pt.ahd8] using h
 | .row ps,h => by simp only [Pt.ok5] at h; simp only [Pt.ahd2]; exact Pt.oks_ahdRow B ps h.2
 | .alt ps,h => by simp only [Pt.ok6] at h; simp only [Pt.ahd3]; exact Pt.oks_ahdAlt B ps h.2.2
 | .many p,h | .nt p,h => by simp only [Pt.ok7,Pt.ok8] at h; simp only [Pt.ahd4,Pt.ahd5]; exact Pt.ok_ahd B p h
theorem Pt.oks_ahdRow {P:Str → Prop} (B:Str → Bool):∀ ps:List Pt,Pt.oks P ps → ∀ n ∈ Pt.ahdRow B ps,P n
 | [],z1 => by simp [Pt.ahdRow1]
 | p :: r,h => by
   simp only [Pt.oks2] at h
   intro n hn
   simp only [Pt.ahdRow2,Zm] at hn
   rcases hn with hn | hn
   · exact Pt.ok_ahd B p h.1 n hn
   · split at hn
     · exact Pt.oks_ahdRow B r h.2 n hn
     · cases hn
theorem Pt.oks_ahdAlt {P:Str → Prop} (B:Str → Bool):∀ ps:List Pt,Pt.oks P ps → ∀ n ∈ Pt.ahdAlt B ps,P n
 | [],z1 => by simp [Pt.ahdAlt1]
 | p :: r,h => by
   simp only [Pt.oks2] at h
   intro n hn
   simp only [Pt.ahdAlt2,Zm] at hn
   rcases hn with hn | hn
   · exact Pt.ok_ahd B p h.1 n hn
   · exact Pt.oks_ahdAlt B r h.2 n hn
end
noncomputable def Lead (rs:List (Str × Pt)) (B:Str → Bool) (x y:Str):Prop:=∃ r ∈ rs,r.1 = x ∧ y ∈ r.2.ahd B
inductive Rch (rs:List (Str × Pt)) (B:Str → Bool) (x:Str):Str → Prop where
 | one {y:Str}:Lead rs B x y → Rch rs B x y
 | more {y z:Str}:Rch rs B x y → Lead rs B y z → Rch rs B x z
noncomputable def Later (rs:List (Str × Pt)):Prop:=∀ (i:Nat) (r:Str × Pt),rs[i]? = some r → ∀ (B:Str → Bool),∀ y ∈ r.2.ahd B,∃ (j:Nat) (r':Str × Pt),i < j ∧ rs[j]? = some r' ∧ r'.1 = y
theorem name_at {rs:List (Str × Pt)} (hn:(rs.map (·.1)).Nodup) {i j:Nat} {r r':Str × Pt} (h:rs[i]? = some r) (h':rs[j]? = some r') (e:r.1 = r'.1):i = j:=by
 obtain ⟨h1,rfl⟩:=Zb.mp h
 obtain ⟨h2,rfl⟩:=Zb.mp h'
 rcases Nat.lt_trichotomy i j with g | g | g
 · have:=List.pairwise_iff_getElem.mp hn i j (by simpa using h1) (by simpa using h2) g
   simp [e] at this
 · exact g
 · have:=List.pairwise_iff_getElem.mp hn j i (by simpa using h2) (by simpa using h1) g
   simp [e] at this
theorem Later.rch {rs:List (Str × Pt)} (hl:Later rs) (hn:(rs.map (·.1)).Nodup) {B:Str → Bool} {x y:Str} (h:Rch rs B x y):∀ (i:Nat) (r:Str × Pt),rs[i]? = some r → r.1 = x → ∃ (j:Nat) (r':Str × Pt),i < j ∧ rs[j]? = some r' ∧ r'.1 = y:=by
 have lead:∀ {a b:Str} {i:Nat} {r:Str × Pt},rs[i]? = some r → r.1 = a → Lead rs B a b → ∃ (j:Nat) (r':Str × Pt),i < j ∧ rs[j]? = some r' ∧ r'.1 = b:=by
   intro a b i r h1 h2 ⟨r',h3,h4,h5⟩
   obtain ⟨k,h6⟩:=List.mem_iff_getElem?.mp h3
   have e:=name_at hn h1 h6 (by rw [h2,h4])
   subst e
   exact hl i r' h6 B _ h5
 induction h with
 | one h => exact fun i r h1 h2 => lead h1 h2 h
 | more z1 h ih =>
   intro i r h1 h2
   obtain ⟨j,r',g1,g2,g3⟩:=ih i r h1 h2
   obtain ⟨k,r'',f1,f2,f3⟩:=lead g2 g3 h
   exact ⟨k,r'',by (clear f2 g2 lead ih h1; exact Zq (Zk g1 f1)),f2,f3⟩
theorem Later.no {rs:List (Str × Pt)} (hl:Later rs) (hn:(rs.map (·.1)).Nodup) {B:Str → Bool} {r:Str × Pt} (hr:r ∈ rs):¬ Rch rs B r.1 r.1:=fun h => by
 obtain ⟨i,hi⟩:=List.mem_iff_getElem?.mp hr
 obtain ⟨j,r',g1,g2,g3⟩:=hl.rch hn h i r hi rfl
 have:=name_at hn hi g2 g3.symm
 (clear g2 hi; exact Nat.ne_of_gt g1 (id (Eq.symm this)))
end
section
noncomputable def Piece (P:Str → Prop) (n s:Nat) (p:Pt):Prop:=p.ok P ∧ p.deep ≤ n ∧ p.size ≤ s
structure Pcw (P:Str → Prop) (s n c k:Nat) (p:Pt):Prop where
 ok:p.ok P
 deep:p.deep ≤ n
 size:p.size ≤ c * s + k
structure Pcs (P:Str → Prop) (s n c k l:Nat) (ps:List Pt):Prop where
 ok:Pt.oks P ps
 deep:Pt.deeps ps ≤ n
 size:Pt.sizes ps ≤ c * s + k
 len:ps.length = l
section
variable {P:Str → Prop} {s n c k c' k' l:Nat} {p:Pt} {ps:List Pt}
theorem Pcs.nil:Pcs P s n 0 0 0 []:=⟨(trivial:True),Zkb n,Zkb _,rfl⟩
theorem Pcs.cons (h:Pcw P s n c k p) (t:Pcs P s n c' k' l ps):Pcs P s n (c + c') (k + k') (l + 1) (p :: ps) :=
 ⟨(⟨h.ok,t.ok⟩:p.ok P ∧ Pt.oks P ps),(Nat.max_le.mpr ⟨h.deep,t.deep⟩:max p.deep (Pt.deeps ps) ≤ n),Za (Zcb h.size t.size:p.size + Pt.sizes ps ≤ _) (Zr (by rw [Nat.add_mul,Nat.add_add_add_comm])),congrArg Nat.succ t.len⟩
theorem Pcs.row (h:Pcs P s n c k l ps) (hl:Nat.ble l 9 = true):Pcw P s (n + 1) c (k + 1) (.row ps) :=
 ⟨(⟨h.len ▸ Zk (Nat.le_of_ble_eq_true hl) (by decide),h.ok⟩:ps.length < 1000 ∧ Pt.oks P ps),Nat.succ_le_succ h.deep,Nat.succ_le_succ h.size⟩
theorem Pcs.alt (h:Pcs P s n c k (l + 1) ps) (hl:Nat.ble (l + 1) 9 = true):Pcw P s (n + 1) c (k + 1) (.alt ps) :=
 ⟨(⟨fun e => (Nat.succ_ne_zero l) (h.len.symm.trans (congrArg List.length e)),h.len ▸ Zk (Nat.le_of_ble_eq_true hl) (by decide),h.ok⟩:ps ≠ [] ∧ ps.length < 1000 ∧ Pt.oks P ps),Nat.succ_le_succ h.deep,Nat.succ_le_succ h.size⟩
theorem Pcw.many (h:Pcw P s n c k p):Pcw P s (n + 1) c (k + 1) (.many p):=⟨h.ok,Nat.succ_le_succ h.deep,Nat.succ_le_succ h.size⟩
theorem Pcw.nt (h:Pcw P s n c k p):Pcw P s (n + 1) c (k + 1) (.nt p):=⟨h.ok,Nat.succ_le_succ h.deep,Nat.succ_le_succ h.size⟩
theorem Pcw.any (h:1 ≤ n):Pcw P s n 0 1 .any:=⟨trivial,h,Ztb ..⟩
theorem Pcw.up (h:Pcw P s n c k p):Pcw P s (n + 1) c k p:=⟨h.ok,Zeb h.deep,h.size⟩
theorem Pcw.fin {m:Nat} (h:Pcw P s n c k p) (hc:Nat.ble c 2 = true) (hk:Nat.ble k m = true):Piece P n (2 * s + m) p:=⟨h.ok,h.deep,Za h.size (Zcb (Nat.mul_le_mul_right s (Nat.le_of_ble_eq_true hc)) (Nat.le_of_ble_eq_true hk))⟩
theorem Piece.one (h:Piece P n s p):Pcw P s n 1 0 p:=⟨h.1,h.2.1,(Nat.one_mul s).symm ▸ h.2.2⟩
theorem Piece.lf (h:Piece P 1 1 p) (hn:1 ≤ n):Pcw P s n 0 1 p:=⟨h.1,Za h.2.1 hn,Za h.2.2 (Ztb ..)⟩
end
inductive AllP (C:Pt → Prop):List Pt → Prop where
 | nil:AllP C []
 | cons {p:Pt} {ps:List Pt} (h:C p) (t:AllP C ps):AllP C (p :: ps)
theorem AllP.get {C:Pt → Prop} {ps:List Pt} {d:Pt} (h:AllP C ps) (hd:C d):∀ k,C (ps.getD k d):=h.rec (fun zz => hd) fun h zz ih k => k.rec h fun k zz => ih k
noncomputable def joinedP (p a b:Pt) (k:Nat):Pt:=[.many p,.nt p,.row [p,a],.row [a,p],.alt [p,a],.alt [a,p],.alt [p,.row []],.row [p,.nt a],.row [a,p,b],.alt [a,.row [p,b],b,p],.alt [b,a,p],.row [.many a,.nt b,.many b,p,.many a],.alt [.nt .any,a,b,p,a,.any]].getD k (.row [a,.many b,p,.many a,b,.nt a,.many p])
theorem Piece.joined {P:Str → Prop} {n s:Nat} {p a b:Pt} (hn:1 ≤ n) (hp:Piece P n s p) (ha:Piece P 1 1 a) (hb:Piece P 1 1 b) (k:Nat):Piece P (n + 2) (2 * s + 10) (joinedP p a b k) :=
 have p0:Pcw P s n 1 0 p:=hp.one
 have a0:Pcw P s n 0 1 a:=ha.lf hn
 have b0:Pcw P s n 0 1 b:=hb.lf hn
 have p1:=p0.up
 have a1:=a0.up
 have b1:=b0.up
 AllP.get (.cons (p1.many.fin rfl rfl) <| .cons (p1.nt.fin rfl rfl) <| .cons (((Pcs.nil.cons a1).cons p1 |>.row rfl).fin rfl rfl) <| .cons (((Pcs.nil.cons p1).cons a1 |>.row rfl).fin rfl rfl) <| .cons (((Pcs.nil.cons a1).cons p1 |>.alt rfl).fin rfl rfl) <| .cons (((Pcs.nil.cons p1).cons a1 |>.alt rfl).fin rfl rfl) <| .cons (((Pcs.nil.cons (Pcs.nil.row rfl)).cons p1 |>.alt rfl).fin rfl rfl) <|
   .cons (((Pcs.nil.cons a0.nt).cons p1 |>.row rfl).fin rfl rfl) <| .cons ((((Pcs.nil.cons b1).cons p1).cons a1 |>.row rfl).fin rfl rfl) <| .cons (((((Pcs.nil.cons p1).cons b1).cons ((Pcs.nil.cons b0).cons p0 |>.row rfl)).cons a1 |>.alt rfl).fin rfl rfl) <| .cons ((((Pcs.nil.cons p1).cons a1).cons b1 |>.alt rfl).fin rfl rfl) <|
   .cons ((((((Pcs.nil.cons a0.many).cons p1).cons b0.many).cons b0.nt).cons a0.many |>.row rfl).fin rfl rfl) <| .cons (((((((Pcs.nil.cons (.any (Zeb hn))).cons a1).cons p1).cons b1).cons a1).cons (Pcw.any hn).nt |>.alt rfl).fin rfl rfl) .nil)
   (((((((((Pcs.nil.cons p0.many).cons a0.nt).cons b1).cons a0.many).cons p1).cons b0.many).cons a1 |>.row rfl).fin rfl rfl)) k
section
variable {P:Str → Prop} {n s:Nat} {p a b:Pt}
theorem Piece.mono {n' s':Nat} (h:Piece P n s p) (hn:n ≤ n') (hs:s ≤ s'):Piece P n' s' p:=⟨h.1,Za h.2.1 hn,Za h.2.2 hs⟩
theorem Piece.weak {R:Str → Prop} (h:Piece P n s p) (hm:∀ x,P x → R x):Piece R n s p:=⟨Pt.ok_mono hm _ h.1,h.2⟩
end
inductive Pt.sure:Pt → Prop where
 | sign {c:Nat} (h:isSignC c = true):Pt.sure (.sign c)
 | span {a b:Nat} (h1:isSignC a = true) (h2:isSignC b = true) (h3:a ≤ b):Pt.sure (.span a b)
 | any:Pt.sure .any
theorem Pt.sure.pc {P:Str → Prop} {p:Pt} (h:p.sure):Piece P 1 1 p:=h.rec (fun h => ⟨h,Zl _,Zl _⟩) (fun h1 h2 h3 => ⟨⟨h1,h2,h3⟩,Zl _,Zl _⟩) ⟨trivial,Zl _,Zl _⟩
theorem Pt.sure.ah {p:Pt} (h:p.sure) {B:Str → Bool} {ps:List Pt}:(Pt.row (p :: ps)).ahd B = []:=h.rec (fun zz => rfl) (fun zz zz zz => rfl) rfl
noncomputable def ruleP (x h t:Pt) (k:Nat):Pt:=[.alt [.row [x,h],t],.alt [t,.row [x,h]],.row [x,h]].getD k t
noncomputable def wrapP (p:Pt):Pt:=.row [.alt [.row [p]]]
theorem Piece.rule {P R:Str → Prop} {s:Nat} {x h t:Pt} (hx:x.sure) (hh:Piece P 7 s h) (ht:Piece R 7 s t) (hm:∀ y,R y → P y) (k:Nat):Piece P 9 (2 * s + 5) (ruleP x h t k) ∧ ∀ B,∀ y ∈ (ruleP x h t k).ahd B,R y :=
 have t0:Pcw P s 8 1 0 t:=(ht.weak hm).one.up
 have r0:Pcw P s 8 1 2 (.row [x,h]):=((Pcs.nil.cons hh.one).cons (hx.pc.lf (by decide))).row rfl
 have t1:∀ B,∀ y ∈ t.ahd B,R y:=fun B => Pt.ok_ahd B t ht.1
 have r1:∀ B,(Pt.row [x,h]).ahd B = []:=fun B => hx.ah
 have al:∀ {p q:Pt} (B:Str → Bool),(Pt.alt [p,q]).ahd B = p.ahd B ++ (q.ahd B ++ []):=fun B => rfl
 AllP.get (C:=fun p => Piece P 9 (2 * s + 5) p ∧ ∀ B,∀ y ∈ p.ahd B,R y) (.cons ⟨((Pcs.nil.cons t0).cons r0 |>.alt rfl).fin rfl rfl,fun B y hy => by rw [al,r1,List.nil_append,List.append_nil] at hy; exact t1 B y hy⟩ <| .cons ⟨((Pcs.nil.cons r0).cons t0 |>.alt rfl).fin rfl rfl,fun B y hy => by rw [al,r1,List.nil_append,List.append_nil] at hy; exact t1 B y hy⟩ <|
   .cons ⟨r0.up.fin rfl rfl,fun B y hy => by rw [r1] at hy; cases hy⟩ .nil) ⟨t0.up.fin rfl rfl,t1⟩ k
theorem Piece.wrap {P R:Str → Prop} {s n:Nat} {p:Pt} (h:Piece P n s p) (ha:∀ B,∀ y ∈ p.ahd B,R y):Piece P (n + 3) (s + 3) (wrapP p) ∧ ∀ B,∀ y ∈ (wrapP p).ahd B,R y :=
 have w:Pcw P s (n + 3) 1 3 (wrapP p):=(Pcs.nil.cons ((Pcs.nil.cons ((Pcs.nil.cons h.one).row rfl)).alt rfl)).row rfl
 ⟨⟨w.ok,w.deep,Nat.one_mul s ▸ w.size⟩,fun B y hy => by
   simp [wrapP,Pt.ahd2,Pt.ahd3,Pt.ahdAlt1,Pt.ahdAlt2,Pt.ahdRow1,Pt.ahdRow2] at hy; exact ha B y hy⟩
noncomputable def letterAt (i:Int):Nat:=97 + (i.fmod 26).toNat
noncomputable def tailBy (c:Int) (n:Nat):List Nat:=(List.range n).map fun j:Nat => letterAt (c + 5 * (j:Int))
noncomputable def shortBy (k:Nat):List Nat:=[97 + k % 26,97 + k / 26]
noncomputable def nameBy (style cell:Int) (k:Nat):List Nat :=
 if style.fmod 4 = 0 then shortBy k ++ tailBy cell (cell.fmod 11).toNat
 else if style.fmod 4 = 1 then
   let al:=tailBy style ((style.fdiv 4).fmod 11).toNat
   let i:=(((style * 7).fmod 1009).fmod (al.length + 1)).toNat
   al.take i ++ shortBy k ++ al.drop i
 else if style.fmod 4 = 2 then (if k < 12 then List.replicate (k + 1) (letterAt (style.fdiv 4)) else shortBy k ++ [122])
 else if k < 26 then [97 + k] else shortBy k
theorem fmodN (i:Int) {n:Nat} (h:0 < (n:Int)):(i.fmod n).toNat < n:=(Int.toNat_lt (Int.fmod_nonneg_of_pos i h)).mpr (Int.fmod_lt_of_pos i h)
theorem fdivN (k m:Nat):(k:Int).fdiv m = ((k / m:Nat):Int):=(Int.fdiv_eq_ediv_of_nonneg _ (Int.natCast_nonneg m)).trans (Int.natCast_ediv k m).symm
theorem fmodN' (k m:Nat):(k:Int).fmod m = ((k % m:Nat):Int):=(Int.fmod_eq_emod_of_nonneg _ (Int.natCast_nonneg m)).trans (Int.natCast_emod k m).symm
theorem letterAt_ok (i:Int):97 ≤ letterAt i ∧ letterAt i ≤ 122:=⟨Zy ..,Nat.add_le_add_left (Nat.le_of_lt_succ (fmodN i (n:=26) (by decide))) 97⟩
theorem nameBy_el {C:List Nat → Prop} {style cell:Int} {k:Nat} (h0:∀ n,n ≤ 10 → C (shortBy k ++ tailBy cell n)) (h1:∀ n i,n ≤ 10 → C ((tailBy style n).take i ++ shortBy k ++ (tailBy style n).drop i)) (h2:∀ i,k < 12 → C (List.replicate (k + 1) (letterAt i))) (h3:C (shortBy k ++ [122])) (h4:k < 26 → C [97 + k]) (h5:C (shortBy k)):C (nameBy style cell k):=by
 unfold nameBy
 by_cases e:style.fmod 4 = 0
 · rw [if_pos e]; exact h0 _ (Nat.le_of_lt_succ (fmodN cell (n:=11) (by decide)))
 rw [if_neg e]
 by_cases e:style.fmod 4 = 1
 · rw [if_pos e]; exact h1 _ _ (Nat.le_of_lt_succ (fmodN (style.fdiv 4) (n:=11) (by decide)))
 rw [if_neg e]
 by_cases e:style.fmod 4 = 2
 · rw [if_pos e]
   by_cases g:k < 12
   · rw [if_pos g]; exact h2 _ g
   · rw [if_neg g]; exact h3
 rw [if_neg e]
 by_cases g:k < 26
 · rw [if_pos g]; exact h4 g
 · rw [if_neg g]; exact h5
theorem tailBy_len (c:Int) (n:Nat):(tailBy c n).length = n:=(Zc _).trans List.length_range
theorem nameBy_len (style cell:Int) {k:Nat} (_hk:k < 40):1 ≤ (nameBy style cell k).length ∧ (nameBy style cell k).length ≤ 12 :=
 nameBy_el (C:=fun l => 1 ≤ l.length ∧ l.length ≤ 12) (fun n h => by rw [Zf,tailBy_len]; exact ⟨Za (by decide) (Zy 2 n),Nat.add_le_add_left h 2⟩)
   (fun n i h => by rw [Ze,Zf,Zf,Nat.add_left_comm,← Zf,List.take_append_drop,tailBy_len]; exact ⟨Za (by decide) (Zy 2 n),Nat.add_le_add_left h 2⟩)
   (fun i h => by rw [List.length_replicate]; exact ⟨Nat.succ_le_succ (Zkb k),h⟩) (show 1 ≤ 3 ∧ 3 ≤ 12 by decide) (fun zz => show 1 ≤ 1 ∧ 1 ≤ 12 by decide) (show 1 ≤ 2 ∧ 2 ≤ 12 by decide)
theorem shortBy_ok {k:Nat} (hk:k < 40):∀ c ∈ shortBy k,97 ≤ c ∧ c ≤ 122:=List.forall_mem_cons.mpr ⟨⟨Zy ..,Nat.add_le_add_left (Nat.le_of_lt_succ (Nat.mod_lt k (by decide:26 > 0))) 97⟩,List.forall_mem_cons.mpr ⟨⟨Zy ..,Nat.add_le_add_left (Za (Nat.div_le_div_right (Zq hk)) (by decide:40 / 26 ≤ 25)) 97⟩,(by intros; contradiction)⟩⟩
theorem nameBy_letters (style cell:Int) {k:Nat} (hk:k < 40):∀ c ∈ nameBy style cell k,97 ≤ c ∧ c ≤ 122:=by
 have hs:=shortBy_ok hk
 have ht:∀ (x:Int) (n:Nat),∀ c ∈ tailBy x n,97 ≤ c ∧ c ≤ 122:=fun x n c hc => Zh (Zsb.mp hc) fun j h => h.2 ▸ letterAt_ok _
 have ap:∀ {a b:List Nat},(∀ c ∈ a,97 ≤ c ∧ c ≤ 122) → (∀ c ∈ b,97 ≤ c ∧ c ≤ 122) → ∀ c ∈ a ++ b,97 ≤ c ∧ c ≤ 122:=fun h g c hc => (Zm.mp hc).elim (h c) (g c)
 exact nameBy_el (C:=fun l => ∀ c ∈ l,97 ≤ c ∧ c ≤ 122) (fun n zz => ap hs (ht _ _)) (fun n i zz => ap (ap (fun c h => ht _ _ c (List.mem_of_mem_take h)) hs) fun c h => ht _ _ c (List.mem_of_mem_drop h)) (fun i zz c hc => (List.mem_replicate.mp hc).2 ▸ letterAt_ok _) (ap hs fun c h => Zj.mp h ▸ (by decide:97 ≤ 122 ∧ 122 ≤ 122))
   (fun g c h => Zj.mp h ▸ ⟨Zy ..,Nat.add_le_add_left (Nat.le_of_lt_succ g) 97⟩) hs
theorem shortBy_inj {k k':Nat} (h:shortBy k = shortBy k'):k = k':=by
 have h1:97 + k % 26 = 97 + k' % 26:=congrArg (·.headD 0) h
 have h2:97 + k / 26 = 97 + k' / 26:=congrArg (·.tail.headD 0) h
 rw [← Nat.div_add_mod k 26,Nat.add_left_cancel h1,Nat.add_left_cancel h2,Nat.div_add_mod]
theorem nameBy_inj {style c c':Int} {k k':Nat} (hk:k < 40) (hk':k' < 40) (h:nameBy style c k = nameBy style c' k'):k = k':=by
 unfold nameBy at h
 by_cases e:style.fmod 4 = 0
 · rw [if_pos e,if_pos e] at h; exact shortBy_inj (List.append_inj h rfl).1
 rw [if_neg e,if_neg e] at h
 by_cases e:style.fmod 4 = 1
 · rw [if_pos e,if_pos e] at h
   rw [Ze,Ze] at h
   exact shortBy_inj (List.append_inj (List.append_cancel_left h) rfl).1
 rw [if_neg e,if_neg e] at h
 have two:∀ {k:Nat} {x:Nat},List.replicate 3 x = shortBy k ++ [122] → k < 40 → False:=fun {k x} h hk => by
   have h1:x = 97 + k / 26:=congrArg (·.tail.headD 0) h
   have h2:x = 122:=congrArg (·.tail.tail.headD 0) h
   have h3:97 + k / 26 ≤ 97 + 1:=Nat.add_le_add_left (Za (Nat.div_le_div_right (Zq hk)) (by decide:40 / 26 ≤ 1)) 97
   rw [← h1,h2] at h3; exact absurd h3 (by decide)
 by_cases e:style.fmod 4 = 2
 · rw [if_pos e,if_pos e] at h
   by_cases g:k < 12 <;> by_cases g':k' < 12
   · rw [if_pos g,if_pos g'] at h
     have h:=congrArg List.length h
     rw [List.length_replicate,List.length_replicate] at h; exact Nat.succ.inj h
   · rw [if_pos g,if_neg g'] at h
     have l:=congrArg List.length h
     rw [List.length_replicate] at l
     have l:k = 2:=Nat.succ.inj l
     rw [l] at h; exact (two h hk').elim
   · rw [if_neg g,if_pos g'] at h
     have l:=congrArg List.length h
     rw [List.length_replicate] at l
     have l:k' = 2:=(Nat.succ.inj l).symm
     rw [l] at h; exact (two h.symm hk).elim
   · rw [if_neg g,if_neg g'] at h; exact shortBy_inj (List.append_inj h rfl).1
 · rw [if_neg e,if_neg e] at h
   by_cases g:k < 26 <;> by_cases g':k' < 26
   · rw [if_pos g,if_pos g'] at h; exact Nat.add_left_cancel (congrArg (·.headD 0) h)
   · rw [if_pos g,if_neg g'] at h; exact absurd (congrArg List.length h) (by decide:¬ 1 = 2)
   · rw [if_neg g,if_pos g'] at h; exact absurd (congrArg List.length h) (by decide:¬ 2 = 1)
   · rw [if_neg g,if_neg g'] at h; exact shortBy_inj h
end
section
section
variable {p:Pt} {B:Str → Bool}
noncomputable def ahdK (B:Str → Bool) (row:Bool):List Pt → List Str
 | [] => []
 | p :: r => p.ahd B ++ if row && !p.may B then [] else ahdK B row r
theorem ahdK1 (B:Str → Bool) (row:Bool):ahdK B row [] = []:=rfl
theorem ahdK2 (B:Str → Bool) (row:Bool) (p:Pt) (r:List Pt):ahdK B row (p :: r) = Pt.ahd B p ++ if (row && !Pt.may B p) = true then [] else ahdK B row r:=rfl
theorem ahdK_row:∀ ps:List Pt,Pt.ahdRow B ps = ahdK B true ps:=by
 intro xx
 induction xx with
 | nil =>
   simp [Pt.ahdRow1,ahdK1]
 | cons p r ih =>
   rw [Pt.ahdRow2,ahdK2,ih]
   cases p.may B <;> simp
theorem ahdK_alt:∀ ps:List Pt,Pt.ahdAlt B ps = ahdK B false ps:=by
 intro xx
 induction xx with
 | nil =>
   simp [Pt.ahdAlt1,ahdK1]
 | cons p r ih =>
   rw [Pt.ahdAlt2,ahdK2,ih]; simp
theorem Pt.ahd_kids (h:p.word ≠ "rule"):p.ahd B = ahdK B (p.word == "row") p.kids:=by
 have e1:((Str.ofString "row" : Str) == "row") = true:=by decide +kernel
 have e2:((Str.ofString "or" : Str) == "row") = false:=by decide +kernel
 have e3:((Str.ofString "many" : Str) == "row") = false:=by decide +kernel
 have e4:((Str.ofString "not" : Str) == "row") = false:=by decide +kernel
 cases p with
 | rule n => exact absurd rfl h
 | row ps => simp only [Pt.ahd2,Pt.kids1,Pt.word5,e1,ahdK_row]
 | alt ps => simp only [Pt.ahd3,Pt.kids2,Pt.word6,e2,ahdK_alt]
 | many q => simp only [Pt.ahd4,Pt.kids3,Pt.word7,e3,ahdK1,ahdK2]; simp
 | nt q => simp only [Pt.ahd5,Pt.kids4,Pt.word8,e4,ahdK1,ahdK2]; simp
 | sign z1 => simp only [Pt.ahd6,Pt.kids5,ahdK1]
 | span z1 z2 => simp only [Pt.ahd7,Pt.kids6,ahdK1]
 | any => simp only [Pt.ahd8,Pt.kids7,ahdK1]
end
theorem allB_map {α:Type} (f:α → Bool) (l:List α):(l.map fun k => V.bool (f k)) = (l.map f).map V.bool:=List.map_map.symm
theorem Pt.size_mem {p q:Pt} (h:q ∈ p.kids):q.size < p.size:=by
 have h1:=Pt.kids_size p
 have:∀ ps:List Pt,q ∈ ps → q.size ≤ Pt.sizes ps:=by
   intro ps
   induction ps with
   | nil => intro h; cases h
   | cons a r ih =>
     intro h
     rw [Pt.sizes2]
     rcases Zg.mp h with rfl | h
     · (clear h1 ih; exact Zy q.size (sizes r))
     · have:=ih h; (clear ih h1; lia)
 have:=this _ h
 lia
noncomputable def hasK (kvs:List (Str × V)) (x:Str):Bool:=kvs.any fun kv => decide (kv.1 = x)
theorem hasK_met {bs:List Str}:hasK (metKV bs) = inB bs:=by
 funext x; exact metKV_any
section
variable {σ:Hp} {a b:Nat} {o o':MObj} {junk:Hp}
theorem get_up (h:σ[a]? = some o):(σ ++ junk)[a]? = some o:=by
 rw [Zbb (Zb.mp h).1]; exact h
theorem get_lt (h:σ[a]? = some o):a < σ.length:=(Zb.mp h).1
theorem get_set (h:σ[a]? = some o):(σ.set a o')[a]? = some o':=by
 rw [Zw (get_lt h)]
theorem get_set_ne (hn:b ≠ a):(σ.set b o')[a]? = σ[a]?:=Zi hn
theorem get_new:(σ ++ [o])[σ.length]? = some o:=by simp
theorem set_up (h:σ.length ≤ a):∃ jk,(σ ++ junk).set a o = σ ++ jk:=⟨_,List.set_append_right _ _ h⟩
end
end
section
mutual
theorem Pt.ahd_asks {B:Str → Bool} {n:Str}:∀ p:Pt,n ∈ p.ahd B → p.Asks n
 | .sign _,h | .span _ _,h | .any,h => by simp [Pt.ahd6,Pt.ahd7,Pt.ahd8] at h
 | .rule m,h => by simp only [Pt.ahd1,Zj] at h; subst h; exact .here
 | .row ps,h => by
   simp only [Pt.ahd2] at h
   obtain ⟨q,hq,ha⟩:=Pt.ahdRow_asks ps h
   exact .deep (p:=.row ps) hq ha
 | .alt ps,h => by
   simp only [Pt.ahd3] at h
   obtain ⟨q,hq,ha⟩:=Pt.ahdAlt_asks ps h
   exact .deep (p:=.alt ps) hq ha
 | .many p,h => by simp only [Pt.ahd4] at h; exact .deep (p:=.many p) (Zj.mpr rfl) (Pt.ahd_asks p h)
 | .nt p,h => by simp only [Pt.ahd5] at h; exact .deep (p:=.nt p) (Zj.mpr rfl) (Pt.ahd_asks p h)
theorem Pt.ahdRow_asks {B:Str → Bool} {n:Str}:∀ ps:List Pt,n ∈ Pt.ahdRow B ps → ∃ q ∈ ps,q.Asks n
 | [],h => by simp [Pt.ahdRow1] at h
 | p :: r,h => by
   simp only [Pt.ahdRow2,Zm] at h
   rcases h with h | h
   · exact ⟨p,by simp,Pt.ahd_asks p h⟩
   · split at h
     · obtain ⟨q,hq,ha⟩:=Pt.ahdRow_asks r h
       exact ⟨q,Zd _ hq,ha⟩
     · cases h
theorem Pt.ahdAlt_asks {B:Str → Bool} {n:Str}:∀ ps:List Pt,n ∈ Pt.ahdAlt B ps → ∃ q ∈ ps,q.Asks n
 | [],h => by simp [Pt.ahdAlt1] at h
 | p :: r,h => by
   simp only [Pt.ahdAlt2,Zm] at h
   rcases h with h | h
   · exact ⟨p,by simp,Pt.ahd_asks p h⟩
   · obtain ⟨q,hq,ha⟩:=Pt.ahdAlt_asks r h
     exact ⟨q,Zd _ hq,ha⟩
end
noncomputable def getKV (kvs:List (Str × V)) (x:Str):Option V:=(kvs.find? fun kv => decide (kv.1 = x)).map (·.2)
theorem getKV_lookup:∀ (kvs:List (Str × V)) (x:Str),getKV kvs x = kvs.lookup x
 | [],z1 => rfl
 | (k,v) :: r,x => by
   unfold getKV
   rw [List.find?_cons,List.lookup_cons]
   by_cases e:k = x
   · subst e; simp
   · have e2:¬ x = k:=fun q => e q.symm
     simp only [e,decide_false,beq_eq_false_iff_ne.mpr e2]
     exact getKV_lookup r x
theorem getKV_set (kvs:List (Str × V)) (k x:Str) (v:V):getKV (setKV kvs k v) x = if x = k then some v else getKV kvs x:=by
 rw [getKV_lookup,getKV_lookup,setKV_lookup]
noncomputable def tabKV (rs:List (Str × Pt)):List (Str × V):=rs.map fun r => (r.1,r.2.v)
theorem tabKV_any {rs:List (Str × Pt)} {n:Str}:((tabKV rs).any fun kv => decide (kv.1 = n)) = decide (n ∈ rs.map (·.1)):=by
 rw [Bool.eq_iff_iff]; simp [tabKV]
theorem tabKV_set {rs:List (Str × Pt)} {r:Str × Pt} (h:r.1 ∉ rs.map (·.1)):setKV (tabKV rs) r.1 r.2.v = tabKV (rs ++ [r]):=by
 unfold setKV; rw [tabKV_any,if_neg (by simpa using h)]; simp [tabKV]
theorem tabKV_get {rs:List (Str × Pt)} (hn:(rs.map (·.1)).Nodup) {r:Str × Pt} (hr:r ∈ rs):getKV (tabKV rs) r.1 = some r.2.v:=by
 induction rs with
 | nil => cases hr
 | cons a t ih =>
   rw [List.map_cons,List.nodup_cons] at hn
   unfold getKV tabKV
   rw [List.map_cons,List.find?_cons]
   rcases Zg.mp hr with rfl | hr
   · simp
   · have:¬ a.1 = r.1:=fun e => hn.1 (e ▸ Zsb.mpr ⟨r,hr,rfl⟩)
     simp only [this,decide_false]
     exact ih hn.2 hr
noncomputable def LeadsAt (rs:List (Str × Pt)) (B:Str → Bool) (kl:List (Str × V)) (lo:Nat) (σ:Hp):Prop:=∀ r ∈ rs,∃ j,lo < j ∧ getKV kl r.1 = some (.ref j) ∧ σ[j]? = some (.list ((r.2.ahd B).map V.str))
theorem LeadsAt.up {rs:List (Str × Pt)} {B:Str → Bool} {kl:List (Str × V)} {lo:Nat} {σ junk:Hp} (h:LeadsAt rs B kl lo σ):LeadsAt rs B kl lo (σ ++ junk):=fun r hr => by
 obtain ⟨j,h0,h1,h2⟩:=h r hr
 exact ⟨j,h0,h1,get_up h2⟩
inductive GrAt (rs:List (Str × Pt)) (bs:List Str) (g:Nat) (σ:Hp):Prop where
 | mk (a b c e:Nat) (kl:List (Str × V)) (h0:g < a) (h1:a < b) (h2:b < c) (h3:c < e) (h4:σ[g]? = some (.inst "Grammar" [("pairs",.ref a),("table",.ref b),("bare",.ref c),("leads",.ref e)])) (h5:σ[a]? = some (.list (rs.map ruleV))) (h6:σ[b]? = some (.sdict (tabKV rs))) (h7:σ[c]? = some (.sdict (metKV bs))) (h8:σ[e]? = some (.sdict kl)) (h9:LeadsAt rs (inB bs) kl g σ):GrAt rs bs g σ
theorem GrAt.up {rs:List (Str × Pt)} {bs:List Str} {g:Nat} {σ junk:Hp} (h:GrAt rs bs g σ):GrAt rs bs g (σ ++ junk):=by
 obtain ⟨a,b,c,e,kl,h1,h2,h3,h4,h5,h6,h7,h8,h9,h10⟩:=h
 exact ⟨a,b,c,e,kl,h1,h2,h3,h4,get_up h5,get_up h6,get_up h7,get_up h8,get_up h9,h10.up⟩
structure Seek (rs:List (Str × Pt)) (B:Str → Bool) (x:Str) (ms ws:List Str):Prop where
 nodup:ms.Nodup
 mr:∀ y ∈ ms,Rch rs B x y
 wr:∀ y ∈ ws,Rch rs B x y
 x0:∀ y,Lead rs B x y → y ∈ ms ∨ y ∈ ws
 cl:∀ y ∈ ms,∀ z,Lead rs B y z → z ∈ ms ∨ z ∈ ws
theorem Seek.end {rs:List (Str × Pt)} {B:Str → Bool} {x:Str} {ms:List Str} (h:Seek rs B x ms []):decide (x ∈ ms) = true ↔ Rch rs B x x:=by
 rw [decide_eq_true_iff]
 refine ⟨h.mr x,fun hr => ?_⟩
 have:∀ y,Rch rs B x y → y ∈ ms:=by
   intro y hy
   induction hy with
   | one h1 => exact (h.x0 _ h1).resolve_right (by simp)
   | more z1 h1 ih => exact (h.cl _ ih _ h1).resolve_right (by simp)
 exact this x hr
theorem Seek.old {rs:List (Str × Pt)} {B:Str → Bool} {x y:Str} {ms ws:List Str} (h:Seek rs B x ms (ws ++ [y])) (hy:y ∈ ms):Seek rs B x ms ws where
 nodup:=h.nodup
 mr:=h.mr
 wr:=fun z hz => h.wr z (List.mem_append_left _ hz)
 x0:=fun z hz => by
   rcases h.x0 z hz with g | g
   · exact .inl g
   · rcases Zm.mp g with g | g
     · exact .inr g
     · cases Zj.mp g; exact .inl hy
 cl:=fun a ha z hz => by
   rcases h.cl a ha z hz with g | g
   · exact .inl g
   · rcases Zm.mp g with g | g
     · exact .inr g
     · cases Zj.mp g; exact .inl hy
theorem Lead.uniq {rs:List (Str × Pt)} {B:Str → Bool} (hn:(rs.map (·.1)).Nodup) {r:Str × Pt} (hr:r ∈ rs) {z:Str} (h:Lead rs B r.1 z):z ∈ r.2.ahd B:=by
 obtain ⟨r',hr',e,hz⟩:=h
 obtain ⟨i,hi⟩:=List.mem_iff_getElem?.mp hr
 obtain ⟨j,hj⟩:=List.mem_iff_getElem?.mp hr'
 have:=name_at hn hi hj e.symm
 subst this
 rw [hi] at hj; cases hj; exact hz
theorem Seek.new {rs:List (Str × Pt)} {B:Str → Bool} {x:Str} {ms ws:List Str} {r:Str × Pt} (hn:(rs.map (·.1)).Nodup) (hr:r ∈ rs) (h:Seek rs B x ms (ws ++ [r.1])) (hy:r.1 ∉ ms):Seek rs B x (ms ++ [r.1]) (ws ++ r.2.ahd B) where
 nodup:=by
   rw [List.nodup_append]
   exact ⟨h.nodup,by simp,fun a ha b hb => by cases Zj.mp hb; exact fun e => hy (e ▸ ha)⟩
 mr:=fun z hz => by
   rcases Zm.mp hz with g | g
   · exact h.mr z g
   · cases Zj.mp g; exact h.wr _ (by simp)
 wr:=fun z hz => by
   rcases Zm.mp hz with g | g
   · exact h.wr z (List.mem_append_left _ g)
   · exact .more (h.wr r.1 (by simp)) ⟨r,hr,rfl,g⟩
 x0:=fun z hz => by
   rcases h.x0 z hz with g | g
   · exact .inl (List.mem_append_left _ g)
   · rcases Zm.mp g with g | g
     · exact .inr (List.mem_append_left _ g)
     · exact .inl (List.mem_append_right _ g)
 cl:=fun a ha z hz => by
   rcases Zm.mp ha with g | g
   · rcases h.cl a g z hz with g | g
     · exact .inl (List.mem_append_left _ g)
     · rcases Zm.mp g with g | g
       · exact .inr (List.mem_append_left _ g)
       · exact .inl (List.mem_append_right _ g)
   · cases Zj.mp g
     exact .inr (List.mem_append_right _ (Lead.uniq hn hr hz))
theorem Rch.last {rs:List (Str × Pt)} {B:Str → Bool} {x y:Str} (h:Rch rs B x y):∃ r ∈ rs,y ∈ r.2.ahd B:=by
 cases h with
 | one h => obtain ⟨r,h1,zz,h2⟩:=h; exact ⟨r,h1,h2⟩
 | more z1 h => obtain ⟨r,h1,zz,h2⟩:=h; exact ⟨r,h1,h2⟩
theorem GoodRules.lead {rs:List (Str × Pt)} (hg:GoodRules rs) {B:Str → Bool} {x y:Str} (h:Rch rs B x y):∃ r ∈ rs,r.1 = y:=by
 obtain ⟨r,h1,h2⟩:=h.last
 have:=(hg.all r h1).asks y (Pt.ahd_asks _ h2)
 obtain ⟨r',h3,h4⟩:=Zsb.mp this
 exact ⟨r',h3,h4⟩
theorem len_sub {α:Type} [BEq α] [LawfulBEq α] {ms ns:List α} (h:ms.Nodup) (hs:∀ x ∈ ms,x ∈ ns):ms.length ≤ ns.length:=by
 induction ms generalizing ns with
 | nil => simp
 | cons a r ih =>
   rw [List.nodup_cons] at h
   have ha:=hs a (by simp)
   have:=ih (ns:=ns.erase a) h.2 fun x hx => by
     have hne:x ≠ a:=fun e => h.1 (e ▸ hx)
     exact (List.mem_erase_of_ne hne).mpr (hs x (Zd _ hx))
   rw [List.length_erase_of_mem ha] at this
   have:=List.length_pos_of_mem ha
   simp only [List.length_cons]
   (clear ih; lia)
end
section
structure Mk (σ:Hp) (l:Nat) (fs:List (Str × V)) (ρ':Loc) (σ':Hp):Prop where
 self:ρ' "self" = some (.ref σ.length)
 ru:ρ' "rules" = some (.ref l)
 pre:∃ junk,σ' = σ ++ junk
 obj:σ'[σ.length]? = some (.inst "Grammar" fs)
section
variable {σ σ':Hp} {l:Nat} {fs fs':List (Str × V)} {ρ':Loc} {o o':MObj} {a:Nat}
theorem Mk.up {jk:Hp} (h:Mk σ l fs ρ' σ'):Mk σ l fs ρ' (σ' ++ jk):=by
 obtain ⟨h1,h2,⟨junk,rfl⟩,h4⟩:=h
 exact ⟨h1,h2,⟨junk ++ jk,by rw [Ze]⟩,get_up h4⟩
theorem Mk.put (h:Mk σ l fs ρ' σ') (ha:σ.length < a):Mk σ l fs ρ' (σ'.set a o):=by
 obtain ⟨h1,h2,⟨junk,rfl⟩,h4⟩:=h
 exact ⟨h1,h2,set_up (by (clear h4; exact Zq ha)),by rw [get_set_ne (by (clear h4; exact Nat.ne_of_gt ha))]; exact h4⟩
theorem Mk.field (h:Mk σ l fs ρ' σ'):Mk σ l fs' ρ' ((σ' ++ [o]).set σ.length (.inst "Grammar" fs')) ∧ ((σ' ++ [o]).set σ.length (.inst "Grammar" fs'))[σ'.length]? = some o ∧ σ.length < σ'.length ∧ ∀ a o',a ≠ σ.length → σ'[a]? = some o' → ((σ' ++ [o]).set σ.length (.inst "Grammar" fs'))[a]? = some o':=by
 obtain ⟨h1,h2,⟨junk,rfl⟩,h4⟩:=h
 have hlt:=get_lt h4
 refine ⟨⟨h1,h2,?_,get_set (get_up h4)⟩,?_,hlt,fun a o' hn e => ?_⟩
 · rw [Ze]; exact set_up (Zl _)
 · rw [get_set_ne (by (clear h4; exact Nat.ne_of_lt hlt))]; exact get_new
 · rw [get_set_ne (Ne.symm hn)]; exact get_up e
theorem Mk.rules {rs:List (Str × Pt)} (h:Mk σ l fs ρ' σ') (hl:σ[l]? = some (.list (rs.map ruleV))):σ'[l]? = some (.list (rs.map ruleV)):=by
 obtain ⟨h1,h2,⟨junk,rfl⟩,h4⟩:=h
 exact get_up hl
end
structure Grow (rs:List (Str × Pt)) (bs:List Str):Prop where
 nodup:bs.Nodup
 sub:∀ x ∈ bs,x ∈ rs.map (·.1)
 least:∀ S:Str → Bool,(∀ r ∈ rs,r.2.may S = true → S r.1 = true) → ∀ x ∈ bs,S x = true
theorem Grow.nil (rs:List (Str × Pt)):Grow rs []:=⟨by simp,by simp,fun zz zz zz h => by cases h⟩
theorem Grow.len {rs:List (Str × Pt)} {bs:List Str} (h:Grow rs bs):bs.length ≤ rs.length:=by
 simpa using len_sub h.nodup h.sub
theorem Grow.add {rs:List (Str × Pt)} {bs:List Str} {r:Str × Pt} (h:Grow rs bs) (hr:r ∈ rs) (hn:r.1 ∉ bs) (hm:r.2.may (inB bs) = true):Grow rs (bs ++ [r.1]) where
 nodup:=by
   rw [List.nodup_append]
   exact ⟨h.nodup,by simp,fun a ha b hb => by cases Zj.mp hb; exact fun e => hn (e ▸ ha)⟩
 sub:=fun x hx => by
   rcases Zm.mp hx with g | g
   · exact h.sub x g
   · cases Zj.mp g; exact Zsb.mpr ⟨r,hr,rfl⟩
 least:=fun S hS x hx => by
   rcases Zm.mp hx with g | g
   · exact h.least S hS x g
   · cases Zj.mp g
     exact hS r hr (Pt.may_mono (fun y hy => h.least S hS y (inB_iff.mp hy)) _ hm)
theorem Grow.bare {rs:List (Str × Pt)} {bs:List Str} (h:Grow rs bs) (hc:∀ r ∈ rs,r.2.may (inB bs) = true → r.1 ∈ bs):Bare rs bs:=⟨h.sub,hc,h.least⟩
theorem LeadsAt.snoc {rs:List (Str × Pt)} {B:Str → Bool} {kl:List (Str × V)} {σ σ':Hp} {r:Str × Pt} {j lo:Nat} (h:LeadsAt rs B kl lo σ) (hn:r.1 ∉ rs.map (·.1)) (hk:∀ (a:Nat) (vs:List V),σ[a]? = some (.list vs) → σ'[a]? = some (.list vs)) (hlo:lo < j) (hj:σ'[j]? = some (.list ((r.2.ahd B).map V.str))):LeadsAt (rs ++ [r]) B (setKV kl r.1 (.ref j)) lo σ':=fun r' hr' => by
 rcases Zm.mp hr' with g | g
 · obtain ⟨i,h0,h1,h2⟩:=h r' g
   refine ⟨i,h0,?_,hk _ _ h2⟩
   rw [getKV_set,if_neg (fun e:r'.1 = r.1 => hn (e ▸ Zsb.mpr ⟨r',g,rfl⟩))]
   exact h1
 · cases Zj.mp g
   exact ⟨j,hlo,by rw [getKV_set,if_pos rfl],hj⟩
end
section
open PySem PySem.Calls PyProof.Rows PySem.SeqAt PySem.Builtin PySem.Builtin.Str
noncomputable def S (l:List Nat):Str:=⟨l.toArray⟩
theorem S_app (a b:List Nat):S a ++ S b = S (a ++ b):=by
 show (⟨a.toArray ++ b.toArray⟩:Str) = ⟨(a ++ b).toArray⟩
 rw [List.append_toArray]
theorem S_length (a:List Nat):(S a).length = a.length:=by simp [S,Str.length]
theorem S_inj {a b:List Nat} (h:S a = S b):a = b:=by
 simpa [S] using h
theorem S_join:∀ l:List Nat,Txt.join (S []) (l.map fun c => S [c]) = S l:=by
 intro l
 show glued _ _ = _
 rw [StrLaws.glued_eq_join]
 induction l with
 | nil => rfl
 | cons a r ih =>
   cases r with
   | nil => rfl
   | cons b t =>
     show S [a] ++ S [] ++ Str.join (S []) ((b :: t).map fun c => S [c]) = _
     rw [ih,S_app,S_app]; rfl
theorem slice_of {l:List Nat} {lo hi:Option Int} {a b:Nat} (e:strSliceIndices lo hi 1 (S l).length = strSliceIndices (some (a:Int)) (some (b:Int)) 1 (S l).length) (hab:a ≤ b) (hb:b ≤ l.length):Txt.slice (S l) lo hi = S ((l.drop a).take (b - a)):=by
 unfold Txt.slice
 rw [e]
 by_cases hq:((1:Int) == 1 && (strSliceIndices (some (a:Int)) (some (b:Int)) 1 (S l).length).length == (S l).length) = true
 · rw [if_pos hq]
   have hq:=eq_of_beq (Bool.and_eq_true_iff.mp hq).2
   rw [StrLaws.strSliceIndices_plain (len:=(S l).length) hab hb,Zc,List.length_range] at hq
   rw [((List.take_sublist (b - a) (l.drop a)).trans (List.drop_sublist a l)).eq_of_length (by rw [List.length_take,List.length_drop,Nat.min_eq_left (Nat.sub_le_sub_right hb a)]; exact hq)]
 · rw [if_neg hq]; exact congrArg S (StrLaws.sliced_plain (S l) hab hb)
theorem S_slice_to {l:List Nat} {i:Nat} (h:i ≤ l.length):Txt.slice (S l) none (some (i:Int)) = S (l.take i) :=
 slice_of (a:=0) (b:=i) (by
   have e:max (0:Int) (min 0 ((S l).length:Int)) = 0:=by rw [Int.min_eq_left (Int.natCast_nonneg _)]; rfl
   show sliceRange 0 _ 1 = sliceRange (max (0:Int) (min 0 ((S l).length:Int))) _ 1
   rw [e]) (Zkb i) h
theorem S_slice_from {l:List Nat} {i:Nat} (h:i ≤ l.length):Txt.slice (S l) (some (i:Int)) none = S (l.drop i):=by
 have e:max (0:Int) (min ((S l).length:Int) ((S l).length:Int)) = (S l).length:=by rw [Int.min_self]; exact Int.max_eq_right (Int.natCast_nonneg _)
 have g:¬ (((S l).length:Int) < 0):=Int.not_lt.mpr (Int.natCast_nonneg _)
 have:=slice_of (l:=l) (lo:=some (i:Int)) (hi:=none) (a:=i) (b:=(S l).length) (by
   show sliceRange _ ((S l).length:Int) 1 = sliceRange _ (max (0:Int) (min (if ((S l).length:Int) < 0 then _ else ((S l).length:Int)) ((S l).length:Int))) 1
   rw [if_neg g,e]) h (Zl _)
 exact this.trans (congrArg S (List.take_of_length_le (Zr List.length_drop)))
theorem foldl_app:∀ (n c:Nat) (acc:List Nat),(List.replicate n #[c]).foldl (· ++ ·) acc.toArray = (acc ++ List.replicate n c).toArray
 | 0,c,acc => by simp
 | n + 1,c,acc => by
   rw [List.replicate_succ,List.foldl_cons]
   have:acc.toArray ++ #[c] = (acc ++ [c]).toArray:=by simp
   rw [this,foldl_app n c (acc ++ [c])]
   simp [List.replicate_succ]
theorem S_mul (c n:Nat):Txt.mul (S [c]) ((n:Int) + 1) = S (List.replicate (n + 1) c):=by
 unfold Txt.mul
 rw [if_neg (by lia)]
 split
 · rename_i h
   simp [S_length] at h
   have:n = 0:=by lia
   subst this; rfl
 · have e:((n:Int) + 1).toNat = n + 1:=rfl
   rw [e]
   have:=foldl_app (n + 1) c []
   show (⟨(List.replicate (n + 1) #[c]).foldl (· ++ ·) #[]⟩:Str) = S _
   rw [this]; simp [S]
theorem isName_S {style cell:Int} {k:Nat} (hk:k < 40):isName (S (nameBy style cell k)) = true:=by
 have h:=nameBy_len style cell hk
 have h2:=nameBy_letters style cell hk
 simp only [isName,Zob,decide_eq_true_eq,S_length,List.all_eq_true]
 refine ⟨h,fun c hc => ?_⟩
 have:=h2 c (by simpa [S] using hc)
 simp [isLetter]; exact this
theorem three_signs {a b c:Nat} {bs:List Str} (ha:isSignC a = true) (hb:isSignC b = true) (hc:isSignC c = true) (hp:bs.Perm [S [a],S [b],S [c]]) (hs:sortedS bs = true):∃ x y z,bs = [S [x],S [y],S [z]] ∧ isSignC x = true ∧ isSignC y = true ∧ isSignC z = true ∧ x ≤ y ∧ y ≤ z:=by
 have K:∀ r ∈ bs,∃ x,r = S [x] ∧ isSignC x = true:=fun r hr => (List.forall_mem_cons.mpr ⟨⟨a,rfl,ha⟩,List.forall_mem_cons.mpr ⟨⟨b,rfl,hb⟩,List.forall_mem_cons.mpr ⟨⟨c,rfl,hc⟩,(by intros; contradiction)⟩⟩⟩:∀ r ∈ [S [a],S [b],S [c]],∃ x,r = S [x] ∧ isSignC x = true) r (hp.mem_iff.mp hr)
 refine ex3 (len3 hp.length_eq) fun u v t e => ?_
 clear hp
 rw [e] at K hs
 refine (K u (.head _)).elim fun x hx => (K v (.tail _ (.head _))).elim fun y hy => (K t (.tail _ (.tail _ (.head _)))).elim fun z hz => ?_
 refine ⟨x,y,z,e.trans (by rw [hx.1,hy.1,hz.1]),hx.2,hy.2,hz.2,?_⟩
 rw [hx.1,hy.1,hz.1] at hs
 clear K hx hy hz e
 simp [sortedS,risingS,S,PySem.Spec.ltCps] at hs
 lia
end
section
noncomputable def sOk (n:Str):Prop:=PyData.strOk n = true
theorem sOk_name {n:Str} (h:isName n = true):sOk n:=by
 simp only [isName,Zob,List.all_eq_true] at h
 unfold sOk PyData.strOk
 rw [Array.all_eq_true_iff_forall_mem]
 intro c hc
 have:=h.2 c (by simpa using hc)
 simp only [isLetter,Zob,decide_eq_true_eq] at this
 simp; (clear hc h; lia)
theorem Pt.oks_of {P:Str → Prop}:∀ ps:List Pt,(∀ q ∈ ps,q.ok P) → Pt.oks P ps
 | [],z1 => by simp [Pt.oks1]
 | p :: r,h => by rw [Pt.oks2]; exact ⟨h p (by simp),Pt.oks_of r fun q hq => h q (Zd _ hq)⟩
theorem Pt.ok_of {P:Str → Prop}:∀ (n:Nat) (p:Pt),p.deep ≤ n → p.good = true → Pt.All Pt.few p → (∀ m,p.Asks m → P m) → p.ok P:=by
 intro n
 induction n with
 | zero => intro p hn; exact absurd (Pt.deep_pos p) (by lia)
 | succ n ih =>
   intro p hn hg hf ha
   obtain ⟨hfk,hfc⟩:=hf
   have kids:(∀ q ∈ p.kids,q.good = true) → ∀ q ∈ p.kids,q.ok P:=fun hgk q hq => ih q (by have:=Pt.kids_deep hq; (clear ih; lia)) (hgk q hq) (hfc q hq) fun m hm => ha m (.deep hq hm)
   cases p with
   | sign c => simpa only [Pt.ok1,Pt.ok2,Pt.ok3,Pt.ok4,Pt.ok5,Pt.ok6,Pt.ok7,Pt.ok8,Pt.good1,Pt.good2,Pt.good3,Pt.good4,Pt.good5,Pt.good6,Pt.good7,Pt.good8] using hg
   | span a b =>
     simp only [Pt.good2,Zob,decide_eq_true_eq] at hg
     rw [Pt.ok2]; exact ⟨hg.1.1,hg.1.2,hg.2⟩
   | any => simp [Pt.ok3]
   | rule m => rw [Pt.ok4]; exact ha m .here
   | row ps => rw [Pt.ok5]; rw [Pt.good5] at hg; exact ⟨hfk,Pt.oks_of ps (kids fun q hq => Pt.goods_mem hg hq)⟩
   | alt ps =>
     rw [Pt.good6,Zob] at hg
     rw [Pt.ok6]; exact ⟨by simpa using hg.1,hfk,Pt.oks_of ps (kids fun q hq => Pt.goods_mem hg.2 hq)⟩
   | many q => rw [Pt.ok7]; rw [Pt.good7] at hg; exact kids (fun q' hq => by cases Zj.mp hq; exact hg) q (Zj.mpr rfl)
   | nt q => rw [Pt.ok8]; rw [Pt.good8] at hg; exact kids (fun q' hq => by cases Zj.mp hq; exact hg) q (Zj.mpr rfl)
end
section
set_option genCtorIdx false in
structure Fr (κ:Type) where
 piece:Pt
 place:Nat
 turn:Nat
 here:Nat
 kids:List κ
noncomputable abbrev An (κ:Type):=Option Nat × List κ
set_option genCtorIdx false in
structure Bk (β κ:Type) where
 look:β → Option β
 known:β → Str → Nat → Option (An κ)
 begun:β → Str → Nat → Option β
 ended:β → Str → Nat → An κ → β
 told:β → Str → Nat → An κ → An κ
 few:β → Prop
inductive Out (β κ:Type) where
 | push (f:Fr κ) (p:Pt) (i:Nat) (b:β)
 | pop (a:An κ) (b:β)
 | stop
set_option genCtorIdx false in
structure Ms (β κ:Type) where
 fr:List (Fr κ)
 an:Option (An κ)
 bk:β
noncomputable def Pt.takesC:Pt → Nat → Bool
 | .any,z1 => true
 | .sign a,c => a == c
 | .span a b,c => decide (a ≤ c) && decide (c ≤ b)
 | .rule _,_ | .row _,_ | .alt _,_ | .many _,_ | .nt _,_ => false
noncomputable def Pt.isLf:Pt → Bool
 | .sign _ | .span _ _ | .any => true
 | z1 => false
theorem Pt.takesC2 (x a:Nat):(Pt.sign a).takesC x = (a == x):=rfl
theorem Pt.takesC3 (x a b:Nat):(Pt.span a b).takesC x = (decide (a ≤ x) && decide (x ≤ b)):=rfl
section
variable {β κ:Type} (G:Str → Pt) (txt:List Nat) (B:Bk β κ)
noncomputable def Fr.new (p:Pt) (i:Nat):Fr κ:=⟨p,i,0,i,[]⟩
noncomputable def Fr.on (f:Fr κ) (e:Nat) (ks:List κ):Fr κ:=⟨f.piece,f.place,f.turn,e,f.kids ++ ks⟩
noncomputable def Fr.nxt (f:Fr κ):Fr κ:=⟨f.piece,f.place,f.turn + 1,f.here,f.kids⟩
noncomputable def rowOut (ps:List Pt) (f:Fr κ) (b:β):Out β κ:=match ps[f.turn]? with
 | some p => .push f p f.here b
 | none => .pop (some f.here,f.kids) b
noncomputable def altOut (ps:List Pt) (f:Fr κ) (b:β):Out β κ:=match ps[f.turn]? with
 | some p => .push f p f.place b
 | none => .pop (none,[]) b
noncomputable def leafOut (p:Pt) (f:Fr κ) (b:β):Out β κ:=match B.look b with
 | some b' => (match txt[f.place]? with
   | some c => if p.takesC c then .pop (some (f.place + 1),[]) b' else .pop (none,[]) b'
   | none => .pop (none,[]) b')
 | none => .stop
noncomputable def stepOf (f:Fr κ) (a:Option (An κ)) (b:β):Out β κ:=match f.piece with
 | .row ps => (match a with
   | some (some e,ks) => rowOut ps (f.on e ks).nxt b
   | some (none,z1) => .pop (none,[]) b
   | none => rowOut ps f b)
 | .alt ps => (match a with
   | some (some e,ks) => .pop (some e,ks) b
   | some (none,z1) => altOut ps f.nxt b
   | none => altOut ps f b)
 | .many p => (match a with
   | some (some e,ks) => if e = f.here then .pop (some f.here,f.kids) b else .push (f.on e ks) p e b
   | some (none,z1) => .pop (some f.here,f.kids) b
   | none => .push f p f.here b)
 | .nt p => (match a with
   | some (some z1,z2) => .pop (none,[]) b
   | some (none,z1) => .pop (some f.place,[]) b
   | none => .push f p f.place b)
 | .rule n => (match a with
   | some a => .pop (B.told b n f.place a) (B.ended b n f.place a)
   | none => (match B.known b n f.place with
     | some a => .pop a b
     | none => (match B.begun b n f.place with
       | some b' => .push f (G n) f.place b'
       | none => .stop)))
 | p => leafOut txt B p f b
noncomputable def FewS (f:Fr κ) (a:Option (An κ)) (b:β):Prop:=f.kids.length ≤ 5000000 ∧ (∀ x,a = some x → x.2.length ≤ 5000000) ∧ B.few b
inductive Fin (P:Option (An κ × β) → Prop):Nat → Ms β κ → Prop where
 | done {a:An κ} {b:β}:P (some (a,b)) → Fin P 0 ⟨[],some a,b⟩
 | stop {f:Fr κ} {r:List (Fr κ)} {a:Option (An κ)} {b:β} {n:Nat}:r.length ≤ 5000000 → FewS B f a b → stepOf G txt B f a b = .stop → P none → Fin P n ⟨f :: r,a,b⟩
 | push {f f':Fr κ} {r:List (Fr κ)} {a:Option (An κ)} {b b':β} {p:Pt} {i n:Nat}:r.length ≤ 5000000 → FewS B f a b → stepOf G txt B f a b = .push f' p i b' → Fin P n ⟨.new p i :: f' :: r,none,b'⟩ → Fin P (n + 1) ⟨f :: r,a,b⟩
 | pop {f:Fr κ} {r:List (Fr κ)} {a:Option (An κ)} {a':An κ} {b b':β} {n:Nat}:r.length ≤ 5000000 → FewS B f a b → stepOf G txt B f a b = .pop a' b' → Fin P n ⟨r,some a',b'⟩ → Fin P (n + 1) ⟨f :: r,a,b⟩
variable {G txt B}
theorem step_leaf {p:Pt} {i t h:Nat} {ks:List κ} {a:Option (An κ)} {b:β} (hp:p.isLf = true):stepOf G txt B ⟨p,i,t,h,ks⟩ a b = leafOut txt B p ⟨p,i,t,h,ks⟩ b:=by cases p <;> first | rfl | exact (Zv hp).elim
theorem leaf_yes {p:Pt} {i t h c:Nat} {ks:List κ} {a:Option (An κ)} {b b':β} (hp:p.isLf = true) (hl:B.look b = some b') (hg:txt[i]? = some c) (ht:p.takesC c = true):stepOf G txt B ⟨p,i,t,h,ks⟩ a b = .pop (some (i + 1),[]) b':=by
 rw [step_leaf hp]; unfold leafOut; rw [hl]; show (match txt[i]? with | some c => if p.takesC c then Out.pop (some (i + 1),[]) b' else .pop (none,[]) b' | none => .pop (none,[]) b') = _; rw [hg]; exact if_pos ht
theorem leaf_no {p:Pt} {i t h:Nat} {ks:List κ} {a:Option (An κ)} {b b':β} (hp:p.isLf = true) (hl:B.look b = some b') (hn:∀ c,txt[i]? = some c → p.takesC c = false):stepOf G txt B ⟨p,i,t,h,ks⟩ a b = .pop (none,[]) b':=by
 rw [step_leaf hp]; unfold leafOut; rw [hl]; show (match txt[i]? with | some c => if p.takesC c then Out.pop (some (i + 1),[]) b' else .pop (none,[]) b' | none => .pop (none,[]) b') = _
 cases hg:txt[i]? with
 | none => rfl
 | some c => exact if_neg (by rw [hn c hg]; exact Zv)
theorem rule_known {n:Str} {i t h:Nat} {ks:List κ} {a:An κ} {b:β} (hk:B.known b n i = some a):stepOf G txt B ⟨.rule n,i,t,h,ks⟩ none b = .pop a b:=by
 show (match B.known b n i with | some a => Out.pop a b | none => (match B.begun b n i with | some b' => .push ⟨.rule n,i,t,h,ks⟩ (G n) i b' | none => .stop)) = _
 rw [hk]
theorem rule_new {n:Str} {i t h:Nat} {ks:List κ} {b b':β} (hk:B.known b n i = none) (hb:B.begun b n i = some b'):stepOf G txt B ⟨.rule n,i,t,h,ks⟩ none b = .push ⟨.rule n,i,t,h,ks⟩ (G n) i b':=by
 show (match B.known b n i with | some a => Out.pop a b | none => (match B.begun b n i with | some b' => .push ⟨.rule n,i,t,h,ks⟩ (G n) i b' | none => .stop)) = _
 rw [hk]
 show (match B.begun b n i with | some b' => Out.push ⟨.rule n,i,t,h,ks⟩ (G n) i b' | none => .stop) = _
 rw [hb]
variable {b:β} {p:Pt} {i:Nat}
theorem Fin.mono {P P':Option (An κ × β) → Prop} (k:∀ o,P o → P' o) {n:Nat} {st:Ms β κ} (h:Fin G txt B P n st):Fin G txt B P' n st:=by
 induction h with
 | done h => exact .done (k _ h)
 | stop a b c h => exact .stop a b c (k _ h)
 | push a b c z1 ih => exact .push a b c ih
 | pop a b c z1 ih => exact .pop a b c ih
noncomputable def FinO (G:Str → Pt) (txt:List Nat) (B:Bk β κ) (P:Option (An κ × β) → Prop) (n:Nat) (r:List (Fr κ)):Out β κ → Prop
 | .stop => P none
 | .push f' p i b' => ∃ m,m < n ∧ Fin G txt B P m ⟨.new p i :: f' :: r,none,b'⟩
 | .pop a' b' => ∃ m,m < n ∧ Fin G txt B P m ⟨r,some a',b'⟩
noncomputable def FinS (G:Str → Pt) (txt:List Nat) (B:Bk β κ) (P:Option (An κ × β) → Prop) (n:Nat) (st:Ms β κ):Prop:=match st.fr with
 | [] => ∃ a,st.an = some a ∧ P (some (a,st.bk))
 | f :: r => r.length ≤ 5000000 ∧ FewS B f st.an st.bk ∧ FinO G txt B P n r (stepOf G txt B f st.an st.bk)
theorem Fin.inv {P:Option (An κ × β) → Prop} {n:Nat} {st:Ms β κ} (h:Fin G txt B P n st):FinS G txt B P n st:=by
 cases h with
 | done h => exact ⟨_,rfl,h⟩
 | stop h1 h2 h3 h => exact ⟨h1,h2,by rw [h3]; exact h⟩
 | push h1 h2 h3 h => exact ⟨h1,h2,by rw [h3]; exact ⟨_,Zs _,h⟩⟩
 | pop h1 h2 h3 h => exact ⟨h1,h2,by rw [h3]; exact ⟨_,Zs _,h⟩⟩
theorem FewS.new (w:B.few b):FewS B (.new p i:Fr κ) none b:=⟨Zkb _,⟨(fun zz e => by cases e),w⟩⟩
end
end
section
noncomputable def endV:Option Nat → V
 | none => .none
 | some e => .int e
set_option genCtorIdx false in
structure KRep (κ:Type) where
 r:Hp → List Nat → κ → V → Prop
 keep:∀ {σ σ':Hp} {A A':List Nat} {x:κ} {v:V},r σ A x v → (∀ l o,σ[l]? = some o → l ∉ A → σ'[l]? = some o) → (∀ l ∈ A',l < σ.length → l ∈ A) → r σ' A' x v
structure On (σ:Hp) (A:List Nat) (σ':Hp) (A':List Nat):Prop where
 keep:∀ l o,σ[l]? = some o → l ∉ A → σ'[l]? = some o
 live:∀ l ∈ A',l < σ.length → l ∈ A
theorem On.refl {σ:Hp} {A:List Nat}:On σ A σ A:=⟨fun zz zz e zz => e,fun zz h zz => h⟩
theorem On.up {σ jk:Hp} {A:List Nat}:On σ A (σ ++ jk) A:=⟨fun zz zz e zz => get_up e,fun zz h zz => h⟩
theorem On.less {σ:Hp} {A A':List Nat} (h:∀ l ∈ A',l ∈ A):On σ A σ A':=⟨fun zz zz e zz => e,fun l x zz => h l x⟩
theorem On.put {σ:Hp} {A:List Nat} {i:Nat} {o:MObj} (h:i ∈ A):On σ A (σ.set i o) A:=⟨fun l x e hl => by
 have hne:i ≠ l:=fun q => hl (q ▸ h)
 rw [Zi hne]; exact e,fun zz h zz => h⟩
theorem On.trans {σ σ₁ σ₂:Hp} {A A₁ A₂:List Nat} (x:On σ A σ₁ A₁) (y:On σ₁ A₁ σ₂ A₂) (hl:σ.length ≤ σ₁.length):On σ A σ₂ A₂ :=
 ⟨fun l o e h => y.keep l o (x.keep l o e h) fun q => h (x.live l q (Zb.mp e).1),fun l h q => x.live l (y.live l h (Zz q hl)) q⟩
section
variable {κ β:Type} (K:KRep κ)
noncomputable def KRs (σ:Hp) (A:List Nat):List κ → List V → Prop
 | [],vs => vs = []
 | x :: xs,vs => ∃ v r,vs = v :: r ∧ K.r σ A x v ∧ KRs σ A xs r
noncomputable def AnAt (σ:Hp) (A:List Nat) (a:An κ) (v:V):Prop:=∃ l vs,v = .tup [endV a.1,.ref l] ∧ l ∉ A ∧ σ[l]? = some (.list vs) ∧ KRs K σ A a.2 vs
noncomputable def AnO (σ:Hp) (A:List Nat):Option (An κ) → V → Prop
 | none,v => v = .none
 | some a,v => AnAt K σ A a v
inductive FrAt (σ:Hp) (A:List Nat) (f:Fr κ) (l k:Nat):Prop where
 | mk (vs:List V) (h1:σ[l]? = some (.inst "Frame" [("piece",f.piece.v),("place",.int f.place),("turn",.int f.turn),("here",.int f.here),("kids",.ref k)])) (h2:σ[k]? = some (.list vs)) (h3:KRs K σ A f.kids vs):FrAt σ A f l k
variable {K}
theorem KRs.keep {σ σ':Hp} {A A':List Nat} (o:On σ A σ' A'):∀ {xs:List κ} {vs:List V},KRs K σ A xs vs → KRs K σ' A' xs vs
 | [],z1,h => h
 | z1 :: z2,z3,h => by
   obtain ⟨v,r,e,h1,h2⟩:=h
   exact ⟨v,r,e,K.keep h1 o.keep o.live,KRs.keep o h2⟩
theorem KRs.append {σ:Hp} {A:List Nat}:∀ {xs ys:List κ} {vs us:List V},KRs K σ A xs vs → KRs K σ A ys us → KRs K σ A (xs ++ ys) (vs ++ us):=by
 intro xx
 induction xx with
 | nil =>
   intro z1 z2 z3 h h'
   cases h; exact h'
 | cons z1 z2 ih =>
   intro z3 z4 z5 h h'
   obtain ⟨v,r,rfl,h1,h2⟩:=h
   exact ⟨v,_,rfl,h1,ih h2 h'⟩
theorem KRs.length {σ:Hp} {A:List Nat}:∀ {xs:List κ} {vs:List V},KRs K σ A xs vs → vs.length = xs.length:=by
 intro xx
 induction xx with
 | nil =>
   intro z1 h
   cases h; rfl
 | cons z1 z2 ih =>
   intro z3 h
   obtain ⟨v,r,rfl,zz,h2⟩:=h
   simp [ih h2]
theorem AnAt.keep {σ σ':Hp} {A A':List Nat} {a:An κ} {v:V} (o:On σ A σ' A') (h:AnAt K σ A a v):AnAt K σ' A' a v:=by
 obtain ⟨l,vs,e,h1,h2,h3⟩:=h
 exact ⟨l,vs,e,fun q => h1 (o.live l q (Zb.mp h2).1),o.keep _ _ h2 h1,h3.keep o⟩
theorem FrAt.keep {σ σ':Hp} {A A':List Nat} {f:Fr κ} {l k:Nat} (o:On σ A σ' A') (h:FrAt K σ A f l k) (hl:σ'[l]? = σ[l]?) (hk:σ'[k]? = σ[k]?):FrAt K σ' A' f l k:=by
 obtain ⟨vs,h1,h2,h3⟩:=h
 exact ⟨vs,hl.trans h1,hk.trans h2,h3.keep o⟩
end
set_option genCtorIdx false in
structure BRep (β κ:Type) where
 K:KRep κ
 own:List Nat
 is:Hp → List Nat → β → Prop
 keep:∀ {σ σ':Hp} {A A':List Nat} {b:β},is σ A b → On σ A σ' A' → (∀ x ∈ own,σ'[x]? = σ[x]?) → is σ' A' b
end
section
noncomputable abbrev Kid:=Str × Nat
set_option genCtorIdx false in
structure Mm where
 kept:List (Kid × An Kid)
 order:List Kid
noncomputable def tell (k:Kid) (a:An Kid):An Kid:=match a.1 with
 | none => (none,[])
 | some e => (some e,[k])
noncomputable def setM (kept:List (Kid × An Kid)) (k:Kid) (a:An Kid):List (Kid × An Kid) :=
 if kept.any (fun p => p.1 = k) then kept.map (fun p => if p.1 = k then (p.1,a) else p) else kept ++ [(k,a)]
noncomputable def getM (kept:List (Kid × An Kid)) (k:Kid):Option (An Kid):=(kept.find? fun p => p.1 = k).map (·.2)
noncomputable def memBk:Bk Mm Kid where
 look:=some
 known:=fun b n i => (getM b.kept (n,i)).map (tell (n,i))
 begun:=fun b n i => some ⟨b.kept,b.order ++ [(n,i)]⟩
 ended:=fun b n i a => ⟨setM b.kept (n,i) a,b.order⟩
 told:=fun zz n i a => tell (n,i) a
 few:=fun b => b.kept.length ≤ 5000000 ∧ b.order.length ≤ 5000000
noncomputable def pV' (k:Kid):V:=.tup [.str k.1,.int k.2]
noncomputable def memKid:KRep Kid where
 r:=fun zz zz x v => v = pV' x
 keep:=fun h zz zz => h
theorem memKid_krs {σ:Hp} {A:List Nat}:∀ {xs:List Kid},KRs memKid σ A xs (xs.map pV'):=by
 intro xx
 induction xx with
 | nil =>
   exact rfl
 | cons z1 z2 ih =>
   exact ⟨_,_,rfl,rfl,ih⟩
theorem memKid_eq {σ:Hp} {A:List Nat}:∀ {xs:List Kid} {vs:List V},KRs memKid σ A xs vs → vs = xs.map pV':=by
 intro xx
 induction xx with
 | nil =>
   intro z1 h
   exact h
 | cons z1 z2 ih =>
   intro z3 h
   obtain ⟨v,r,rfl,h1,h2⟩:=h
   rw [ih h2,show v = _ from h1]; rfl
noncomputable def KeptR (σ:Hp) (A:List Nat):List (Kid × An Kid) → List ((Str × Int) × V) → Prop
 | [],kvs => kvs = []
 | p :: r,kvs => ∃ v q,kvs = ((p.1.1,(p.1.2:Int)),v) :: q ∧ AnAt memKid σ A p.2 v ∧ KeptR σ A r q
theorem KeptR.keep {σ σ':Hp} {A A':List Nat} (o:On σ A σ' A'):∀ {xs:List (Kid × An Kid)} {kvs:List ((Str × Int) × V)},KeptR σ A xs kvs → KeptR σ' A' xs kvs
 | [],z1,h => h
 | z1 :: z2,z3,h => by
   obtain ⟨v,q,e,h1,h2⟩:=h
   exact ⟨v,q,e,h1.keep o,KeptR.keep o h2⟩
theorem KeptR.length {σ:Hp} {A:List Nat}:∀ {xs:List (Kid × An Kid)} {kvs:List ((Str × Int) × V)},KeptR σ A xs kvs → kvs.length = xs.length:=by
 intro xx
 induction xx with
 | nil =>
   intro z1 h
   cases h; rfl
 | cons z1 z2 ih =>
   intro z3 h
   obtain ⟨v,q,rfl,zz,h2⟩:=h
   simp [ih h2]
theorem key_eq {k k':Kid}:((k.1,(k.2:Int)) = (k'.1,(k'.2:Int))) ↔ k = k':=by
 obtain ⟨a,b⟩:=k; obtain ⟨c,d⟩:=k'
 simp only [Prod.mk.injEq]
 exact and_congr_right fun zz => Int.ofNat_inj
theorem KeptR.get {σ:Hp} {A:List Nat} {k:Kid}:∀ {xs:List (Kid × An Kid)} {kvs:List ((Str × Int) × V)},KeptR σ A xs kvs → (getM xs k = none ∧ kvs.find? (fun kv => kv.1 = (k.1,(k.2:Int))) = none) ∨ ∃ a v,getM xs k = some a ∧ (kvs.find? fun kv => kv.1 = (k.1,(k.2:Int))).map (·.2) = some v ∧ AnAt memKid σ A a v
 | [],z1,h => by cases h; exact .inl ⟨rfl,rfl⟩
 | p :: r,z1,h => by
   obtain ⟨v,q,rfl,h1,h2⟩:=h
   by_cases hk:p.1 = k
   · refine .inr ⟨p.2,v,by simp [getM,hk],?_,h1⟩
     rw [List.find?_cons,Zmb (key_eq.mpr hk)]; rfl
   · have hk':¬ ((p.1.1,(p.1.2:Int)) = (k.1,(k.2:Int))):=fun e => hk (key_eq.mp e)
     rcases KeptR.get (k:=k) h2 with ⟨a,b⟩ | ⟨a,u,b,c,e⟩
     · refine .inl ⟨by simpa [getM,hk] using a,?_⟩
       rw [List.find?_cons,decide_eq_false hk']; exact b
     · refine .inr ⟨a,u,by simpa [getM,hk] using b,?_,e⟩
       rw [List.find?_cons,decide_eq_false hk']; exact c
theorem KeptR.any {σ:Hp} {A:List Nat} {k:Kid}:∀ {xs:List (Kid × An Kid)} {kvs:List ((Str × Int) × V)},KeptR σ A xs kvs → kvs.any (fun kv => kv.1 = (k.1,(k.2:Int))) = xs.any (fun p => p.1 = k):=by
 intro xx
 induction xx with
 | nil =>
   intro z1 h
   cases h; rfl
 | cons p r ih =>
   intro z1 h
   obtain ⟨v,q,rfl,h1,h2⟩:=h
   rw [List.any_cons,List.any_cons,ih h2]
   congr 1
   rw [Bool.eq_iff_iff]; simp only [decide_eq_true_eq]; exact key_eq
theorem KeptR.set {σ:Hp} {A:List Nat} {k:Kid} {a:An Kid} {v:V} {xs:List (Kid × An Kid)} {kvs:List ((Str × Int) × V)} (h:KeptR σ A xs kvs) (hv:AnAt memKid σ A a v):KeptR σ A (setM xs k a) (setTK kvs (k.1,(k.2:Int)) v):=by
 unfold setM setTK
 rw [h.any (k:=k)]
 split
 · rename_i hh; clear hh
   induction xs generalizing kvs with
   | nil => cases h; rfl
   | cons p r ih =>
     obtain ⟨u,q,rfl,h1,h2⟩:=h
     by_cases hk:p.1 = k
     · rw [List.map_cons,List.map_cons,if_pos hk,if_pos (key_eq.mpr hk)]
       exact ⟨v,_,rfl,hv,ih h2⟩
     · rw [List.map_cons,List.map_cons,if_neg hk,if_neg (fun e => hk (key_eq.mp e))]
       exact ⟨u,_,rfl,h1,ih h2⟩
 · rename_i hh; clear hh
   induction xs generalizing kvs with
   | nil => cases h; exact ⟨v,_,rfl,hv,rfl⟩
   | cons p r ih =>
     obtain ⟨u,q,rfl,h1,h2⟩:=h
     exact ⟨u,_,rfl,h1,ih h2⟩
end
section
theorem a_one {r D:Nat} (h:r + D ≤ 5000000):r ≤ 5000000:=Za (Zy _ _) h
theorem a_next {r D:Nat} (h:r + (D + 1) ≤ 5000000):r + 1 + D ≤ 5000000:=Za (Zr (Nat.succ_add_eq_add_succ r D)) h
theorem a_pred {D D':Nat} (h:D + 1 ≤ D'):∃ x,D' = x + 1 ∧ D ≤ x:=match D',h with | x + 1,h => ⟨x,rfl,Nat.le_of_succ_le_succ h⟩
theorem a_sub {e len i:Nat} (h:e ≤ len):e + 1 - i ≤ len + 1:=Za (Nat.sub_le _ _) (Nat.succ_le_succ h)
theorem a_mono {h e i:Nat} (g:h ≤ e):h + 1 - i ≤ e + 1 - i:=Nat.sub_le_sub_right (Nat.succ_le_succ g) _
theorem a_many {e h:Nat} (g:h < e):e + 1 - h ≤ 2 * (e - h):=by rw [Nat.succ_sub (Zq g),Nat.two_mul]; exact Nat.add_le_add_left (Nat.sub_pos_of_lt g) _
theorem a_split {i h e:Nat} (h1:i ≤ h) (h2:h ≤ e):e - i = (h - i) + (e - h):=(Nat.sub_add_sub_cancel h2 h1).symm.trans (Nat.add_comm ..)
theorem a_meas {l h i R N m:Nat} (g:i < h) (hl:h ≤ l) (hN:(l - i) * R + (R - m) ≤ N):(l - h) * R + (R - 0) ≤ N :=
 Za (Zr (Nat.succ_mul (l - h) R).symm) (Za (Nat.mul_le_mul_right R (Nat.sub_lt_sub_left (Zz g hl) g)) (Za (Zy ..) hN))
theorem a_rule {X R m j N:Nat} (h1:m ≤ j) (h2:j < R) (hN:X + (R - m) ≤ N):X + (R - (j + 1)) < N:=Zz (Nat.add_lt_add_left (Nat.sub_lt_sub_left (Zk h1 h2) (Nat.lt_succ_of_le h1)) X) hN
theorem a_dep {N' N n d:Nat} (h:N' < N) (hd:d ≤ 12):N' * 14 + d ≤ N * 14 + n:=Za (Nat.add_le_add_left (Za hd (by decide:12 ≤ 14)) _) (Za (Zr (Nat.succ_mul N' 14).symm) (Za (Nat.mul_le_mul_right 14 h) (Zy _ _)))
theorem a_step {l h e j:Nat} (hj:l - h ≤ j + 1) (g:h < e):l - e ≤ j:=Nat.sub_le_iff_le_add.mpr (Za (Nat.sub_le_iff_le_add.mp hj) (Za (Zr (Nat.add_assoc j 1 h)) (Nat.add_le_add_left (Za (Zr (Nat.add_comm 1 h)) g) j)))
theorem a_end {l h e:Nat} (hj:l - h ≤ 0) (g:h < e) (h2:e ≤ l):False:=absurd (Zz g h2) (Zo.mpr (Nat.le_of_sub_eq_zero (Nat.le_zero.mp hj)))
section
variable {β κ:Type}
noncomputable def lvl (f:Fr κ) (L:List (Str × Nat)):List (Str × Nat):=match f.piece with
 | .rule n => (n,f.place) :: L
 | z1 => L
noncomputable def lvlOk (f:Fr κ) (L:List (Str × Nat)):Prop:=match f.piece with
 | .rule n => (n,f.place) ∉ L
 | z1 => True
inductive Bs (G:Str → Pt) (txt:List Nat) (B:Bk β κ):Nat → List (Str × Nat) → Fr κ → Option (An κ) → β → Option (An κ × β) → Prop where
 | stop {D:Nat} {L:List (Str × Nat)} {f:Fr κ} {a:Option (An κ)} {b:β}:FewS B f a b → stepOf G txt B f a b = .stop → Bs G txt B D L f a b none
 | pop {D:Nat} {L:List (Str × Nat)} {f:Fr κ} {a:Option (An κ)} {b b':β} {a':An κ}:FewS B f a b → stepOf G txt B f a b = .pop a' b' → Bs G txt B D L f a b (some (a',b'))
 | dead {D:Nat} {L:List (Str × Nat)} {f f':Fr κ} {a:Option (An κ)} {b b':β} {p:Pt} {i:Nat}:FewS B f a b → stepOf G txt B f a b = .push f' p i b' → lvlOk f L → Bs G txt B D (lvl f L) (.new p i) none b' none → Bs G txt B (D + 1) L f a b none
 | push {D:Nat} {L:List (Str × Nat)} {f f':Fr κ} {a:Option (An κ)} {b b' b'':β} {p:Pt} {i:Nat} {a':An κ} {o:Option (An κ × β)}:FewS B f a b → stepOf G txt B f a b = .push f' p i b' → lvlOk f L → Bs G txt B D (lvl f L) (.new p i) none b' (some (a',b'')) → Bs G txt B (D + 1) L f' (some a') b'' o → Bs G txt B (D + 1) L f a b o
variable {G:Str → Pt} {txt:List Nat} {B:Bk β κ}
theorem Bs.fin {D:Nat} {L:List (Str × Nat)} {f:Fr κ} {a:Option (An κ)} {b:β} {o:Option (An κ × β)} (h:Bs G txt B D L f a b o) (P:Option (An κ × β) → Prop):∀ r:List (Fr κ),r.length + D ≤ 5000000 → (∀ a' b',o = some (a',b') → ∃ n,Fin G txt B P n ⟨r,some a',b'⟩) → (o = none → P none) → ∃ n,Fin G txt B P n ⟨f :: r,a,b⟩:=by
 induction h with
 | stop w h => exact fun r hD zz h2 => ⟨0,.stop (a_one hD) w h (h2 rfl)⟩
 | pop w h => exact fun r hD h1 zz => (by obtain ⟨n,hn⟩:=h1 _ _ rfl; exact ⟨_,.pop (a_one hD) w h hn⟩)
 | dead w h z1 z2 ih => exact fun r hD zz h2 => (by obtain ⟨n,hn⟩:=ih (_ :: r) (a_next hD) (fun zz zz e => by cases e) h2; exact ⟨_,.push (a_one hD) w h hn⟩)
 | push w h z1 z2 z3 ih1 ih2 => exact fun r hD h1 h2 => (by obtain ⟨n,hn⟩:=ih1 (_ :: r) (a_next hD) (fun a' b' e => by cases e; exact ih2 r hD h1 h2) (fun e => by cases e); exact ⟨_,.push (a_one hD) w h hn⟩)
theorem Bs.run {D:Nat} {L:List (Str × Nat)} {f:Fr κ} {a:Option (An κ)} {b:β} {o:Option (An κ × β)} (h:Bs G txt B D L f a b o) (hD:D ≤ 5000000):∃ n,Fin G txt B (· = o) n ⟨[f],a,b⟩ :=
 h.fin _ [] (Za (Zr (Nat.zero_add D)) hD) (fun zz zz e => ⟨0,.done e.symm⟩) (fun e => e.symm)
theorem Bs.le {D:Nat} {L:List (Str × Nat)} {f:Fr κ} {a:Option (An κ)} {b:β} {o:Option (An κ × β)} (h:Bs G txt B D L f a b o):∀ {D':Nat},D ≤ D' → Bs G txt B D' L f a b o:=by
 induction h with
 | stop w h => exact fun zz => .stop w h
 | pop w h => exact fun zz => .pop w h
 | dead w h l z1 ih =>
   intro D' hD
   obtain ⟨D',rfl,hD'⟩:=a_pred hD
   exact .dead w h l (ih hD')
 | push w h l z1 z2 ih1 ih2 =>
   intro D' hD
   obtain ⟨D',rfl,hD'⟩:=a_pred hD
   exact .push w h l (ih1 hD') (ih2 hD)
noncomputable def BsO (G:Str → Pt) (txt:List Nat) (B:Bk β κ) (D:Nat) (L:List (Str × Nat)) (f:Fr κ) (o:Option (An κ × β)):Out β κ → Prop
 | .stop => o = none
 | .pop a b => o = some (a,b)
 | .push f' p i b' => ∃ D',D = D' + 1 ∧ lvlOk f L ∧ ((Bs G txt B D' (lvl f L) (.new p i) none b' none ∧ o = none) ∨ ∃ a' b'',Bs G txt B D' (lvl f L) (.new p i) none b' (some (a',b'')) ∧ Bs G txt B (D' + 1) L f' (some a') b'' o)
theorem Bs.out {D:Nat} {L:List (Str × Nat)} {f:Fr κ} {a:Option (An κ)} {b:β} {o:Option (An κ × β)} (h:Bs G txt B D L f a b o):BsO G txt B D L f o (stepOf G txt B f a b) :=
 h.rec (fun zz h => h ▸ rfl) (fun zz h => h ▸ rfl) (fun zz h l k zz => h ▸ ⟨_,rfl,l,.inl ⟨k,rfl⟩⟩) fun zz h l k k' zz zz => h ▸ ⟨_,rfl,l,.inr ⟨_,_,k,k'⟩⟩
theorem Bs.pops {D:Nat} {L:List (Str × Nat)} {f:Fr κ} {a:Option (An κ)} {b b':β} {a':An κ} {o:Option (An κ × β)} (h:Bs G txt B D L f a b o) (hs:stepOf G txt B f a b = .pop a' b'):o = some (a',b'):=by
 have:=h.out; rw [hs] at this; exact this
end
mutual
noncomputable def Pt.wt:Pt → Nat
 | .rule z1 => 1
 | .row ps | .alt ps => Pt.wts ps
 | .many p => 2 * p.wt
 | .nt p => p.wt
 | .sign _ | .span _ _ | .any => 0
noncomputable def Pt.wts:List Pt → Nat
 | [] => 0
 | p :: r => p.wt + Pt.wts r
end
theorem Pt.wt1 (z1:Str):(Pt.rule z1).wt = 1:=rfl
theorem Pt.wt2 (ps:List Pt):(Pt.row ps).wt = Pt.wts ps:=rfl
theorem Pt.wt3 (ps:List Pt):(Pt.alt ps).wt = Pt.wts ps:=rfl
theorem Pt.wt4 (p:Pt):p.many.wt = 2 * p.wt:=rfl
theorem Pt.wt5 (p:Pt):p.nt.wt = p.wt:=rfl
theorem Pt.wt6 (c:Nat):(Pt.sign c).wt = 0:=rfl
theorem Pt.wt7 (a b:Nat):(Pt.span a b).wt = 0:=rfl
theorem Pt.wt8:Pt.any.wt = 0:=rfl
theorem Pt.wts1:Pt.wts [] = 0:=rfl
theorem Pt.wts2 (p:Pt) (r:List Pt):Pt.wts (p :: r) = p.wt + Pt.wts r:=rfl
theorem Pt.wts_mem {ps:List Pt} {p:Pt} (h:p ∈ ps):p.wt ≤ Pt.wts ps:=by
 induction ps with
 | nil => cases h
 | cons a r ih =>
   rw [Pt.wts2]
   rcases Zg.mp h with rfl | h
   · exact Zy _ _
   · exact Za (ih h) (Ztb _ _)
theorem Pt.wts_app:∀ ps qs:List Pt,Pt.wts (ps ++ qs) = Pt.wts ps + Pt.wts qs:=by
 intro xx
 induction xx with
 | nil =>
   intro qs
   simp [Pt.wts1]
 | cons p r ih =>
   intro qs
   rw [List.cons_append,Pt.wts2,Pt.wts2,ih qs,Nat.add_assoc]
theorem Pt.wts_take {ps:List Pt} (t:Nat):Pt.wts (ps.take t) ≤ Pt.wts ps:=by
 conv => rhs; rw [← List.take_append_drop t ps]
 rw [Pt.wts_app]; exact Zy _ _
theorem Pt.wts_next {ps:List Pt} {t:Nat} {p:Pt} (h:ps[t]? = some p):Pt.wts (ps.take (t + 1)) = Pt.wts (ps.take t) + p.wt:=by
 rw [List.take_add_one,h,Pt.wts_app]; simp [Pt.wts1,Pt.wts2]
theorem Pt.ahdRow_at {B:Str → Bool}:∀ {ps:List Pt} {t:Nat} {p:Pt},ps[t]? = some p → Pt.mayAll B (ps.take t) = true → ∀ y ∈ p.ahd B,y ∈ Pt.ahdRow B ps
 | [],z1,z2,h,z3 => by cases h
 | a :: r,0,p,h,z1 => by cases h; intro y hy; rw [Pt.ahdRow2]; exact List.mem_append_left _ hy
 | a :: r,t + 1,p,h,hm => by
   rw [List.take_succ_cons,Pt.mayAll2,Zob] at hm
   intro y hy
   rw [Pt.ahdRow2,if_pos hm.1]
   exact List.mem_append_right _ (Pt.ahdRow_at (ps:=r) (t:=t) (by simpa using h) hm.2 y hy)
theorem Pt.ahdAlt_at {B:Str → Bool} {ps:List Pt} {p:Pt} (h:p ∈ ps):∀ y ∈ p.ahd B,y ∈ Pt.ahdAlt B ps:=by
 induction ps with
 | nil => cases h
 | cons a r ih =>
   intro y hy
   rw [Pt.ahdAlt2]
   rcases Zg.mp h with rfl | h
   · exact List.mem_append_left _ hy
   · exact List.mem_append_right _ (ih h y hy)
theorem Pt.mayAll_next {B:Str → Bool} {ps:List Pt} {t:Nat} {p:Pt} (h:ps[t]? = some p) (hm:Pt.mayAll B (ps.take t) = true) (hp:p.may B = true):Pt.mayAll B (ps.take (t + 1)) = true:=by
 rw [List.take_add_one,h,Pt.mayAll_eq,List.all_append,← Pt.mayAll_eq,hm]; simp [hp]
theorem Pt.mayAny_at {B:Str → Bool} {ps:List Pt} {p:Pt} (h:p ∈ ps) (hp:p.may B = true):Pt.mayAny B ps = true:=by
 rw [Pt.mayAny_eq,List.any_eq_true]; exact ⟨p,h,hp⟩
noncomputable def FitB (ok:Bool) (w len i:Nat) {κ:Type} (a:An κ):Prop:=match a.1 with
 | some e => i ≤ e ∧ e ≤ len ∧ (e = i → ok = true) ∧ a.2.length ≤ w * (e + 1 - i)
 | none => a.2 = []
structure GrOk (G:Str → Pt) (names:List Str) (mb:Str → Bool) (ix:Str → Nat) (R W:Nat):Prop where
 part:∀ n ∈ names,(G n).ok (· ∈ names)
 deep:∀ n ∈ names,(G n).deep ≤ 12
 wt:∀ n ∈ names,(G n).wt ≤ W
 lead:∀ n ∈ names,∀ y ∈ (G n).ahd mb,ix n < ix y
 ixl:∀ n ∈ names,ix n < R
 bare:∀ n ∈ names,(G n).may mb = true → mb n = true
structure BkOk {β κ:Type} (B:Bk β κ) (I:List (Str × Nat) → β → Prop) (names:List Str) (mb:Str → Bool) (W len:Nat):Prop where
 few:∀ {L b},I L b → B.few b
 look:∀ {L b b'},I L b → B.look b = some b' → I L b'
 known:∀ {L b n i a},I L b → n ∈ names → i ≤ len → B.known b n i = some a → FitB (mb n) 1 len i a
 begun:∀ {L b b' n i},I L b → n ∈ names → i ≤ len → (n,i) ∉ L → B.known b n i = none → B.begun b n i = some b' → I ((n,i) :: L) b'
 ended:∀ {L b n i} {a:An κ},I ((n,i) :: L) b → n ∈ names → i ≤ len → (n,i) ∉ L → FitB (mb n) W len i a → I L (B.ended b n i a) ∧ FitB (mb n) 1 len i (B.told b n i a)
section
variable {β κ:Type} {G:Str → Pt} {txt:List Nat} {B:Bk β κ} {I:List (Str × Nat) → β → Prop} {names:List Str} {mb:Str → Bool} {ix:Str → Nat} {R W:Nat}
noncomputable def Ends (G:Str → Pt) (txt:List Nat) (B:Bk β κ) (I:List (Str × Nat) → β → Prop) (ok:Bool) (w i:Nat) (D:Nat) (L:List (Str × Nat)) (f:Fr κ) (a:Option (An κ)) (b:β):Prop :=
 ∃ o,Bs G txt B D L f a b o ∧ ∀ a' b',o = some (a',b') → I L b' ∧ FitB ok w txt.length i a'
theorem Ends.pop {ok:Bool} {w i D:Nat} {L:List (Str × Nat)} {f:Fr κ} {a:Option (An κ)} {b b':β} {a':An κ} (few:FewS B f a b) (h:stepOf G txt B f a b = .pop a' b') (hI:I L b') (hf:FitB ok w txt.length i a'):Ends G txt B I ok w i D L f a b :=
 ⟨_,.pop few h,fun zz zz e => by cases e; exact ⟨hI,hf⟩⟩
theorem Ends.push {ok ok':Bool} {w w' i j D:Nat} {L:List (Str × Nat)} {f f':Fr κ} {a:Option (An κ)} {b b':β} {p:Pt} (few:FewS B f a b) (h:stepOf G txt B f a b = .push f' p j b') (hl:lvlOk f L) (h1:Ends G txt B I ok' w' j D (lvl f L) (.new p j) none b')
   (h2:∀ a' b'',I (lvl f L) b'' → FitB ok' w' txt.length j a' → Ends G txt B I ok w i (D + 1) L f' (some a') b''):Ends G txt B I ok w i (D + 1) L f a b:=by
 obtain ⟨o,k,hk⟩:=h1
 cases o with
 | none => exact ⟨none,.dead few h hl k,fun zz zz e => by cases e⟩
 | some x =>
   obtain ⟨a',b''⟩:=x
   obtain ⟨hI,hf⟩:=hk _ _ rfl
   obtain ⟨o,k2,hk2⟩:=h2 a' b'' hI hf
   exact ⟨o,.push few h hl k k2,hk2⟩
theorem Ends.le {ok:Bool} {w i D D':Nat} {L:List (Str × Nat)} {f:Fr κ} {a:Option (An κ)} {b:β} (h:Ends G txt B I ok w i D L f a b) (hD:D ≤ D'):Ends G txt B I ok w i D' L f a b:=by
 obtain ⟨o,k,hk⟩:=h
 exact ⟨o,k.le hD,hk⟩
theorem mul_few {w W x y:Nat} (hw:w ≤ W) (hx:x ≤ y) (hW:W * y ≤ 5000000):w * x ≤ 5000000:=Za (Nat.mul_le_mul hw hx) hW
theorem FitB.few {ok:Bool} {w W len i:Nat} {a:An κ} (h:FitB ok w len i a) (hw:w ≤ W) (hW:W * (len + 1) ≤ 5000000):a.2.length ≤ 5000000:=by
 unfold FitB at h
 split at h
 · exact Za h.2.2.2 (mul_few hw (a_sub h.2.1) hW)
 · rw [h]; simp
theorem FewS.of {f:Fr κ} {a:An κ} {b:β} (h1:f.kids.length ≤ 5000000) (h2:a.2.length ≤ 5000000) (h3:B.few b):FewS B f (some a) b:=⟨h1,fun zz e => by cases e; exact h2,h3⟩
theorem ends_row {W':Nat} {ps:List Pt} {i D:Nat} {L:List (Str × Nat)} (hB:BkOk B I names mb W' txt.length) (hw:Pt.wts ps ≤ W) (hW:W * (txt.length + 1) ≤ 5000000)
   (sub:∀ t q h b,ps[t]? = some q → i ≤ h → h ≤ txt.length → (h = i → Pt.mayAll mb (ps.take t) = true) → I L b → Ends G txt B I (q.may mb) q.wt h D L (.new q h) none b) :
   ∀ (j t h:Nat) (ks:List κ) (f:Fr κ) (a:Option (An κ)) (b:β),t + j = ps.length → stepOf G txt B f a b = rowOut ps ⟨.row ps,i,t,h,ks⟩ b → f.piece = .row ps → FewS B f a b → I L b → i ≤ h → h ≤ txt.length → (h = i → Pt.mayAll mb (ps.take t) = true) → ks.length ≤ Pt.wts (ps.take t) * (h + 1 - i) →
     Ends G txt B I (Pt.mayAll mb ps) (Pt.wts ps) i (D + 1) L f a b:=by
 intro j
 induction j with
 | zero =>
   intro t h ks f a b hj hs hp few hI h1 h2 h3 h4
   have ht:ps.take t = ps:=List.take_of_length_le (Zr hj.symm)
   rw [ht] at h3 h4
   refine .pop (a':=(some h,ks)) (b':=b) few ?_ hI ⟨h1,h2,h3,h4⟩
   rw [hs]; unfold rowOut; rw [show ps[(⟨.row ps,i,t,h,ks⟩:Fr κ).turn]? = none from Zrb (Zr hj.symm)]
 | succ j ih =>
   intro t h ks f a b hj hs hp few hI h1 h2 h3 h4
   have ht:t < ps.length:=hj ▸ Nat.lt_add_of_pos_right (Nat.succ_pos j)
   have hq:=Zp ht
   generalize ps[t] = q at hq
   have el:lvl f L = L:=by simp [lvl,hp]
   refine .push (f':=⟨.row ps,i,t,h,ks⟩) (p:=q) (j:=h) (b':=b) (ok':=q.may mb) (w':=q.wt) few ?_ (by simp [lvlOk,hp]) (by rw [el]; exact sub t q h b hq h1 h2 h3 hI) fun a' b'' hI' hf => ?_
   · rw [hs]; unfold rowOut; rw [show ps[(⟨.row ps,i,t,h,ks⟩:Fr κ).turn]? = some q from hq]
   rw [el] at hI'
   have hqm:=Zn hq
   have few':FewS B (⟨.row ps,i,t,h,ks⟩:Fr κ) (some a') b'':=.of (Za h4 (mul_few (Za (Pt.wts_take t) hw) (a_sub h2) hW)) (hf.few (Za (Pt.wts_mem hqm) hw) hW) (hB.few hI')
   obtain ⟨x,us⟩:=a'
   cases x with
   | none => exact .pop (a':=(none,[])) (b':=b'') few' rfl hI' rfl
   | some e =>
     obtain ⟨g1,g2,g3,g4⟩:=hf
     refine ih (t + 1) e (ks ++ us) _ _ b'' ((Nat.succ_add_eq_add_succ t j).trans hj) rfl rfl few' hI' (Za h1 g1) g2 (fun e' => ?_) ?_
     · subst e'
       have hh:h = e:=Nat.le_antisymm g1 h1
       subst hh
       exact Pt.mayAll_next hq (h3 rfl) (g3 rfl)
     · rw [Zf,Pt.wts_next hq,Nat.add_mul]
       exact Zcb (Za h4 (Znb _ (a_mono g1))) (Za g4 (Znb _ (Nat.sub_le_sub_left h1 _)))
theorem ends_alt {W':Nat} {ps:List Pt} {i D:Nat} {L:List (Str × Nat)} (hB:BkOk B I names mb W' txt.length) (hw:Pt.wts ps ≤ W) (hW:W * (txt.length + 1) ≤ 5000000)
   (sub:∀ q b,q ∈ ps → I L b → Ends G txt B I (q.may mb) q.wt i D L (.new q i) none b) :
   ∀ (j t h:Nat) (f:Fr κ) (a:Option (An κ)) (b:β),t + j = ps.length → stepOf G txt B f a b = altOut ps ⟨.alt ps,i,t,h,[]⟩ b → f.piece = .alt ps → FewS B f a b → I L b →
     Ends G txt B I (Pt.mayAny mb ps) (Pt.wts ps) i (D + 1) L f a b:=by
 intro j
 induction j with
 | zero =>
   intro t h f a b hj hs hp few hI
   refine .pop (a':=(none,[])) (b':=b) few ?_ hI rfl
   rw [hs]; unfold altOut; rw [show ps[(⟨.alt ps,i,t,h,[]⟩:Fr κ).turn]? = none from Zrb (Zr hj.symm)]
 | succ j ih =>
   intro t h f a b hj hs hp few hI
   have ht:t < ps.length:=hj ▸ Nat.lt_add_of_pos_right (Nat.succ_pos j)
   have hq:=Zp ht
   generalize ps[t] = q at hq
   have hqm:=Zn hq
   have el:lvl f L = L:=by simp [lvl,hp]
   refine .push (f':=⟨.alt ps,i,t,h,[]⟩) (p:=q) (j:=i) (b':=b) (ok':=q.may mb) (w':=q.wt) few ?_ (by simp [lvlOk,hp]) (by rw [el]; exact sub q b hqm hI) fun a' b'' hI' hf => ?_
   · rw [hs]; unfold altOut; rw [show ps[(⟨.alt ps,i,t,h,[]⟩:Fr κ).turn]? = some q from hq]
   rw [el] at hI'
   have few':FewS B (⟨.alt ps,i,t,h,[]⟩:Fr κ) (some a') b'':=.of (Zkb _) (hf.few (Za (Pt.wts_mem hqm) hw) hW) (hB.few hI')
   obtain ⟨x,us⟩:=a'
   cases x with
   | none => exact ih (t + 1) h _ _ b'' ((Nat.succ_add_eq_add_succ t j).trans hj) rfl rfl few' hI'
   | some e =>
     obtain ⟨g1,g2,g3,g4⟩:=hf
     exact .pop (a':=(some e,us)) (b':=b'') few' rfl hI' ⟨g1,g2,fun e' => Pt.mayAny_at hqm (g3 e'),Za g4 (Nat.mul_le_mul_right _ (Pt.wts_mem hqm))⟩
theorem ends_many {W':Nat} {p:Pt} {i D:Nat} {L:List (Str × Nat)} (hB:BkOk B I names mb W' txt.length) (hw:2 * p.wt ≤ W) (hW:W * (txt.length + 1) ≤ 5000000)
   (sub:∀ h b,i ≤ h → h ≤ txt.length → I L b → Ends G txt B I (p.may mb) p.wt h D L (.new p h) none b) :
   ∀ (j t h:Nat) (ks:List κ) (f:Fr κ) (a:Option (An κ)) (b:β),txt.length - h ≤ j → stepOf G txt B f a b = .push ⟨.many p,i,t,h,ks⟩ p h b → f.piece = .many p → FewS B f a b → I L b → i ≤ h → h ≤ txt.length → ks.length ≤ 2 * p.wt * (h - i) →
     Ends G txt B I true (2 * p.wt) i (D + 1) L f a b:=by
 intro j
 induction j with
 | zero | succ j ih =>
   intro t h ks f a b hj hs hp few hI h1 h2 h4
   have el:lvl f L = L:=by simp [lvl,hp]
   refine .push (f':=⟨.many p,i,t,h,ks⟩) (p:=p) (j:=h) (b':=b) (ok':=p.may mb) (w':=p.wt) few hs (by simp [lvlOk,hp]) (by rw [el]; exact sub h b h1 h2 hI) fun a' b'' hI' hf => ?_
   rw [el] at hI'
   have few':FewS B (⟨.many p,i,t,h,ks⟩:Fr κ) (some a') b'':=.of (Za h4 (mul_few hw (Zeb (Za (Nat.sub_le _ _) h2)) hW)) (hf.few (Za (Nat.le_mul_of_pos_left _ (by decide)) hw) hW) (hB.few hI')
   have fit:FitB true (2 * p.wt) txt.length i (some h,ks):=⟨h1,h2,fun zz => rfl,Za h4 (Znb _ (Nat.sub_le_sub_right (Nat.le_succ h) i))⟩
   obtain ⟨x,us⟩:=a'
   cases x with
   | none => exact .pop (a':=(some h,ks)) (b':=b'') few' rfl hI' fit
   | some e =>
     obtain ⟨g1,g2,g3,g4⟩:=hf
     by_cases he:e = h
     · refine .pop (a':=(some h,ks)) (b':=b'') few' ?_ hI' fit
       show (if e = h then _ else _) = _
       rw [if_pos he]
     · have hlt:h < e:=Nat.lt_of_le_of_ne g1 (Ne.symm he)
       first
       | exact (a_end hj hlt g2).elim
       | refine ih t e (ks ++ us) _ _ b'' (a_step hj hlt) ?_ rfl few' hI' (Za h1 g1) g2 ?_
         · show (if e = h then _ else _) = _
           rw [if_neg he]; rfl
         · rw [Zf,a_split h1 g1,Nat.mul_add]
           refine Zcb h4 (Za g4 (Za (Znb _ (a_many hlt)) (Zr ?_)))
           rw [← Nat.mul_assoc,Nat.mul_comm p.wt 2]
theorem ends_leaf {p:Pt} {i D:Nat} {L:List (Str × Nat)} {b:β} (hB:BkOk B I names mb W txt.length) (hs:stepOf G txt B (.new p i) none b = leafOut txt B p (.new p i) b) (hm:p.may mb = false) (hI:I L b):Ends G txt B I (p.may mb) p.wt i D L (.new p i) none b:=by
 have few:FewS B (.new p i:Fr κ) none b:=.new (hB.few hI)
 cases hb:B.look b with
 | none => exact ⟨none,.stop few (by rw [hs]; simp only [leafOut,hb]),(by intros; contradiction)⟩
 | some b' =>
   have hI':=hB.look hI hb
   cases hc:txt[i]? with
   | none => exact .pop (a':=(none,[])) (b':=b') few (by rw [hs]; simp only [leafOut,Fr.new,hb,hc]) hI' rfl
   | some c' =>
     by_cases ht:p.takesC c' = true
     · exact .pop (a':=(some (i + 1),[])) (b':=b') few (by rw [hs]; simp only [leafOut,Fr.new,hb,hc,ht,if_true]) hI' ⟨Nat.le_succ _,(Zb.mp hc).1,fun e => absurd e (Nat.succ_ne_self _),Zkb _⟩
     · exact .pop (a':=(none,[])) (b':=b') few (by rw [hs]; simp only [leafOut,Fr.new,hb,hc,ht]; rfl) hI' rfl
theorem ends (hG:GrOk G names mb ix R W) (hB:BkOk B I names mb W txt.length) (hW:(W + 1) * (txt.length + 1) ≤ 5000000):∀ (N n i m:Nat) (p:Pt) (L:List (Str × Nat)) (b:β),(txt.length - i) * R + (R - m) ≤ N → p.deep ≤ n → p.deep ≤ 12 → p.ok (· ∈ names) → p.wt ≤ W + 1 → (∀ y ∈ p.ahd mb,m ≤ ix y) → i ≤ txt.length → (∀ k ∈ L,k.2 < i ∨ (k.2 = i ∧ ix k.1 < m)) → I L b →
   Ends G txt B I (p.may mb) p.wt i (N * 14 + n) L (.new p i) none b:=by
 intro N
 induction N using Nat.strongRecOn with
 | ind N IH =>
 intro n
 induction n with
 | zero => intro i m p L b zz h; exact absurd (Za (Pt.deep_pos p) h) (Nat.not_succ_le_zero _)
 | succ n ih =>
   intro i m p L b hN hn hd hok hw ha hi hL hI
   have few0:∀ {q:Pt} {b:β},I L b → FewS B (.new q i:Fr κ) none b:=fun h => .new (hB.few h)
   have sub:∀ q h b,q ∈ p.kids → q.wt ≤ W + 1 → i ≤ h → h ≤ txt.length → (h = i → ∀ y ∈ q.ahd mb,y ∈ p.ahd mb) → I L b → Ends G txt B I (q.may mb) q.wt h (N * 14 + n) L (.new q h) none b:=by
     intro q h b hq hwq h1 h2 h3 hI
     have hdq:=Pt.kids_deep hq
     rcases Nat.eq_or_lt_of_le h1 with e | e
     · subst e
       exact ih i m q L b hN (Nat.le_of_succ_le_succ (Za hdq hn)) (Nat.le_of_succ_le (Za hdq hd)) (Pt.ok_kids hok q hq) hwq (fun y hy => ha y (h3 rfl y hy)) hi hL hI
     · exact ih h 0 q L b (a_meas e h2 hN) (Nat.le_of_succ_le_succ (Za hdq hn)) (Nat.le_of_succ_le (Za hdq hd)) (Pt.ok_kids hok q hq) hwq (fun zz zz => Zkb _) h2 (fun k hk => .inl ((hL k hk).elim (fun g => Nat.lt_trans g e) fun g => g.1 ▸ e)) hI
   cases p with
   | sign c => exact ends_leaf hB rfl rfl hI
   | span c d => exact ends_leaf hB rfl rfl hI
   | any => exact ends_leaf hB rfl rfl hI
   | rule x =>
     have hx:x ∈ names:=by simpa only [Pt.ok1,Pt.ok2,Pt.ok3,Pt.ok4,Pt.ok5,Pt.ok6,Pt.ok7,Pt.ok8] using hok
     have hm:m ≤ ix x:=ha x (by simp [Pt.ahd1])
     have hR:=hG.ixl x hx
     have hnL:(x,i) ∉ L:=fun h => (hL _ h).elim (Zub i) fun g => absurd g.2 (Zo.mpr hm)
     simp only [Pt.may3,Pt.wt1]
     cases hk:B.known b x i with
     | some a => exact .pop (a':=a) (b':=b) (few0 hI) (by simp [stepOf,Fr.new,hk]) hI (hB.known hI hx hi hk)
     | none =>
       cases hb:B.begun b x i with
       | none => exact ⟨none,.stop (few0 hI) (by simp [stepOf,Fr.new,hk,hb]),fun zz zz e => by cases e⟩
       | some b' =>
         have hlt:=a_rule hm hR hN
         have hIb:=hB.begun hI hx hi hnL hk hb
         refine .push (D:=N * 14 + n) (f':=.new (.rule x) i) (p:=G x) (j:=i) (b':=b') (ok':=(G x).may mb) (w':=(G x).wt) (few0 hI) (by simp [stepOf,Fr.new,hk,hb]) hnL ?_ fun a' b'' hI' hf => ?_
         · exact (IH _ hlt (G x).deep i (ix x + 1) (G x) ((x,i) :: L) b' (Zl _) (Zl _) (hG.deep x hx) (hG.part x hx) (Zeb (hG.wt x hx)) (fun y hy => hG.lead x hx y hy) hi (fun k hk => by
             rcases Zg.mp hk with rfl | hk
             · exact .inr ⟨rfl,Zs _⟩
             · rcases hL k hk with g | g
               · exact .inl g
               · exact .inr ⟨g.1,Nat.lt_succ_of_lt (Zz g.2 hm)⟩) hIb).le (a_dep hlt (hG.deep x hx))
         · have hf':FitB (mb x) W txt.length i a':=by
             unfold FitB at hf ⊢
             split at hf
             · exact ⟨hf.1,hf.2.1,fun e' => hG.bare x hx (hf.2.2.1 e'),Za hf.2.2.2 (Nat.mul_le_mul_right _ (hG.wt x hx))⟩
             · exact hf
           obtain ⟨g1,g2⟩:=hB.ended (show I ((x,i) :: L) b'' from hI') hx hi hnL hf'
           exact .pop (a':=B.told b'' x i a') (b':=B.ended b'' x i a') (.of (Zkb _) (hf.few (Zeb (hG.wt x hx)) hW) (hB.few (show I ((x,i) :: L) b'' from hI'))) (by simp [stepOf,Fr.new]) g1 g2
   | row ps =>
     simp only [Pt.may4,Pt.wt2] at hw ⊢
     refine ends_row hB hw hW (fun t q h b hq h1 h2 h3 hI => sub q h b (Zn hq) (Za (Pt.wts_mem (Zn hq)) hw) h1 h2 (fun e y hy => ?_) hI) ps.length 0 i [] _ _ b (Nat.zero_add _) rfl rfl (few0 hI) hI (Zl _) hi (fun zz => by simp [Pt.mayAll1]) (Zkb _)
     rw [Pt.ahd2]; exact Pt.ahdRow_at hq (h3 e) y hy
   | alt ps =>
     simp only [Pt.may5,Pt.wt3] at hw ⊢
     refine ends_alt hB hw hW (fun q b hq hI => sub q i b hq (Za (Pt.wts_mem hq) hw) (Zl _) hi (fun e y hy => ?_) hI) ps.length 0 i _ _ b (Nat.zero_add _) rfl rfl (few0 hI) hI
     rw [Pt.ahd3]; exact Pt.ahdAlt_at hq y hy
   | many q =>
     simp only [Pt.may1,Pt.wt4] at hw ⊢
     exact ends_many hB hw hW (fun h b h1 h2 hI => sub q h b (Zj.mpr rfl) (Za (Nat.le_mul_of_pos_left _ (by decide)) hw) h1 h2 (fun e y hy => by rw [Pt.ahd4]; exact hy) hI) _ 0 i [] _ _ b (Zl _) rfl rfl (few0 hI) hI (Zl _) hi (Zkb _)
   | nt q =>
     simp only [Pt.may2,Pt.wt5] at hw ⊢
     refine .push (D:=N * 14 + n) (f':=.new (.nt q) i) (p:=q) (j:=i) (b':=b) (ok':=q.may mb) (w':=q.wt) (few0 hI) (by simp [stepOf,Fr.new]) trivial (sub q i b (Zj.mpr rfl) hw (Zl _) hi (fun e y hy => by rw [Pt.ahd5]; exact hy) hI) fun a' b'' hI' hf => ?_
     have few':FewS B (.new (.nt q) i:Fr κ) (some a') b'':=.of (Zkb _) (hf.few hw hW) (hB.few hI')
     obtain ⟨x,us⟩:=a'
     cases x with
     | none => exact .pop (a':=(some i,[])) (b':=b'') few' rfl hI' ⟨Zl _,hi,fun zz => rfl,by simp⟩
     | some e => exact .pop (a':=(none,[])) (b':=b'') few' rfl hI' rfl
noncomputable def Fr.nr (f:Fr κ):Prop:=∀ n,f.piece ≠ .rule n
noncomputable def OutB (B:Bk β κ) (μ:List κ → Nat) (n:Nat) (p:Pt) (i:Nat) (b:β):Out β κ → Prop
 | .pop a b' => μ a.2 ≤ n ∧ (b' = b ∨ B.look b = some b')
 | .push f z1 z2 b' => μ f.kids ≤ n ∧ b' = b ∧ f.piece = p ∧ f.place = i
 | .stop => B.look b = none
noncomputable def ansM (μ:List κ → Nat):Option (An κ) → Nat
 | some a => μ a.2
 | none => 0
theorem step_out {μ:List κ → Nat} (h0:μ [] = 0) (ha:∀ xs ys,μ (xs ++ ys) ≤ μ xs + μ ys) {f:Fr κ} {a:Option (An κ)} {b:β} (hn:f.nr):OutB B μ (μ f.kids + ansM μ a) f.piece f.place b (stepOf G txt B f a b):=by
 obtain ⟨p,i,t,h,ks⟩:=f
 have z:∀ {n:Nat},μ [] ≤ n:=fun {n} => h0 ▸ Zkb n
 have leaf:∀ {n:Nat} {p:Pt},OutB B μ n p i b (leafOut txt B p (⟨p,i,t,h,ks⟩:Fr κ) b):=fun {n p} => by
   unfold leafOut
   cases hb:B.look b with
   | none => exact hb
   | some b' =>
     dsimp only
     cases txt[i]? with
     | none => exact ⟨z,.inr hb⟩
     | some x =>
       dsimp only
       cases p.takesC x with
       | false => exact ⟨z,.inr hb⟩
       | true => exact ⟨z,.inr hb⟩
 have row:∀ {n:Nat} {ps:List Pt} {F:Fr κ},μ F.kids ≤ n → OutB B μ n F.piece F.place b (rowOut ps F b):=fun {n ps F} hF => by
   unfold rowOut
   cases ps[F.turn]? with
   | some q => exact ⟨hF,rfl,rfl,rfl⟩
   | none => exact ⟨hF,.inl rfl⟩
 have alt:∀ {n:Nat} {ps:List Pt} {F:Fr κ},μ F.kids ≤ n → OutB B μ n F.piece F.place b (altOut ps F b):=fun {n ps F} hF => by
   unfold altOut
   cases ps[F.turn]? with
   | some q => exact ⟨hF,rfl,rfl,rfl⟩
   | none => exact ⟨z,.inl rfl⟩
 cases p with
 | sign x => exact leaf
 | span x y => exact leaf
 | any => exact leaf
 | rule n => exact absurd rfl (hn n)
 | row ps =>
   rcases a with zz | ⟨zz | e,us⟩
   · exact row (F:=⟨.row ps,i,t,h,ks⟩) (Zl _)
   · exact ⟨z,.inl rfl⟩
   · exact row (F:=Fr.nxt (Fr.on ⟨.row ps,i,t,h,ks⟩ e us)) (ha ks us)
 | alt ps =>
   rcases a with zz | ⟨zz | e,us⟩
   · exact alt (F:=⟨.alt ps,i,t,h,ks⟩) (Zl _)
   · exact alt (F:=Fr.nxt ⟨.alt ps,i,t,h,ks⟩) (Zy _ _)
   · exact ⟨Ztb _ _,.inl rfl⟩
 | many q =>
   rcases a with zz | ⟨zz | e,us⟩
   · exact ⟨Zl _,rfl,rfl,rfl⟩
   · exact ⟨Zy _ _,.inl rfl⟩
   · show OutB B μ _ _ _ b (if e = h then _ else _)
     by_cases he:e = h
     · rw [if_pos he]; exact ⟨Zy _ _,.inl rfl⟩
     · rw [if_neg he]; exact ⟨ha ks us,rfl,rfl,rfl⟩
 | nt q =>
   rcases a with zz | ⟨zz | e,us⟩
   · exact ⟨Zl _,rfl,rfl,rfl⟩
   · exact ⟨z,.inl rfl⟩
   · exact ⟨z,.inl rfl⟩
end
end
section
theorem getM_app {kept:List (Kid × An Kid)} {k k':Kid} {a:An Kid}:getM (kept ++ [(k,a)]) k' = (getM kept k').or (if k = k' then some a else none):=by
 unfold getM
 rw [List.find?_append]
 cases kept.find? fun p => p.1 = k' with
 | some x => rfl
 | none => by_cases e:k = k' <;> simp [e]
theorem getM_mem {kept:List (Kid × An Kid)} {k:Kid} {a:An Kid} (h:getM kept k = some a):(k,a) ∈ kept:=by
 obtain ⟨x,h1,rfl⟩:=Zpb.mp h
 have h2:=List.find?_some h1
 simp only [decide_eq_true_eq] at h2
 rw [← h2]; exact List.mem_of_find?_eq_some h1
theorem getM_none {kept:List (Kid × An Kid)} {k:Kid}:getM kept k = none ↔ k ∉ kept.map (·.1):=by
 unfold getM
 rw [Option.map_eq_none_iff,List.find?_eq_none,Zsb]
 exact ⟨fun h hh1 => by obtain ⟨x,h1,h2⟩:=hh1; exact h x h1 (by simpa using h2),fun h x h1 h2 => h ⟨x,h1,by simpa using h2⟩⟩
theorem setM_new {kept:List (Kid × An Kid)} {k:Kid} {a:An Kid} (h:getM kept k = none):setM kept k a = kept ++ [(k,a)]:=by
 unfold setM
 rw [if_neg]
 rw [getM_none] at h
 simpa using h
structure Mc (names:List Str) (mb:Str → Bool) (W len:Nat) (L:List Kid) (b:Mm):Prop where
 nodup:b.order.Nodup
 rng:∀ k ∈ b.order,k.1 ∈ names ∧ k.2 ≤ len
 live:∀ k ∈ L,k ∈ b.order ∧ getM b.kept k = none
 done:∀ k ∈ b.order,k ∈ L ∨ ∃ a,getM b.kept k = some a
 keys:(b.kept.map (·.1)).Nodup
 kin:∀ k ∈ b.kept.map (·.1),k ∈ b.order
 fit:∀ k a,getM b.kept k = some a → FitB (mb k.1) W len k.2 a
theorem fit_tell {mb:Bool} {w len:Nat} {k:Kid} {a:An Kid} (h:FitB mb w len k.2 a):FitB mb 1 len k.2 (tell k a):=by
 obtain ⟨x,us⟩:=a
 cases x with
 | none => rfl
 | some e =>
   obtain ⟨h1,h2,h3,zz⟩:=h
   refine ⟨h1,h2,h3,?_⟩
   show 1 ≤ 1 * (e + 1 - k.2)
   rw [Nat.one_mul]; exact Nat.sub_pos_of_lt (Nat.lt_succ_of_le h1)
theorem Mc.few {names:List Str} {mb:Str → Bool} {W len:Nat} {L:List Kid} {b:Mm} (h:Mc names mb W len L b):b.kept.length ≤ names.length * (len + 1) ∧ b.order.length ≤ names.length * (len + 1):=by
 have key:∀ {l:List Kid},l.Nodup → (∀ k ∈ l,k.1 ∈ names ∧ k.2 ≤ len) → l.length ≤ names.length * (len + 1):=fun {l} h1 h2 => by
   have:=len_sub (ns:=names.flatMap fun n => (List.range (len + 1)).map fun i => (n,i)) h1 fun k hk => by
     obtain ⟨g1,g2⟩:=h2 k hk
     simp only [List.mem_flatMap,Zsb,List.mem_range]
     exact ⟨k.1,g1,k.2,by lia,rfl⟩
   simpa [List.length_flatMap,List.map_const'] using this
 refine ⟨?_,key h.nodup h.rng⟩
 have:=key h.keys fun k hk => h.rng k (h.kin k hk)
 simpa using this
theorem mem_bkOk {names:List Str} {mb:Str → Bool} {W len:Nat} (hz:names.length * (len + 1) ≤ 5000000):BkOk memBk (Mc names mb W len) names mb W len where
 few:=fun h => ⟨Za h.few.1 hz,Za h.few.2 hz⟩
 look:=fun h e => by cases e; exact h
 known:=fun {L b n i a} h zz zz e => by
   obtain ⟨x,h1,rfl⟩:=Zpb.mp (show (getM b.kept (n,i)).map (tell (n,i)) = some a from e)
   exact fit_tell (k:=(n,i)) (h.fit _ _ h1)
 begun:=fun {L b b' n i} h hn hi hL hk e => by
   have hk:getM b.kept (n,i) = none:=Option.map_eq_none_iff.mp (show (getM b.kept (n,i)).map (tell (n,i)) = none from hk)
   have ho:(n,i) ∉ b.order:=fun q => by
     rcases h.done _ q with g | ⟨a,g⟩
     · exact hL g
     · rw [hk] at g; cases g
   cases e
   refine ⟨List.nodup_append.mpr ⟨h.nodup,by simp,fun x hx y hy => by cases Zj.mp hy; exact fun e => ho (e ▸ hx)⟩,fun k q => ?_,fun k q => ?_,fun k q => ?_,h.keys,fun k q => List.mem_append_left _ (h.kin k q),h.fit⟩
   · rcases Zm.mp q with q | q
     · exact h.rng k q
     · cases Zj.mp q; exact ⟨hn,hi⟩
   · rcases Zg.mp q with rfl | q
     · exact ⟨by simp,hk⟩
     · exact ⟨List.mem_append_left _ (h.live k q).1,(h.live k q).2⟩
   · rcases Zm.mp q with q | q
     · rcases h.done k q with g | g
       · exact .inl (Zd _ g)
       · exact .inr g
     · cases Zj.mp q; exact .inl (by simp)
 ended:=fun {L b n i a} h hn hi hL hf => by
   refine ⟨?_,fit_tell (k:=(n,i)) hf⟩
   obtain ⟨ho,hk⟩:=h.live (n,i) (by simp)
   show Mc names mb W len L ⟨setM b.kept (n,i) a,b.order⟩
   rw [setM_new hk]
   have hk':=getM_none.mp hk
   refine ⟨h.nodup,h.rng,fun k q => ?_,fun k q => ?_,?_,fun k q => ?_,fun k x e => ?_⟩
   · obtain ⟨g1,g2⟩:=h.live k (Zd _ q)
     refine ⟨g1,?_⟩
     show getM (b.kept ++ [((n,i),a)]) k = none
     rw [getM_app,g2,if_neg (fun e:(n,i) = k => hL (e ▸ q))]; rfl
   · show k ∈ L ∨ ∃ x,getM (b.kept ++ [((n,i),a)]) k = some x
     rw [getM_app]
     rcases h.done k q with g | ⟨x,g⟩
     · rcases Zg.mp g with rfl | g
       · rw [hk]; exact .inr ⟨a,by simp⟩
       · exact .inl g
     · rw [g]; exact .inr ⟨x,rfl⟩
   · show ((b.kept ++ [((n,i),a)]).map (·.1)).Nodup
     rw [List.map_append]
     exact List.nodup_append.mpr ⟨h.keys,by simp,fun x hx y hy => by cases Zj.mp hy; exact fun e => hk' ((show x = (n,i) from e) ▸ hx)⟩
   · have q:k ∈ (b.kept ++ [((n,i),a)]).map (·.1):=q
     rw [List.map_append] at q
     rcases Zm.mp q with q | q
     · exact h.kin k q
     · cases Zj.mp q; exact ho
   · have e:getM (b.kept ++ [((n,i),a)]) k = some x:=e
     rw [getM_app] at e
     cases g:getM b.kept k with
     | some y => rw [g] at e; cases e; exact h.fit k _ g
     | none =>
       rw [g] at e
       by_cases q:(n,i) = k
       · subst q
         simp at e; subst e; exact hf
       · simp [q] at e
theorem Mc.nil {names:List Str} {mb:Str → Bool} {W len:Nat}:Mc names mb W len [] ⟨[],[]⟩:=⟨List.nodup_nil,(by intros; contradiction),(by intros; contradiction),(by intros; contradiction),List.nodup_nil,(by intros; contradiction),(by intros; contradiction)⟩
inductive Ev (G:Str → Pt) (txt:List Nat) (K:Kid → Option (An Kid)):Fr Kid → Option (An Kid) → An Kid → List Kid → Prop where
 | pop {f:Fr Kid} {a:Option (An Kid)} {a':An Kid} {b b':Mm}:f.nr → stepOf G txt memBk f a b = .pop a' b' → Ev G txt K f a a' []
 | ask {f:Fr Kid} {n:Str} {a:An Kid}:f.piece = .rule n → K (n,f.place) = some a → Ev G txt K f none (tell (n,f.place) a) [(n,f.place)]
 | push {f f':Fr Kid} {a:Option (An Kid)} {a' o:An Kid} {p:Pt} {i:Nat} {b b':Mm} {as as':List Kid}:f.nr → stepOf G txt memBk f a b = .push f' p i b' → Ev G txt K (.new p i) none a' as → Ev G txt K f' (some a') o as' → Ev G txt K f a o (as ++ as')
theorem Ev.mono {G:Str → Pt} {txt:List Nat} {K K':Kid → Option (An Kid)} (hk:∀ k a,K k = some a → K' k = some a) {f:Fr Kid} {a:Option (An Kid)} {o:An Kid} {as:List Kid} (h:Ev G txt K f a o as):Ev G txt K' f a o as:=by
 induction h with
 | pop h1 h2 => exact .pop h1 h2
 | ask h1 h2 => exact .ask h1 (hk _ _ h2)
 | push h1 h2 z1 z2 ih1 ih2 => exact .push h1 h2 ih1 ih2
theorem step_pop {G:Str → Pt} {txt:List Nat} {f:Fr Kid} {a:Option (An Kid)} {b b':Mm} {a':An Kid} (hn:f.nr) (h:stepOf G txt memBk f a b = .pop a' b'):b' = b:=by
 have:=step_out (B:=memBk) (G:=G) (txt:=txt) (μ:=fun zz => 0) rfl (fun zz zz => Zl _) (a:=a) (b:=b) hn
 rw [h] at this
 exact this.2.elim id fun e => (Zab e).symm
theorem step_psh {G:Str → Pt} {txt:List Nat} {f f':Fr Kid} {a:Option (An Kid)} {b b':Mm} {p:Pt} {i:Nat} (hn:f.nr) (h:stepOf G txt memBk f a b = .push f' p i b'):b' = b ∧ f'.piece = f.piece ∧ f'.place = f.place:=by
 have:=step_out (B:=memBk) (G:=G) (txt:=txt) (μ:=fun zz => 0) rfl (fun zz zz => Zl _) (a:=a) (b:=b) hn
 rw [h] at this
 exact this.2
theorem not_nr {κ:Type} {f:Fr κ} (h:¬ f.nr):∃ n,f.piece = .rule n:=Classical.byContradiction fun q => h fun n e => q ⟨n,e⟩
theorem step_ask {G:Str → Pt} {txt:List Nat} {f:Fr Kid} {b:Mm} {n:Str} (hn:f.piece = .rule n):(∃ x,getM b.kept (n,f.place) = some x ∧ stepOf G txt memBk f none b = .pop (tell (n,f.place) x) b) ∨ (getM b.kept (n,f.place) = none ∧ stepOf G txt memBk f none b = .push f (G n) f.place ⟨b.kept,b.order ++ [(n,f.place)]⟩):=by
 cases hk:getM b.kept (n,f.place) with
 | some x => exact .inl ⟨x,rfl,by simp only [stepOf,hn,memBk,hk,Option.map_some]⟩
 | none => exact .inr ⟨rfl,by simp only [stepOf,hn,memBk,hk,Option.map_none]⟩
inductive Dfs (Ak:Kid → List Kid → Prop):List Kid → List Kid → List Kid → Prop where
 | nil {o:List Kid}:Dfs Ak [] o o
 | old {k:Kid} {r o o':List Kid}:k ∈ o → Dfs Ak r o o' → Dfs Ak (k :: r) o o'
 | new {k:Kid} {as r o o':List Kid}:k ∉ o → Ak k as → Dfs Ak (as ++ r) (o ++ [k]) o' → Dfs Ak (k :: r) o o'
theorem Dfs.mono {Ak Ak':Kid → List Kid → Prop} (hm:∀ k as,Ak k as → Ak' k as) {r o o':List Kid} (h:Dfs Ak r o o'):Dfs Ak' r o o':=by
 induction h with
 | nil => exact .nil
 | old h z1 ih => exact .old h ih
 | new h h' z1 ih => exact .new h (hm _ _ h') ih
theorem Dfs.app {Ak:Kid → List Kid → Prop} {r r' o o' o'':List Kid} (h:Dfs Ak r o o') (h':Dfs Ak r' o' o''):Dfs Ak (r ++ r') o o'':=by
 induction h with
 | nil => exact h'
 | old h z1 ih => exact .old h (ih h')
 | new h g z1 ih => exact .new h g (Ze _ _ _ ▸ ih h')
noncomputable def Ak (G:Str → Pt) (txt:List Nat) (b:Mm) (k:Kid) (as:List Kid):Prop:=∃ a,getM b.kept k = some a ∧ Ev G txt (getM b.kept) (.new (G k.1) k.2) none a as
structure MI (G:Str → Pt) (txt:List Nat) (L:List Kid) (b:Mm):Prop where
 live:∀ k ∈ L,k ∈ b.order ∧ getM b.kept k = none
 done:∀ k ∈ b.order,k ∈ L ∨ ∃ as,Ak G txt b k as
 kin:∀ k a,getM b.kept k = some a → k ∈ b.order
theorem Ak.mono {G:Str → Pt} {txt:List Nat} {b b':Mm} (h:∀ k a,getM b.kept k = some a → getM b'.kept k = some a) (k:Kid) (as:List Kid) (x:Ak G txt b k as):Ak G txt b' k as:=by
 obtain ⟨a,h1,h2⟩:=x
 exact ⟨a,h _ _ h1,h2.mono h⟩
theorem MI.ended {G:Str → Pt} {txt:List Nat} {L:List Kid} {b:Mm} {k:Kid} {a:An Kid} {as:List Kid} (h:MI G txt (k :: L) b) (hl:k ∉ L) (ha:Ev G txt (getM b.kept) (.new (G k.1) k.2) none a as):MI G txt L ⟨b.kept ++ [(k,a)],b.order⟩ ∧ Ak G txt ⟨b.kept ++ [(k,a)],b.order⟩ k as ∧ ∀ x y,getM b.kept x = some y → getM (b.kept ++ [(k,a)]) x = some y:=by
 obtain ⟨ho,hk⟩:=h.live k (Zt ..)
 have up:∀ x y,getM b.kept x = some y → getM (b.kept ++ [(k,a)]) x = some y:=fun x y e => by rw [getM_app,e]; rfl
 have hkk:getM (b.kept ++ [(k,a)]) k = some a:=by rw [getM_app,hk,if_pos rfl]; rfl
 have aks:Ak G txt ⟨b.kept ++ [(k,a)],b.order⟩ k as:=⟨a,hkk,ha.mono up⟩
 refine ⟨⟨fun x q => ⟨(h.live x (Zd _ q)).1,?_⟩,fun x q => ?_,fun x y e => ?_⟩,aks,up⟩
 · show getM (b.kept ++ [(k,a)]) x = none
   rw [getM_app,(h.live x (Zd _ q)).2,if_neg (fun e:k = x => hl (e ▸ q))]; rfl
 · rcases h.done x q with g | ⟨as',g⟩
   · rcases Zg.mp g with rfl | g
     · exact .inr ⟨_,aks⟩
     · exact .inl g
   · exact .inr ⟨as',Ak.mono (b':=⟨b.kept ++ [(k,a)],b.order⟩) up _ _ g⟩
 · have e:getM (b.kept ++ [(k,a)]) x = some y:=e
   by_cases q:k = x
   · exact q ▸ ho
   · rw [getM_app,if_neg q,Option.or_none] at e
     exact h.kin x y e
theorem MI.begun {G:Str → Pt} {txt:List Nat} {L:List Kid} {b:Mm} {k:Kid} (h:MI G txt L b) (hl:k ∉ L) (hk:getM b.kept k = none):MI G txt (k :: L) ⟨b.kept,b.order ++ [k]⟩ ∧ k ∉ b.order:=by
 refine ⟨⟨fun x q => ?_,fun x q => ?_,fun x y e => List.mem_append_left _ (h.kin x y e)⟩,fun q => ?_⟩
 · rcases Zg.mp q with rfl | q
   · exact ⟨List.mem_append_right _ (Zj.mpr rfl),hk⟩
   · exact ⟨List.mem_append_left _ (h.live x q).1,(h.live x q).2⟩
 · rcases Zm.mp q with q | q
   · exact (h.done x q).imp (Zd _) id
   · exact .inl (Zj.mp q ▸ Zt ..)
 · rcases h.done _ q with g | ⟨zz,x,g,zz⟩
   · exact hl g
   · rw [hk] at g; cases g
inductive MemR (G:Str → Pt) (txt:List Nat) (L:List Kid) (f:Fr Kid) (a:Option (An Kid)) (b:Mm) (a':An Kid) (b':Mm):Prop where
 | mk (as:List Kid) (h1:MI G txt L b') (h2:∀ k x,getM b.kept k = some x → getM b'.kept k = some x) (h3:Ev G txt (getM b'.kept) f a a' as) (h4:Dfs (Ak G txt b') as b.order b'.order):MemR G txt L f a b a' b'
theorem Bs.mem {G:Str → Pt} {txt:List Nat} {D:Nat} {L:List Kid} {f:Fr Kid} {a:Option (An Kid)} {b:Mm} {o:Option (An Kid × Mm)} (h:Bs G txt memBk D L f a b o):∀ a' b',o = some (a',b') → (f.nr ∨ a = none) → MI G txt L b → MemR G txt L f a b a' b':=by
 induction h with
 | stop => exact (by intros; contradiction)
 | dead => exact (by intros; contradiction)
 | @pop D L f a b b' a' w hs =>
   intro zz zz e hr hI
   cases e
   by_cases hn:f.nr
   · cases step_pop hn hs
     exact ⟨[],hI,fun zz zz e => e,.pop hn hs,.nil⟩
   · obtain rfl:=hr.resolve_left hn
     obtain ⟨n,hn⟩:=not_nr hn
     rcases step_ask (G:=G) (txt:=txt) (b:=b) hn with ⟨x,h1,h2⟩ | ⟨zz,h2⟩
     · rw [h2] at hs; cases hs
       exact ⟨_,hI,fun zz zz e => e,.ask hn h1,.old (hI.kin _ _ h1) .nil⟩
     · rw [h2] at hs; cases hs
 | @push D L f f' a b b' b'' p i a' o w hs hl h1 h2 ih1 ih2 =>
   intro a₂ b₂ e hr hI
   by_cases hn:f.nr
   · obtain ⟨rfl,hp,zz⟩:=step_psh hn hs
     have el:lvl f L = L:=by
       have hm:∀ n,f.piece ≠ .rule n:=hn
       unfold lvl; revert hm
       exact f.piece.casesOn (fun _ _ => rfl) (fun _ _ _ => rfl) (fun _ => rfl) (fun n h => absurd rfl (h n)) (fun _ _ => rfl) (fun _ _ => rfl) (fun _ _ => rfl) fun _ _ => rfl
     rw [el] at ih1
     obtain ⟨as,g1,g2,g3,g4⟩:=ih1 _ _ rfl (.inr rfl) hI
     obtain ⟨as',k1,k2,k3,k4⟩:=ih2 _ _ e (.inl fun n e => hn n (hp ▸ e)) g1
     exact ⟨as ++ as',k1,fun k x hx => k2 _ _ (g2 _ _ hx),.push hn hs (g3.mono k2) k3,(g4.mono (Ak.mono k2)).app k4⟩
   · obtain rfl:=hr.resolve_left hn
     obtain ⟨n,hn⟩:=not_nr hn
     have hl:(n,f.place) ∉ L:=by simpa only [lvlOk,hn] using hl
     rcases step_ask (G:=G) (txt:=txt) (b:=b) hn with ⟨x,zz,q⟩ | ⟨hk,q⟩
     · rw [q] at hs; cases hs
     · rw [q] at hs; cases hs
       have el:lvl f L = (n,f.place) :: L:=by simp only [lvl,hn]
       rw [el] at ih1
       obtain ⟨m1,m2⟩:=hI.begun hl hk
       obtain ⟨as,g1,g2,g3,g4⟩:=ih1 _ _ rfl (.inr rfl) m1
       have hs2:stepOf G txt memBk f (some a') b'' = .pop (tell (n,f.place) a') ⟨b''.kept ++ [((n,f.place),a')],b''.order⟩:=by
         simp only [stepOf,hn]; show Out.pop _ (Mm.mk (setM b''.kept (n,f.place) a') b''.order) = _; rw [setM_new (g1.live _ (Zt ..)).2]; rfl
       obtain ⟨k1,k2,k3⟩:=g1.ended hl g3
       obtain ⟨e1,e2⟩:=Prod.mk.inj (Zab (e.symm.trans (h2.pops hs2)))
       rw [e1,e2]
       obtain ⟨x,hx,hx'⟩:=k2
       have hxa:getM (b''.kept ++ [((n,f.place),a')]) (n,f.place) = some a':=by rw [getM_app,(g1.live _ (Zt ..)).2,if_pos rfl]; rfl
       exact ⟨_,k1,fun k x e => k3 _ _ (g2 _ _ e),.ask hn hxa,.new m2 ⟨x,hx,hx'⟩ (by rw [List.append_nil]; exact g4.mono (Ak.mono k3))⟩
end
section
inductive Seqd (K:Kid → Option (An Kid)):Nat → List Kid → Nat → Prop where
 | nil {i e:Nat}:i ≤ e → Seqd K i [] e
 | cons {i e e1:Nat} {k:Kid} {us r:List Kid}:i ≤ k.2 → k.2 ≤ e1 → K k = some (some e1,us) → Seqd K e1 r e → Seqd K i (k :: r) e
theorem Seqd.le {K:Kid → Option (An Kid)} {i e:Nat} {ks:List Kid} (h:Seqd K i ks e):i ≤ e:=by
 induction h with
 | nil h => exact h
 | cons h1 h2 z1 z2 ih => exact Za h1 (Za h2 ih)
theorem Seqd.down {K:Kid → Option (An Kid)} {i j e:Nat} {ks:List Kid} (h:Seqd K i ks e) (hj:j ≤ i):Seqd K j ks e:=by
 cases h with
 | nil h => exact .nil (Za hj h)
 | cons h1 h2 h3 h4 => exact .cons (Za hj h1) h2 h3 h4
theorem Seqd.app {K:Kid → Option (An Kid)} {i h e:Nat} {ks us:List Kid} (x:Seqd K i ks h) (y:Seqd K h us e):Seqd K i (ks ++ us) e:=by
 induction x with
 | nil h => exact y.down h
 | cons h1 h2 h3 z1 ih => exact .cons h1 h2 h3 (ih y)
theorem Seqd.at {K:Kid → Option (An Kid)} {i e:Nat} {ks:List Kid} (h:Seqd K i ks e):∀ k ∈ ks,i ≤ k.2 ∧ ∃ e1 us,K k = some (some e1,us) ∧ k.2 ≤ e1 ∧ e1 ≤ e:=by
 induction h with
 | nil => nofun
 | cons h1 h2 h3 h4 ih =>
   intro k hk
   rcases Zg.mp hk with rfl | hk
   · exact ⟨h1,_,_,h3,h2,h4.le⟩
   · obtain ⟨g1,g2⟩:=ih k hk
     exact ⟨Za h1 (Za h2 g1),g2⟩
section
variable {txt:List Nat} {K:Kid → Option (An Kid)} {mb:Str → Bool}
noncomputable def KidsOk (K:Kid → Option (An Kid)) (mb:Str → Bool) (p:Pt) (i:Nat) (a:An Kid):Prop:=∀ e,a.1 = some e → Seqd K i a.2 e ∧ (e = i → p.may mb = true) ∧ ∀ k ∈ a.2,p.Asks k.1 ∧ (k.2 = i → k.1 ∈ p.ahd mb)
noncomputable def WaitOk (K:Kid → Option (An Kid)) (mb:Str → Bool) (f:Fr Kid) (x:An Kid):Prop:=match f.piece with
 | .row ps => ∃ q,ps[f.turn]? = some q ∧ Seqd K f.place f.kids f.here ∧ (f.here = f.place → Pt.mayAll mb (ps.take f.turn) = true) ∧ (∀ k ∈ f.kids,(Pt.row ps).Asks k.1 ∧ (k.2 = f.place → k.1 ∈ Pt.ahdRow mb ps)) ∧ KidsOk K mb q f.here x
 | .alt ps => ∃ q ∈ ps,KidsOk K mb q f.place x
 | .many q => Seqd K f.place f.kids f.here ∧ (∀ k ∈ f.kids,(Pt.many q).Asks k.1 ∧ (k.2 = f.place → k.1 ∈ q.ahd mb)) ∧ KidsOk K mb q f.here x
 | z1 => True
noncomputable def OutOk (K:Kid → Option (An Kid)) (mb:Str → Bool) (p:Pt) (i:Nat):Out Mm Kid → Prop
 | .pop a z1 => KidsOk K mb p i a
 | .push f q j z1 => ∀ x,KidsOk K mb q j x → WaitOk K mb f x
 | .stop => True
theorem kids_none {p:Pt} {i:Nat} {us:List Kid}:KidsOk K mb p i (none,us):=nofun
theorem leaf_ok {p:Pt} {f:Fr Kid} {b:Mm}:OutOk K mb p f.place (leafOut txt memBk p f b):=by
 simp only [leafOut,memBk]
 split
 · split
   · exact fun e he => by cases he; exact ⟨.nil (Nat.le_succ _),fun he => absurd he (Nat.succ_ne_self _),(by intros; contradiction)⟩
   · exact kids_none
 · exact kids_none
set_option tactic.hygienic true in
theorem row_ok {b:Mm} {ps:List Pt} {i t h:Nat} {ks:List Kid} (h1:Seqd K i ks h) (h2:h = i → Pt.mayAll mb (ps.take t) = true) (h3:∀ k ∈ ks,(Pt.row ps).Asks k.1 ∧ (k.2 = i → k.1 ∈ Pt.ahdRow mb ps)):OutOk K mb (.row ps) i (rowOut ps (⟨.row ps,i,t,h,ks⟩:Fr Kid) b):=by
 unfold rowOut
 split
 · rename_i q hq; exact fun x hx => ⟨q,hq,h1,h2,h3,hx⟩
 · rename_i hq
   have ht:=List.getElem?_eq_none_iff.mp hq
   intro e he; cases he
   refine ⟨h1,fun he => ?_,fun k hk => by rw [Pt.ahd2]; exact h3 k hk⟩
   rw [Pt.may4,← List.take_of_length_le ht]; exact h2 he
set_option tactic.hygienic true in
theorem alt_ok {b:Mm} {ps:List Pt} {f:Fr Kid} (hf:f.piece = .alt ps):OutOk K mb (.alt ps) f.place (altOut ps f b):=by
 unfold altOut
 split
 · rename_i q hq; intro x hx; unfold WaitOk; rw [hf]; exact ⟨q,Zn hq,hx⟩
 · exact kids_none
theorem step_ok {G:Str → Pt} {b:Mm} {f:Fr Kid} {a:Option (An Kid)} (hn:f.nr) (w0:a = none → f = .new f.piece f.place) (w1:∀ x,a = some x → WaitOk K mb f x):OutOk K mb f.piece f.place (stepOf G txt memBk f a b):=by
 obtain ⟨p,i,t,h,ks⟩:=f
 cases p with
 | rule n => exact absurd rfl (hn n)
 | sign c => exact leaf_ok
 | span c d => exact leaf_ok
 | any => exact leaf_ok
 | row ps =>
   rcases a with zz | ⟨zz | e,us⟩
   · have e1:t = 0:=congrArg Fr.turn (w0 rfl)
     have e2:h = i:=congrArg Fr.here (w0 rfl)
     have e3:ks = []:=congrArg Fr.kids (w0 rfl)
     subst e1 e2 e3
     exact row_ok (.nil (Zl _)) (fun zz => by simp [Pt.mayAll1]) (by intros; contradiction)
   · exact kids_none
   · obtain ⟨q,q1,q2,q3,q4,q5⟩:=w1 _ rfl
     obtain ⟨r1,r2,r3⟩:=q5 e rfl
     have l1:i ≤ h:=q2.le
     have l2:h ≤ e:=r1.le
     refine row_ok (q2.app r1) (fun he => ?_) fun k hk => ?_
     · have he:e = i:=he
       exact Pt.mayAll_next q1 (q3 (Nat.le_antisymm (he ▸ l2) l1)) (r2 (Nat.le_antisymm (he ▸ l1) l2))
     · rcases Zm.mp hk with hk | hk
       · exact q4 k hk
       · have l3:h ≤ k.2:=(r1.at k hk).1
         exact ⟨.deep (Zn q1) (r3 k hk).1,fun hi => Pt.ahdRow_at q1 (q3 (Nat.le_antisymm (hi ▸ l3) l1)) _ ((r3 k hk).2 (Nat.le_antisymm (hi ▸ l1) l3))⟩
 | alt ps =>
   rcases a with zz | ⟨zz | e,us⟩
   · exact alt_ok rfl
   · exact alt_ok (f:=Fr.nxt ⟨.alt ps,i,t,h,ks⟩) rfl
   · obtain ⟨q,q1,q2⟩:=w1 _ rfl
     intro e' he
     obtain ⟨r1,r2,r3⟩:=q2 e' he
     exact ⟨r1,fun x => by rw [Pt.may5]; exact Pt.mayAny_at q1 (r2 x),fun k hk => ⟨.deep q1 (r3 k hk).1,fun hi => by rw [Pt.ahd3]; exact Pt.ahdAlt_at q1 _ ((r3 k hk).2 hi)⟩⟩
 | many q =>
   have fin:∀ {x:An Kid},WaitOk K mb ⟨.many q,i,t,h,ks⟩ x → KidsOk K mb (.many q) i (some h,ks):=fun w e' he => by
     cases he
     exact ⟨w.1,fun zz => by rw [Pt.may1],fun k hk => by rw [Pt.ahd4]; exact w.2.1 k hk⟩
   rcases a with zz | ⟨zz | e,us⟩
   · have e1:t = 0:=congrArg Fr.turn (w0 rfl)
     have e2:h = i:=congrArg Fr.here (w0 rfl)
     have e3:ks = []:=congrArg Fr.kids (w0 rfl)
     subst e1 e2 e3
     exact fun x hx => ⟨.nil (Zl _),(by intros; contradiction),hx⟩
   · exact fin (w1 _ rfl)
   · show OutOk K mb _ _ (if e = h then _ else _)
     by_cases he:e = h
     · rw [if_pos he]; exact fin (w1 _ rfl)
     · rw [if_neg he]
       obtain ⟨q2,q4,q5⟩:=w1 _ rfl
       obtain ⟨r1,r2,r3⟩:=q5 e rfl
       have l1:i ≤ h:=q2.le
       refine fun x hx => ⟨q2.app r1,fun k hk => ?_,hx⟩
       rcases Zm.mp (show k ∈ ks ++ us from hk) with hk | hk
       · exact q4 k hk
       · have l3:h ≤ k.2:=(r1.at k hk).1
         refine ⟨.deep (by simp [Pt.kids3]) (r3 k hk).1,fun hi => (r3 k hk).2 ?_⟩
         have hi:k.2 = i:=hi
         exact Nat.le_antisymm (hi ▸ l1) l3
 | nt q =>
   rcases a with zz | ⟨zz | e,us⟩
   · exact fun zz zz => trivial
   · exact fun e he => by cases he; exact ⟨.nil (Zl _),fun zz => by rw [Pt.may2],(by intros; contradiction)⟩
   · exact kids_none
theorem Ev.kids {G:Str → Pt} (hK:∀ k a,K k = some a → ∀ e,a.1 = some e → k.2 ≤ e ∧ (e = k.2 → mb k.1 = true)) {f:Fr Kid} {a:Option (An Kid)} {o:An Kid} {as:List Kid} (h:Ev G txt K f a o as) :
   (a = none → f = .new f.piece f.place) → (∀ x,a = some x → WaitOk K mb f x) → KidsOk K mb f.piece f.place o:=by
 induction h with
 | @ask f n a h1 h2 =>
   intro zz zz e he
   obtain ⟨x,us⟩:=a
   cases x with
   | none => cases he
   | some e1 =>
     cases he
     obtain ⟨g1,g2⟩:=hK _ _ h2 e rfl
     refine ⟨.cons (Zl _) g1 h2 (.nil (Zl _)),fun q => ?_,fun k hk => ?_⟩
     · rw [h1,Pt.may3]; exact g2 q
     · cases Zj.mp hk; rw [h1,Pt.ahd1]; exact ⟨.here,fun zz => Zj.mpr rfl⟩
 | @pop f a a' b b' hn hs =>
   intro w0 w1
   have:=step_ok (G:=G) (txt:=txt) (b:=b) hn w0 w1
   rw [hs] at this; exact this
 | @push f f' a a' o p i b b' as as' hn hs z1 z2 ih1 ih2 =>
   intro w0 w1
   have:=step_ok (G:=G) (txt:=txt) (b:=b) hn w0 w1
   rw [hs] at this
   obtain ⟨zz,s1,s2⟩:=step_psh hn hs
   have k:=ih2 (by intros; contradiction) (fun x e => by cases e; exact this _ (ih1 (fun zz => rfl) (by intros; contradiction)))
   rw [s1,s2] at k; exact k
end
noncomputable abbrev Row:=Nat × Kid × Nat
inductive Tr (K:Kid → Option (An Kid)):Nat → List Kid → List Row → Prop where
 | nil {d:Nat}:Tr K d [] []
 | cons {d e:Nat} {k:Kid} {ks r:List Kid} {t t':List Row}:K k = some (some e,ks) → Tr K (d + 1) ks t → Tr K d r t' → Tr K d (k :: r) ((d,k,e) :: (t ++ t'))
inductive Walk (K:Kid → Option (An Kid)):List (Nat × Kid) → List Row → Prop where
 | nil:Walk K [] []
 | cons {d e:Nat} {k:Kid} {ks:List Kid} {r:List (Nat × Kid)} {t:List Row}:K k = some (some e,ks) → Walk K (ks.map (d + 1,·) ++ r) t → Walk K ((d,k) :: r) ((d,k,e) :: t)
theorem Tr.walk {K:Kid → Option (An Kid)} {d:Nat} {ks:List Kid} {t:List Row} (h:Tr K d ks t):∀ {r:List (Nat × Kid)} {t':List Row},Walk K r t' → Walk K (ks.map (d,·) ++ r) (t ++ t'):=by
 induction h with
 | nil => exact fun h => h
 | cons h1 z1 z2 ih1 ih2 => exact fun {r t'} h => .cons h1 ((Ze _ _ _).symm ▸ ih1 (ih2 h):Walk _ _ ((_ ++ _) ++ t'))
theorem Walk.len {K:Kid → Option (An Kid)} {r:List (Nat × Kid)} {t:List Row} (h:Walk K r t):r.length ≤ t.length:=by
 induction h with
 | nil => exact Zl _
 | cons z1 z2 ih => rw [Zf] at ih; exact Nat.succ_le_succ (Za (Ztb _ _) ih)
theorem a_meas1 {l h i R N m:Nat} (g:i < h) (hl:h ≤ l) (hN:(l - i) * (R + 1) + (R - m) ≤ N):(l - h) * (R + 1) + (R - 0) < N :=
 Zz (Nat.add_lt_add_left (Zs R) _) (Za (Zr (Nat.succ_mul (l - h) (R + 1)).symm) (Za (Nat.mul_le_mul_right _ (Nat.sub_lt_sub_left (Zz g hl) g)) (Za (Zy _ _) hN)))
theorem a_lead {X R a b:Nat} (h:a < b) (hb:b < R):X + (R - b) < X + (R - a):=Nat.add_lt_add_left (Nat.sub_lt_sub_left (Nat.lt_trans h hb) h) X
theorem Tr.ex {G:Str → Pt} {txt:List Nat} {names:List Str} {mb:Str → Bool} {ix:Str → Nat} {R W:Nat} {b:Mm} (hG:GrOk G names mb ix R W) (hm:Mc names mb W txt.length [] b) (hi:MI G txt [] b) :
   ∀ (N d:Nat) (k:Kid) (e:Nat) (ks:List Kid),getM b.kept k = some (some e,ks) → (txt.length - k.2) * (R + 1) + (R - ix k.1) < N → ∃ t,Tr (getM b.kept) d [k] t:=by
 have hK:∀ k a,getM b.kept k = some a → ∀ e,a.1 = some e → k.2 ≤ e ∧ (e = k.2 → mb k.1 = true):=fun k a h e he => by
   have hw:=hm.fit k a h
   unfold FitB at hw; rw [he] at hw; exact ⟨hw.1,hw.2.2.1⟩
 intro N
 induction N with
 | zero => intro zz zz zz zz zz h; exact absurd h (Nat.not_lt_zero _)
 | succ N ih =>
   intro d k e ks hk hN
   have ho:=hi.kin k _ hk
   obtain ⟨hkn,hkl⟩:=hm.rng k ho
   obtain ⟨as,a,h1,h2⟩:=(hi.done k ho).resolve_left nofun
   rw [hk] at h1; cases h1
   obtain ⟨s1,s2,s3⟩:=h2.kids hK (fun zz => rfl) (by intros; contradiction) e rfl
   have s1:Seqd (getM b.kept) k.2 ks e:=s1
   have lst:∀ l:List Kid,(∀ x ∈ l,x ∈ ks) → ∃ t,Tr (getM b.kept) (d + 1) l t:=by
     intro l
     induction l with
     | nil => exact fun zz => ⟨_,.nil⟩
     | cons x r ihr =>
       intro hl
       obtain ⟨t',ht'⟩:=ihr fun y hy => hl y (Zd _ hy)
       have hx:=hl x (by simp)
       obtain ⟨g1,e1,us,g2,g3,g4⟩:=s1.at x hx
       obtain ⟨hxn,hxl⟩:=hm.rng x (hi.kin x _ g2)
       have lt:(txt.length - x.2) * (R + 1) + (R - ix x.1) < N:=by
         have i1:=hG.ixl x.1 hxn
         rcases Nat.eq_or_lt_of_le g1 with q | q
         · have:=hG.lead k.1 hkn x.1 ((s3 x hx).2 q.symm)
           rw [← q]; exact Zz (a_lead this i1) (Nat.le_of_lt_succ hN)
         · exact Zz (Zk (Nat.add_le_add_left (Nat.sub_le_sub_left (Zkb _) _) _) (a_meas1 q hxl (Zl _))) (Nat.le_of_lt_succ hN)
       obtain ⟨t,ht⟩:=ih (d + 1) x e1 us g2 lt
       cases ht with
       | cons q1 q2 q3 => exact ⟨_,.cons q1 q2 ht'⟩
   obtain ⟨t,ht⟩:=lst ks fun zz h => h
   exact ⟨_,.cons hk ht .nil⟩
theorem kept_kids {G:Str → Pt} {txt:List Nat} {names:List Str} {mb:Str → Bool} {W:Nat} {b:Mm} (hm:Mc names mb W txt.length [] b) (hi:MI G txt [] b) {k:Kid} {e:Nat} {ks:List Kid} (hk:getM b.kept k = some (some e,ks)) :
   Seqd (getM b.kept) k.2 ks e ∧ (∀ x ∈ ks,(G k.1).Asks x.1) ∧ ks.length ≤ W * (txt.length + 1):=by
 have ho:=hi.kin k _ hk
 obtain ⟨as,a,h1,h2⟩:=(hi.done k ho).resolve_left nofun
 rw [hk] at h1; cases h1
 obtain ⟨s1,s2,s3⟩:=h2.kids (mb:=mb) (fun k a h e he => by
   have hw:=hm.fit k a h
   unfold FitB at hw; rw [he] at hw; exact ⟨hw.1,hw.2.2.1⟩) (fun zz => rfl) (by intros; contradiction) e rfl
 obtain ⟨f1,f2,zz,f4⟩:=hm.fit k _ hk
 exact ⟨s1,fun x hx => (s3 x hx).1,Za f4 (Znb _ (a_sub f2))⟩
end
section
set_option genCtorIdx false in
end
section
theorem Bs.mem_go {G:Str → Pt} {txt:List Nat} {D:Nat} {L:List Kid} {f:Fr Kid} {a:Option (An Kid)} {b:Mm} {o:Option (An Kid × Mm)} (h:Bs G txt memBk D L f a b o):o ≠ none:=by
 induction h with
 | @stop D L f a b w hs =>
   by_cases hn:f.nr
   · have:=step_out (B:=memBk) (G:=G) (txt:=txt) (μ:=fun zz => 0) rfl (fun zz zz => Zl _) (a:=a) (b:=b) hn
     rw [hs] at this; cases this
   · obtain ⟨n,hn⟩:=not_nr hn
     cases a with
     | some x => simp only [stepOf,hn] at hs; cases hs
     | none => rcases step_ask (G:=G) (txt:=txt) (b:=b) hn with ⟨zz,zz,q⟩ | ⟨zz,q⟩ <;> rw [q] at hs <;> cases hs
 | pop => exact nofun
 | dead z1 z2 z3 z4 ih => exact ih
 | push z1 z2 z3 z4 z5 z6 ih => exact ih
theorem a_top {l i R:Nat}:(l - i) * R + (R - 0) ≤ (l + 1) * R:=by
 rw [Nat.succ_mul]; exact Nat.add_le_add_right (Nat.mul_le_mul_right _ (Nat.sub_le ..)) R
theorem Ev.rule {G:Str → Pt} {txt:List Nat} {K:Kid → Option (An Kid)} {n:Str} {i:Nat} {o:An Kid} {as:List Kid} (h:Ev G txt K (.new (.rule n) i) none o as):∃ a,K (n,i) = some a ∧ o = tell (n,i) a ∧ as = [(n,i)]:=by
 cases h with
 | pop h => exact absurd rfl (h n)
 | ask h h2 => cases h; exact ⟨_,h2,rfl,rfl⟩
 | push h => exact absurd rfl (h n)
theorem a_run {x:Nat} (h:x ≤ 4000000):x + 1 ≤ 5000000:=Za (Nat.succ_le_succ h) (by decide)
section
variable {G:Str → Pt} {txt:List Nat} {names:List Str} {mb:Str → Bool} {ix:Str → Nat} {R W:Nat} {b:Mm}
theorem mem_read (hG:GrOk G names mb ix R W) (hW:(W + 1) * (txt.length + 1) ≤ 5000000) (hz:names.length * (txt.length + 1) ≤ 5000000) (hD:(txt.length + 1) * R * 14 ≤ 4000000) (hm:Mc names mb W txt.length [] b) (hi:MI G txt [] b) {name:Str} {i:Nat} (hn:name ∈ names) (hl:i ≤ txt.length) :
   ∃ (n:Nat) (x:An Kid) (b':Mm),Fin G txt memBk (· = some (tell (name,i) x,b')) n ⟨[.new (.rule name) i],none,b⟩ ∧ getM b'.kept (name,i) = some x ∧ Mc names mb W txt.length [] b' ∧ MI G txt [] b' ∧ (∀ k y,getM b.kept k = some y → getM b'.kept k = some y) ∧ Dfs (Ak G txt b') [(name,i)] b.order b'.order:=by
 have hN:=a_top (l:=txt.length) (i:=i) (R:=R)
 obtain ⟨o,h1,h2⟩:=ends hG (mem_bkOk hz) hW _ 1 i 0 (.rule name) [] b hN (by simp [Pt.deep8]) (by simp [Pt.deep8]) (by simpa only [Pt.ok1,Pt.ok2,Pt.ok3,Pt.ok4,Pt.ok5,Pt.ok6,Pt.ok7,Pt.ok8] using hn) (by simp [Pt.wt1]) (fun zz zz => Zkb _) hl (by intros; contradiction) hm
 cases o with
 | none => exact absurd rfl h1.mem_go
 | some y =>
   obtain ⟨a',b'⟩:=y
   obtain ⟨as,k1,k2,k3,k4⟩:=h1.mem a' b' rfl (.inr rfl) hi
   obtain ⟨x,e1,rfl,rfl⟩:=k3.rule
   obtain ⟨n,hfin⟩:=h1.run (a_run hD)
   exact ⟨n,x,b',hfin,e1,(h2 _ _ rfl).1,k1,k2,k4⟩
theorem mem_tree (hG:GrOk G names mb ix R W) (hm:Mc names mb W txt.length [] b) (hi:MI G txt [] b) {k:Kid} {e:Nat} {ks:List Kid} (hk:getM b.kept k = some (some e,ks)):∃ t,Tr (getM b.kept) 0 [k] t :=
 Tr.ex hG hm hi _ 0 k e ks hk (Zs _)
end
theorem MI.nil {G:Str → Pt} {txt:List Nat}:MI G txt [] ⟨[],[]⟩:=⟨(by intros; contradiction),(by intros; contradiction),(by intros; contradiction)⟩
noncomputable def ixOf (rs:List (Str × Pt)) (n:Str):Nat:=(rs.map (·.1)).idxOf n
theorem ixOf_at {rs:List (Str × Pt)} (hn:(rs.map (·.1)).Nodup) {j:Nat} {r:Str × Pt} (h:rs[j]? = some r):ixOf rs r.1 = j:=by
 obtain ⟨h1,rfl⟩:=Zb.mp h
 have:=hn.idxOf_getElem j (by simpa using h1)
 simpa [ixOf] using this
theorem grOk_of {rs:List (Str × Pt)} {G:Str → Pt} {W:Nat} (hG:∀ r ∈ rs,G r.1 = r.2) (hg:GoodRules rs) (hl:Later rs) (hw:∀ r ∈ rs,r.2.wt ≤ W):GrOk G (rs.map (·.1)) (inB (turnsE rs rs.length)) (ixOf rs) rs.length W:=by
 have at_:∀ {P:Str → Prop},(∀ r ∈ rs,P r.1) → ∀ n ∈ rs.map (·.1),P n:=fun h n hn => by
   obtain ⟨r,hr,rfl⟩:=Zsb.mp hn
   exact h r hr
 refine ⟨at_ fun r hr => ?_,at_ fun r hr => ?_,at_ fun r hr => ?_,at_ fun r hr => ?_,at_ fun r hr => ?_,at_ fun r hr => ?_⟩
 · rw [hG r hr]
   exact Pt.ok_of _ r.2 (Zl _) (hg.all r hr).good (hg.all r hr).few fun m hm => (hg.all r hr).asks m hm
 · rw [hG r hr]; exact (hg.all r hr).deep
 · rw [hG r hr]; exact hw r hr
 · rw [hG r hr]
   intro y hy
   obtain ⟨j,hj⟩:=List.mem_iff_getElem?.mp hr
   obtain ⟨k,r',h1,h2,rfl⟩:=hl j r hj _ y hy
   rw [ixOf_at hg.nodup hj,ixOf_at hg.nodup h2]; exact h1
 · obtain ⟨j,hj⟩:=List.mem_iff_getElem?.mp hr
   rw [ixOf_at hg.nodup hj]; exact (Zb.mp hj).1
 · rw [hG r hr]
   intro h
   rw [inB_iff,← turnsE_end]
   exact mem_turnE.mpr ⟨r,hr,h,rfl⟩
end
section
mutual
theorem Pt.wt_le:∀ (n:Nat) (p:Pt),p.deep ≤ n → p.wt ≤ 2 ^ n * p.size
 | n,.sign z1,z2 => by rw [Pt.wt6]; exact Zkb _
 | n,.span z1 z2,z3 => by rw [Pt.wt7]; exact Zkb _
 | n,.any,z1 => by rw [Pt.wt8]; exact Zkb _
 | n,.rule z1,z2 => by rw [Pt.wt1,Pt.size8,Nat.mul_one]; exact Nat.one_le_two_pow
 | 0,.row ps,h => by rw [Pt.deep1] at h; cases h
 | 0,.alt ps,h => by rw [Pt.deep2] at h; cases h
 | 0,.many p,h => by rw [Pt.deep3] at h; cases h
 | 0,.nt p,h => by rw [Pt.deep4] at h; cases h
 | n + 1,.row ps,h => by rw [Pt.deep1] at h; rw [Pt.wt2,Pt.size1]; exact Za (Pt.wts_le n ps (Nat.le_of_succ_le_succ h)) (Nat.mul_le_mul (Nat.pow_le_pow_right (by decide) (Nat.le_succ n)) (Nat.le_succ _))
 | n + 1,.alt ps,h => by rw [Pt.deep2] at h; rw [Pt.wt3,Pt.size2]; exact Za (Pt.wts_le n ps (Nat.le_of_succ_le_succ h)) (Nat.mul_le_mul (Nat.pow_le_pow_right (by decide) (Nat.le_succ n)) (Nat.le_succ _))
 | n + 1,.nt p,h => by rw [Pt.deep4] at h; rw [Pt.wt5,Pt.size4]; exact Za (Pt.wt_le n p (Nat.le_of_succ_le_succ h)) (Nat.mul_le_mul (Nat.pow_le_pow_right (by decide) (Nat.le_succ n)) (Nat.le_succ _))
 | n + 1,.many p,h => by
   rw [Pt.deep3] at h
   rw [Pt.wt4,Pt.size3,Nat.pow_succ,Nat.mul_comm (2 ^ n) 2,Nat.mul_assoc]
   exact Znb 2 (Za (Pt.wt_le n p (Nat.le_of_succ_le_succ h)) (Znb _ (Nat.le_succ _)))
theorem Pt.wts_le:∀ (n:Nat) (ps:List Pt),Pt.deeps ps ≤ n → Pt.wts ps ≤ 2 ^ n * Pt.sizes ps
 | z1,[],z2 => by rw [Pt.wts1]; exact Zkb _
 | n,p :: r,h => by
   rw [Pt.deeps2] at h
   rw [Pt.wts2,Pt.sizes2,Nat.mul_add]
   exact Zcb (Pt.wt_le n p (Za (Nat.le_max_left ..) h)) (Pt.wts_le n r (Za (Nat.le_max_right ..) h))
end
theorem sure_wt {x:Pt} (h:x.sure):x.wt = 0:=h.rec (fun zz => rfl) (fun zz zz zz => rfl) rfl
theorem ruleP_wt {P R:Str → Prop} {x h t:Pt} (hx:x.sure) (hh:Piece P 7 78 h) (ht:Piece R 7 78 t) (k:Nat):(ruleP x h t k).wt ≤ 20000 :=
 have h1:h.wt ≤ 10000:=Za (Pt.wt_le 7 h hh.2.1) (Za (Znb _ hh.2.2) (by decide))
 have h2:t.wt ≤ 10000:=Za (Pt.wt_le 7 t ht.2.1) (Za (Znb _ ht.2.2) (by decide))
 have e:(Pt.row [x,h]).wt ≤ 10000:=(show x.wt + (h.wt + 0) ≤ 10000 by rw [sure_wt hx,Nat.zero_add]; exact h1)
 have al:∀ {p q:Pt},p.wt ≤ 10000 → q.wt ≤ 10000 → (Pt.alt [p,q]).wt ≤ 20000:=fun h g => Zcb h g
 AllP.get (C:=fun p => p.wt ≤ 20000) (.cons (al e h2) <| .cons (al h2 e) <| .cons (Za e (by decide)) .nil) (Za h2 (by decide)) k
theorem wrapP_wt (p:Pt):(wrapP p).wt = p.wt:=rfl
end
section
noncomputable abbrev Rs:=Option (Nat × List Kid)
noncomputable def leafO (txt:List Nat) (p:Pt) (i:Nat):Rs:=match txt[i]? with
 | some c => if p.takesC c then some (i + 1,[]) else none
 | none => none
noncomputable def anO (a:An Kid):Rs:=a.1.map fun e => (e,a.2)
noncomputable def onO (ks:List Kid) (o:Rs):Rs:=o.map fun r => (r.1,ks ++ r.2)
theorem onO_nil (o:Rs):onO [] o = o:=by cases o <;> rfl
theorem onO_on (ks us:List Kid) (o:Rs):onO ks (onO us o) = onO (ks ++ us) o:=by
 cases o with
 | none => rfl
 | some r => exact congrArg (fun x => some (r.1,x)) (Ze ks us r.2).symm
inductive Rv (txt:List Nat) (K:Kid → Option (An Kid)):Pt → Nat → Rs → List Kid → Prop where
 | leaf {p:Pt} {i:Nat} (h:p.isLf = true):Rv txt K p i (leafO txt p i) []
 | rule {n:Str} {i:Nat} {a:An Kid} (h:K (n,i) = some a):Rv txt K (.rule n) i (anO (tell (n,i) a)) [(n,i)]
 | rowE {i:Nat}:Rv txt K (.row []) i (some (i,[])) []
 | rowN {p:Pt} {ps:List Pt} {i:Nat} {as:List Kid} (h:Rv txt K p i none as):Rv txt K (.row (p :: ps)) i none as
 | rowC {p:Pt} {ps:List Pt} {i h:Nat} {ks:List Kid} {o:Rs} {as as':List Kid} (h1:Rv txt K p i (some (h,ks)) as) (h2:Rv txt K (.row ps) h o as'):Rv txt K (.row (p :: ps)) i (onO ks o) (as ++ as')
 | altE {i:Nat}:Rv txt K (.alt []) i none []
 | altY {p:Pt} {ps:List Pt} {i:Nat} {r:Nat × List Kid} {as:List Kid} (h:Rv txt K p i (some r) as):Rv txt K (.alt (p :: ps)) i (some r) as
 | altN {p:Pt} {ps:List Pt} {i:Nat} {o:Rs} {as as':List Kid} (h1:Rv txt K p i none as) (h2:Rv txt K (.alt ps) i o as'):Rv txt K (.alt (p :: ps)) i o (as ++ as')
 | manyN {p:Pt} {i:Nat} {as:List Kid} (h:Rv txt K p i none as):Rv txt K (.many p) i (some (i,[])) as
 | manyE {p:Pt} {i:Nat} {ks as:List Kid} (h:Rv txt K p i (some (i,ks)) as):Rv txt K (.many p) i (some (i,[])) as
 | manyC {p:Pt} {i h:Nat} {ks:List Kid} {o:Rs} {as as':List Kid} (h1:Rv txt K p i (some (h,ks)) as) (hne:h ≠ i) (h2:Rv txt K (.many p) h o as'):Rv txt K (.many p) i (onO ks o) (as ++ as')
 | ntY {p:Pt} {i:Nat} {as:List Kid} (h:Rv txt K p i none as):Rv txt K (.nt p) i (some (i,[])) as
 | ntN {p:Pt} {i:Nat} {r:Nat × List Kid} {as:List Kid} (h:Rv txt K p i (some r) as):Rv txt K (.nt p) i none as
noncomputable def RvI (txt:List Nat) (K:Kid → Option (An Kid)) (p:Pt) (i:Nat) (o:Rs) (as:List Kid):Prop:=match p with
 | .row [] => o = some (i,[]) ∧ as = []
 | .row (p :: ps) => (o = none ∧ Rv txt K p i none as) ∨ ∃ h ks o' as1 as2,Rv txt K p i (some (h,ks)) as1 ∧ Rv txt K (.row ps) h o' as2 ∧ o = onO ks o' ∧ as = as1 ++ as2
 | .alt [] => o = none ∧ as = []
 | .alt (p :: ps) => (∃ r,o = some r ∧ Rv txt K p i (some r) as) ∨ ∃ as1 as2,Rv txt K p i none as1 ∧ Rv txt K (.alt ps) i o as2 ∧ as = as1 ++ as2
 | .many p => (o = some (i,[]) ∧ (Rv txt K p i none as ∨ ∃ ks,Rv txt K p i (some (i,ks)) as)) ∨ ∃ h ks o' as1 as2,Rv txt K p i (some (h,ks)) as1 ∧ h ≠ i ∧ Rv txt K (.many p) h o' as2 ∧ o = onO ks o' ∧ as = as1 ++ as2
 | .nt p => (o = some (i,[]) ∧ Rv txt K p i none as) ∨ ∃ r,o = none ∧ Rv txt K p i (some r) as
 | .rule n => ∃ a,K (n,i) = some a ∧ o = anO (tell (n,i) a) ∧ as = [(n,i)]
 | p => o = leafO txt p i ∧ as = []
theorem Rv.inv {txt:List Nat} {K:Kid → Option (An Kid)} {p:Pt} {i:Nat} {o:Rs} {as:List Kid} (h:Rv txt K p i o as):RvI txt K p i o as :=
 h.rec (fun {p i} h => by cases p <;> first | exact ⟨rfl,rfl⟩ | exact (Zv h).elim) (fun h => ⟨_,h,rfl,rfl⟩) ⟨rfl,rfl⟩ (fun h z1 => .inl ⟨rfl,h⟩) (fun h1 h2 z1 z2 => .inr ⟨_,_,_,_,_,h1,h2,rfl,rfl⟩) ⟨rfl,rfl⟩ (fun h z1 => .inl ⟨_,rfl,h⟩) (fun h1 h2 z1 z2 => .inr ⟨_,_,h1,h2,rfl⟩) (fun h z1 => .inl ⟨rfl,.inl h⟩) (fun h z1 => .inl ⟨rfl,.inr ⟨_,h⟩⟩) (fun h1 hne h2 z1 z2 => .inr ⟨_,_,_,_,_,h1,hne,h2,rfl,rfl⟩) (fun h z1 => .inl ⟨rfl,h⟩) (fun h z1 => .inr ⟨_,rfl,h⟩)
section
variable {txt:List Nat} {K:Kid → Option (An Kid)}
noncomputable def Ct (txt:List Nat) (K:Kid → Option (An Kid)) (f:Fr Kid) (as0:List Kid):Prop:=match f.piece with
 | .row ps => ∀ o as,Rv txt K (.row (ps.drop f.turn)) f.here o as → Rv txt K (.row ps) f.place (onO f.kids o) (as0 ++ as)
 | .alt ps => ∀ o as,Rv txt K (.alt (ps.drop f.turn)) f.place o as → Rv txt K (.alt ps) f.place o (as0 ++ as)
 | .many q => ∀ o as,Rv txt K (.many q) f.here o as → Rv txt K (.many q) f.place (onO f.kids o) (as0 ++ as)
 | z1 => as0 = []
noncomputable def WtR (txt:List Nat) (K:Kid → Option (An Kid)) (f:Fr Kid) (x:An Kid) (as:List Kid):Prop:=match f.piece with
 | .row ps => ∃ q,ps[f.turn]? = some q ∧ Rv txt K q f.here (anO x) as
 | .alt ps => ∃ q,ps[f.turn]? = some q ∧ Rv txt K q f.place (anO x) as
 | .many q => Rv txt K q f.here (anO x) as
 | .nt q => Rv txt K q f.place (anO x) as
 | z1 => as = []
noncomputable def OutR (txt:List Nat) (K:Kid → Option (An Kid)) (p:Pt) (i:Nat) (as:List Kid):Out Mm Kid → Prop
 | .pop a z1 => Rv txt K p i (anO a) as
 | .push f q j z1 => Ct txt K f as ∧ ∀ x as',Rv txt K q j (anO x) as' → WtR txt K f x as'
 | .stop => True
theorem drop_hd {α:Type} {l:List α} {t:Nat} {x:α} (h:l[t]? = some x):l.drop t = x :: l.drop (t + 1):=by
 obtain ⟨h1,h2⟩:=Zb.mp h
 rw [List.drop_eq_getElem_cons h1,h2]
theorem rv_row {ps:List Pt} {i t h:Nat} {ks as:List Kid} {b:Mm} (c:∀ o as',Rv txt K (.row (ps.drop t)) h o as' → Rv txt K (.row ps) i (onO ks o) (as ++ as')):OutR txt K (.row ps) i as (rowOut ps (⟨.row ps,i,t,h,ks⟩:Fr Kid) b):=by
 unfold rowOut
 cases hq:ps[t]? with
 | some q => exact ⟨c,fun x as' hx => ⟨q,hq,hx⟩⟩
 | none =>
   have:=c (some (h,[])) [] (by rw [List.drop_eq_nil_of_le (List.getElem?_eq_none_iff.mp hq)]; exact .rowE)
   rw [List.append_nil] at this
   show Rv txt K (.row ps) i (some (h,ks)) as
   rw [← List.append_nil ks]; exact this
theorem rv_alt {ps:List Pt} {i t h:Nat} {ks as:List Kid} {b:Mm} (c:∀ o as',Rv txt K (.alt (ps.drop t)) i o as' → Rv txt K (.alt ps) i o (as ++ as')):OutR txt K (.alt ps) i as (altOut ps (⟨.alt ps,i,t,h,ks⟩:Fr Kid) b):=by
 unfold altOut
 cases hq:ps[t]? with
 | some q => exact ⟨c,fun x as' hx => ⟨q,hq,hx⟩⟩
 | none =>
   have:=c none [] (by rw [List.drop_eq_nil_of_le (List.getElem?_eq_none_iff.mp hq)]; exact .altE)
   rw [List.append_nil] at this; exact this
theorem rv_leaf {p:Pt} {f:Fr Kid} {b:Mm} (hp:p.isLf = true):OutR txt K p f.place [] (leafOut txt memBk p f b):=by
 have h:=Rv.leaf (txt:=txt) (K:=K) (i:=f.place) hp
 unfold leafO at h
 show OutR txt K p f.place [] (match txt[f.place]? with | some c => if p.takesC c then .pop (some (f.place + 1),[]) b else .pop (none,[]) b | none => .pop (none,[]) b)
 cases hc:txt[f.place]? with
 | none => rw [hc] at h; exact h
 | some c =>
   rw [hc] at h
   cases ht:p.takesC c with
   | true => simp only [ht,if_true] at h ⊢; exact h
   | false => simp only [ht] at h ⊢; exact h
theorem rv_step {G:Str → Pt} {b:Mm} {f:Fr Kid} {a:Option (An Kid)} {as0 as2:List Kid} (hn:f.nr) (c:Ct txt K f as0) (w0:a = none → as2 = []) (w1:∀ x,a = some x → WtR txt K f x as2):OutR txt K f.piece f.place (as0 ++ as2) (stepOf G txt memBk f a b):=by
 obtain ⟨p,i,t,h,ks⟩:=f
 have lf:p.isLf = true → Ct txt K ⟨p,i,t,h,ks⟩ as0 → as0 = []:=fun hp c => by cases p <;> first | exact c | cases hp
 have lf2:p.isLf = true → as2 = []:=fun hp => by
   rcases a with zz | x
   · exact w0 rfl
   · have:=w1 x rfl
     cases p <;> first | exact this | cases hp
 cases p with
 | rule n => exact absurd rfl (hn n)
 | sign z1 => rw [lf rfl c,lf2 rfl]; exact rv_leaf rfl
 | span z1 z2 => rw [lf rfl c,lf2 rfl]; exact rv_leaf rfl
 | any => rw [lf rfl c,lf2 rfl]; exact rv_leaf rfl
 | row ps =>
   rcases a with zz | ⟨zz | e,us⟩
   · rw [w0 rfl,List.append_nil]; exact rv_row c
   · obtain ⟨q,hq,hr⟩:=w1 _ rfl
     have:=c none as2 (drop_hd hq ▸ .rowN hr)
     exact this
   · obtain ⟨q,hq,hr⟩:=w1 _ rfl
     refine rv_row fun o as' ho => ?_
     have:=c (onO us o) (as2 ++ as') (drop_hd hq ▸ .rowC hr ho)
     rw [onO_on] at this
     rw [Ze]; exact this
 | alt ps =>
   rcases a with zz | ⟨zz | e,us⟩
   · rw [w0 rfl,List.append_nil]; exact rv_alt c
   · obtain ⟨q,hq,hr⟩:=w1 _ rfl
     refine rv_alt fun o as' ho => ?_
     have:=c o (as2 ++ as') (drop_hd hq ▸ .altN hr ho)
     rw [Ze]; exact this
   · obtain ⟨q,hq,hr⟩:=w1 _ rfl
     exact c (some (e,us)) as2 (drop_hd hq ▸ .altY hr)
 | many q =>
   have fin:Rv txt K (.many q) h (some (h,[])) as2 → Rv txt K (.many q) i (anO (some h,ks)) (as0 ++ as2):=fun hr => by
     have:=c _ _ hr
     rw [show onO ks (some (h,[])) = anO (some h,ks) from congrArg (fun x => some (h,x)) (List.append_nil ks)] at this; exact this
   rcases a with zz | ⟨zz | e,us⟩
   · rw [w0 rfl,List.append_nil]; exact ⟨c,fun x as' hx => hx⟩
   · exact fin (.manyN (w1 _ rfl))
   · show OutR txt K _ _ _ (if e = h then _ else _)
     have hr:Rv txt K q h (some (e,us)) as2:=w1 _ rfl
     by_cases he:e = h
     · rw [if_pos he]; subst he; exact fin (.manyE hr)
     · rw [if_neg he]
       refine ⟨fun o as' ho => ?_,fun x as' hx => hx⟩
       have:=c _ _ (.manyC hr he ho)
       rw [onO_on] at this
       rw [Ze]; exact this
 | nt q =>
   have c0:as0 = []:=c
   subst c0
   rcases a with zz | ⟨zz | e,us⟩
   · rw [w0 rfl]; exact ⟨rfl,fun x as' hx => hx⟩
   · exact .ntY (w1 _ rfl)
   · exact .ntN (w1 _ rfl)
theorem Ct.new (p:Pt) (i:Nat):Ct txt K (.new p i) []:=by
 cases p <;> first | rfl | exact fun o as h => (onO_nil o).symm ▸ h | exact fun o as h => h
theorem Ev.rv {G:Str → Pt} {f:Fr Kid} {a:Option (An Kid)} {o:An Kid} {as:List Kid} (h:Ev G txt K f a o as):∀ as0 as2,Ct txt K f as0 → (a = none → as2 = []) → (∀ x,a = some x → WtR txt K f x as2) → Rv txt K f.piece f.place (anO o) (as0 ++ as2 ++ as):=by
 induction h with
 | @ask f n a h1 h2 =>
   intro as0 as2 c w0 w1
   have c0:as0 = []:=by unfold Ct at c; rw [h1] at c; exact c
   rw [c0,w0 rfl,h1]; exact .rule h2
 | @pop f a a' b b' hn hs =>
   intro as0 as2 c w0 w1
   have:=rv_step (G:=G) (b:=b) hn c w0 w1
   rw [hs] at this
   rw [List.append_nil]; exact this
 | @push f f' a a' o p i b b' as as' hn hs z1 z2 ih1 ih2 =>
   intro as0 as2 c w0 w1
   have:=rv_step (G:=G) (b:=b) hn c w0 w1
   rw [hs] at this
   obtain ⟨zz,s1,s2⟩:=step_psh hn hs
   have k1:=ih1 [] [] (.new p i) (fun zz => rfl) (by intros; contradiction)
   have k:=ih2 (as0 ++ as2) as this.1 (by intros; contradiction) (fun x e => by cases e; exact this.2 _ _ k1)
   rw [s1,s2,Ze (as0 ++ as2)] at k; exact k
theorem MI.rv {G:Str → Pt} {b:Mm} (hi:MI G txt [] b) {k:Kid} {a:An Kid} (h:getM b.kept k = some a):∃ as,Rv txt (getM b.kept) (G k.1) k.2 (anO a) as ∧ Ak G txt b k as:=by
 obtain ⟨as,a',h1,h2⟩:=(hi.done k (hi.kin k _ h)).resolve_left nofun
 rw [h] at h1; cases h1
 exact ⟨as,h2.rv [] [] (.new _ _) (fun zz => rfl) (by intros; contradiction),_,h,h2⟩
end
end
section
noncomputable def From (ns:List Str) (f:Nat) (n:Str):Prop:=∃ j,f ≤ j ∧ ns[j]? = some n
inductive Pile (P:Str → Prop):Nat → Pt → Prop where
 | leaf {p:Pt} (h:Piece P 1 1 p):Pile P 0 p
 | join {n:Nat} {p a b:Pt} (h:Pile P n p) (ha:Piece P 1 1 a) (hb:Piece P 1 1 b) (k:Nat):Pile P (n + 1) (joinedP p a b k)
theorem Pile.p0 {P:Str → Prop} {p:Pt} (h:Pile P 0 p):Piece P 1 1 p:=by cases h; assumption
theorem Pile.p1 {P:Str → Prop} {p:Pt} (h:Pile P 1 p):Piece P 3 12 p:=by
 cases h with | join h ha hb k => exact Piece.joined (by decide) h.p0 ha hb k
theorem Pile.p2 {P:Str → Prop} {p:Pt} (h:Pile P 2 p):Piece P 5 34 p:=by
 cases h with | join h ha hb k => exact Piece.joined (by decide) h.p1 ha hb k
theorem Pile.p3 {P:Str → Prop} {p:Pt} (h:Pile P 3 p):Piece P 7 78 p:=by
 cases h with | join h ha hb k => exact Piece.joined (by decide) h.p2 ha hb k
noncomputable def stp (n:Nat):Nat:=1 + (if n / 6 < 1 then n / 6 else 1) * (n / 4)
inductive Drawn (ns:List Str) (k:Nat):Pt → Prop where
 | mk {x h t:Pt} (hx:x.sure) (hh:Pile (From ns 0) 3 h) (ht:Pile (From ns (k + stp ns.length)) 3 t) (j:Nat):Drawn ns k (ruleP x h t j)
 | wr {x h t:Pt} (hx:x.sure) (hh:Pile (From ns 0) 3 h) (ht:Pile (From ns (k + stp ns.length)) 3 t) (j:Nat):Drawn ns k (wrapP (ruleP x h t j))
theorem From.le {ns:List Str} {a b:Nat} (h:a ≤ b) (y:Str) (hy:From ns b y):From ns a y:=by
 obtain ⟨j,g1,g2⟩:=hy; exact ⟨j,Za h g1,g2⟩
theorem Drawn.piece {ns:List Str} {k:Nat} {p:Pt} (h:Drawn ns k p):Piece (From ns 0) 12 164 p ∧ p.wt ≤ 20000 ∧ ∀ B,∀ y ∈ p.ahd B,From ns (k + 1) y:=by
 have hl:k + 1 ≤ k + stp ns.length:=Nat.add_le_add_left (Zy 1 _) k
 cases h with
 | mk hx hh ht j =>
   obtain ⟨P1,P2⟩:=Piece.rule hx hh.p3 ht.p3 (From.le (Zkb _)) j
   exact ⟨P1.mono (by decide) (by decide),ruleP_wt hx hh.p3 ht.p3 j,fun B y hy => From.le hl y (P2 B y hy)⟩
 | wr hx hh ht j =>
   obtain ⟨P1,P2⟩:=Piece.rule hx hh.p3 ht.p3 (From.le (Zkb _)) j
   obtain ⟨W1,W2⟩:=P1.wrap (R:=From ns (k + 1)) fun B y hy => From.le hl y (P2 B y hy)
   exact ⟨W1.mono (by decide) (by decide),wrapP_wt _ ▸ ruleP_wt hx hh.p3 ht.p3 j,W2⟩
end
section
section
variable {txt:List Nat} {K:Kid → Option (An Kid)} {a a' b b' i h e:Nat} {ks us as:List Kid} {p:Pt} {ps:List Pt}
end
section
variable {K:Kid → Option (An Kid)}
end
end
section
noncomputable def nrm:Option (An Kid) → An Kid
 | some (some e,ks) => (some e,ks)
 | z1 => (none,[])
noncomputable def tl (b:Mm):List (Kid × An Kid):=b.order.map fun k => (k,nrm (getM b.kept k))
theorem tl_find (o:List Kid) (f:Kid → An Kid) (k:Kid):getM (o.map fun k => (k,f k)) k = if k ∈ o then some (f k) else none:=by
 unfold getM
 induction o with
 | nil => rfl
 | cons x r ih =>
   rw [List.map_cons,List.find?_cons]
   by_cases e:x = k
   · rw [Zmb (show ((x,f x):Kid × An Kid).1 = k from e),if_pos (e ▸ Zt ..),e]; rfl
   · rw [decide_eq_false (show ¬ ((x,f x):Kid × An Kid).1 = k from e)]
     show Option.map _ (List.find? _ (r.map fun k => (k,f k))) = _
     rw [ih]
     by_cases g:k ∈ r
     · rw [if_pos g,if_pos (Zd _ g)]
     · rw [if_neg g,if_neg fun h => (Zg.mp h).elim (fun q => e q.symm) g]
theorem tl_get {G:Str → Pt} {txt:List Nat} {b:Mm} (hi:MI G txt [] b) {k:Kid} {a:An Kid} (h:getM b.kept k = some a):getM (tl b) k = some (nrm (some a)):=by
 unfold tl
 rw [tl_find,if_pos (hi.kin k a h),h]
noncomputable def entV (k:Kid) (a:An Kid) (l:Nat):V:=.tup [.str k.1,.int k.2,endV a.1,.ref l]
inductive EnR (lo:Nat) (σ:Hp):List (Kid × An Kid) → List V → Prop where
 | nil:EnR lo σ [] []
 | cons {k:Kid} {a:An Kid} {l:Nat} {xs:List (Kid × An Kid)} {vs:List V} (h:σ[l]? = some (.list (a.2.map pV'))) (hl:lo ≤ l) (t:EnR lo σ xs vs):EnR lo σ ((k,a) :: xs) (entV k a l :: vs)
section
variable {lo:Nat} {σ σ':Hp} {xs:List (Kid × An Kid)} {vs:List V}
theorem EnR.up (h:EnR lo σ xs vs) (k:∀ l o,lo ≤ l → σ[l]? = some o → σ'[l]? = some o):EnR lo σ' xs vs:=by
 induction h with
 | nil => exact .nil
 | cons h hl t ih => exact .cons (k _ _ hl h) hl ih
theorem EnR.snoc {k:Kid} {a:An Kid} {l:Nat} (h:EnR lo σ xs vs) (h1:σ[l]? = some (.list (a.2.map pV'))) (hl:lo ≤ l):EnR lo σ (xs ++ [(k,a)]) (vs ++ [entV k a l]):=by
 induction h with
 | nil => exact .cons h1 hl .nil
 | cons g gl t ih => exact .cons g gl ih
theorem EnR.length (h:EnR lo σ xs vs):vs.length = xs.length:=by
 induction h with
 | nil => rfl
 | cons h hl t ih => exact congrArg Nat.succ ih
theorem EnR.at {i:Nat} {v:V} (h:EnR lo σ xs vs):vs[i]? = some v → ∃ k a l,xs[i]? = some (k,a) ∧ v = entV k a l ∧ σ[l]? = some (.list (a.2.map pV')) ∧ lo ≤ l:=by
 induction h generalizing i with
 | nil => intro h; cases h
 | cons h hl t ih =>
   intro g
   cases i with
   | zero => cases g; exact ⟨_,_,_,rfl,rfl,h,hl⟩
   | succ i => exact ih g
end
theorem AnAt.of {σ:Hp} {a:An Kid} {l:Nat} (h:σ[l]? = some (.list (a.2.map pV'))):AnAt memKid σ [] a (.tup [endV a.1,.ref l]):=⟨l,_,rfl,List.not_mem_nil,h,memKid_krs⟩
theorem KeptR.snoc {σ:Hp} {k:Kid} {a:An Kid} {v:V} {xs:List (Kid × An Kid)} {kvs:List ((Str × Int) × V)} (h:KeptR σ [] xs kvs) (hv:AnAt memKid σ [] a v) (hk:getM xs k = none):KeptR σ [] (xs ++ [(k,a)]) (setTK kvs (k.1,(k.2:Int)) v):=by
 have:=h.set (k:=k) hv
 rw [setM_new hk] at this; exact this
theorem KeptR.all {σ σ':Hp} (k:∀ (l:Nat) (vs:List V),σ[l]? = some (.list vs) → σ'[l]? = some (.list vs)):∀ {xs:List (Kid × An Kid)} {kvs:List ((Str × Int) × V)},KeptR σ [] xs kvs → KeptR σ' [] xs kvs
 | [],z1,h => h
 | z1 :: z2,z3,h => by
   obtain ⟨v,q,e,⟨l,vs,h1,h2,h3,h4⟩,h5⟩:=h
   exact ⟨v,q,e,⟨l,vs,h1,h2,k _ _ h3,(memKid_eq h4) ▸ memKid_krs⟩,KeptR.all k h5⟩
theorem any_of {kvs:List ((Str × Int) × V)} {k:Str × Int} {v:V} (h:(kvs.find? fun kv => kv.1 = k).map (·.2) = some v):(kvs.any fun kv => kv.1 = k) = true:=by
 obtain ⟨x,h1,zz⟩:=Zpb.mp h
 have h2:=List.find?_some h1
 exact List.any_eq_true.mpr ⟨x,List.mem_of_find?_eq_some h1,h2⟩
theorem tl_next {b:Mm} (hn:b.order.Nodup) {i:Nat} {k:Kid} {a:An Kid} (h:(tl b)[i]? = some (k,a)):getM ((tl b).take i) k = none:=by
 unfold tl at h ⊢
 rw [Zdb] at h
 obtain ⟨x,h1,h2⟩:=Zpb.mp h
 cases h2
 rw [← List.map_take,tl_find,if_neg]
 intro g
 obtain ⟨j,hj⟩:=List.mem_iff_getElem?.mp g
 have hji:j < i:=by
   have:=(Zb.mp hj).1
   rw [List.length_take] at this; exact Zz this (Nat.min_le_left ..)
 rw [List.getElem?_take_of_lt hji] at hj
 have l1:=(Zb.mp hj)
 have l2:=(Zb.mp h1)
 have e1:=hn.idxOf_getElem j l1.1
 rw [l1.2,← l2.2,hn.idxOf_getElem i l2.1] at e1
 exact absurd e1.symm (Nat.ne_of_lt hji)
section
variable (K:Kid → Option (An Kid))
end
section
variable {K:Kid → Option (An Kid)}
end
theorem KeptR.has {P:Prop} {σ:Hp} {A:List Nat} {k:Kid} {a:An Kid} {xs:List (Kid × An Kid)} {kvs:List ((Str × Int) × V)} (h:KeptR σ A xs kvs) (hk:getM xs k = some a) (c:∀ la,(kvs.find? fun kv => kv.1 = (k.1,(k.2:Int))).map (·.2) = some (.tup [endV a.1,.ref la]) → σ[la]? = some (.list (a.2.map pV')) → P):P:=by
 rcases h.get (k:=k) with ⟨x1,zz⟩ | ⟨an2,v,x1,x2,la,vs,rfl,x3,x4,x5⟩
 · rw [hk] at x1; cases x1
 rw [hk] at x1; cases x1
 obtain rfl:=memKid_eq x5
 exact c la x2 x4
end
section
theorem nrm_tell (k:Kid) (a:An Kid):anO (tell k (nrm (some a))) = anO (tell k a):=by
 obtain ⟨x,us⟩:=a
 cases x <;> rfl
theorem Rv.told {txt:List Nat} {K K':Kid → Option (An Kid)} (hk:∀ k a,K k = some a → K' k = some (nrm (some a))) {p:Pt} {i:Nat} {o:Rs} {as:List Kid} (h:Rv txt K p i o as):Rv txt K' p i o as:=by
 induction h with
 | leaf h => exact .leaf h
 | rule h => rw [← nrm_tell]; exact .rule (hk _ _ h)
 | rowE => exact .rowE
 | rowN h ih => exact .rowN ih
 | rowC h1 h2 ih1 ih2 => exact .rowC ih1 ih2
 | altE => exact .altE
 | altY h ih => exact .altY ih
 | altN h1 h2 ih1 ih2 => exact .altN ih1 ih2
 | manyN h ih => exact .manyN ih
 | manyE h ih => exact .manyE ih
 | manyC h1 hne h2 ih1 ih2 => exact .manyC ih1 hne ih2
 | ntY h ih => exact .ntY ih
 | ntN h ih => exact .ntN ih
noncomputable def KW (txt:List Nat) (K:Kid → Option (An Kid)):Prop:=∀ k e us,K k = some (some e,us) → k.2 ≤ e ∧ e ≤ txt.length
theorem leafO_some {txt:List Nat} {p:Pt} {i:Nat} {r:Nat × List Kid} (h:leafO txt p i = some r):r = (i + 1,[]) ∧ i < txt.length:=by
 unfold leafO at h
 cases hc:txt[i]? with
 | none => rw [hc] at h; exact (no_some h).elim
 | some c =>
   rw [hc] at h
   refine ⟨?_,(Zb.mp hc).1⟩
   by_cases ht:p.takesC c = true
   · exact (sm_inj ((if_pos ht).symm.trans h)).symm
   · exact (no_some ((if_neg ht).symm.trans h)).elim
theorem onO_some {ks:List Kid} {o:Rs} {r:Nat × List Kid} (h:onO ks o = some r):∃ us,o = some (r.1,us) ∧ r.2 = ks ++ us:=by
 cases o with
 | none => exact (no_some h).elim
 | some x => have:=sm_inj h; subst this; exact ⟨x.2,rfl,rfl⟩
theorem w_row {a b x y z:Nat} (h:x ≤ z) (g:y ≤ z):a * x + b * y ≤ (a + b) * z:=by
 rw [Nat.add_mul]; exact Zcb (Znb a h) (Znb b g)
theorem w_many {a i h e:Nat} (g:i < h) (g2:h ≤ e):a * (h + 1 - i) + 2 * a * (e + 1 - h) ≤ 2 * a * (e + 1 - i):=by
 have h1:a * (h + 1 - i) ≤ 2 * a * (h - i):=by rw [Nat.mul_comm 2 a,Nat.mul_assoc]; exact Znb a (a_many g)
 have h2:e + 1 - i = (h - i) + (e + 1 - h):=((Nat.add_comm ..).trans (Nat.sub_add_sub_cancel (Zeb g2) (Zq g))).symm
 rw [h2,Nat.mul_add]; exact Nat.add_le_add_right h1 _
theorem Rv.len {txt:List Nat} {K:Kid → Option (An Kid)} (w:KW txt K) {p:Pt} {i:Nat} {o:Rs} {as:List Kid} (h:Rv txt K p i o as):i ≤ txt.length → ∀ r,o = some r → i ≤ r.1 ∧ r.1 ≤ txt.length ∧ r.2.length ≤ p.wt * (r.1 + 1 - i):=by
 induction h with
 | leaf h =>
   intro hi r e
   obtain ⟨rfl,hl⟩:=leafO_some e
   exact ⟨Nat.le_succ _,hl,Zkb _⟩
 | @rule n i a h =>
   intro hi r e
   obtain ⟨x,us⟩:=a
   cases x with
   | none => exact (no_some e).elim
   | some e1 =>
     have:=sm_inj e; subst this
     obtain ⟨g1,g2⟩:=w _ _ _ h
     refine ⟨g1,g2,?_⟩
     rw [Pt.wt1,Nat.one_mul]; exact Nat.sub_pos_of_lt (Nat.lt_succ_of_le g1)
 | rowE => intro hi r e; have:=sm_inj e; subst this; exact ⟨Zl _,hi,Zkb _⟩
 | rowN => exact fun hi r e => (no_some e).elim
 | rowC h1 h2 ih1 ih2 =>
   intro hi r e
   obtain ⟨us,rfl,e2⟩:=onO_some e
   obtain ⟨a1,a2,a3⟩:=ih1 hi _ rfl
   obtain ⟨b1,b2,b3⟩:=ih2 a2 _ rfl
   refine ⟨Za a1 b1,b2,?_⟩
   rw [e2,Zf,Pt.wt2,Pt.wts2]
   exact Za (Zcb a3 b3) (w_row (Nat.sub_le_sub_right (Nat.succ_le_succ b1) _) (Nat.sub_le_sub_left a1 _))
 | altE => exact fun hi r e => (no_some e).elim
 | altY h ih =>
   intro hi r e
   obtain ⟨a1,a2,a3⟩:=ih hi r e
   refine ⟨a1,a2,Za a3 (Nat.mul_le_mul_right _ ?_)⟩
   rw [Pt.wt3,Pt.wts2]; exact Zy ..
 | altN h1 h2 ih1 ih2 =>
   intro hi r e
   obtain ⟨a1,a2,a3⟩:=ih2 hi r e
   refine ⟨a1,a2,Za a3 (Nat.mul_le_mul_right _ ?_)⟩
   rw [Pt.wt3,Pt.wt3,Pt.wts2]; exact Ztb ..
 | manyN => intro hi r e; have:=sm_inj e; subst this; exact ⟨Zl _,hi,Zkb _⟩
 | manyE => intro hi r e; have:=sm_inj e; subst this; exact ⟨Zl _,hi,Zkb _⟩
 | manyC h1 hne h2 ih1 ih2 =>
   intro hi r e
   obtain ⟨us,rfl,e2⟩:=onO_some e
   obtain ⟨a1,a2,a3⟩:=ih1 hi _ rfl
   obtain ⟨b1,b2,b3⟩:=ih2 a2 _ rfl
   refine ⟨Za a1 b1,b2,?_⟩
   rw [e2,Zf,Pt.wt4]
   rw [Pt.wt4] at b3
   exact Za (Zcb a3 b3) (w_many (Nat.lt_of_le_of_ne a1 (Ne.symm hne)) b1)
 | ntY => intro hi r e; have:=sm_inj e; subst this; exact ⟨Zl _,hi,Zkb _⟩
 | ntN => exact fun hi r e => (no_some e).elim
noncomputable def Up (f:Nat → Nat):Prop:=∀ a b,a ≤ b → f a ≤ f b
noncomputable def Ab (f:Nat → Nat) (p:Pt):Prop:=∀ txt K,KW txt K → ∀ i o as,i ≤ txt.length → Rv txt K p i o as → as.length ≤ f (txt.length - i)
section
variable {f g T:Nat → Nat} {p:Pt} {ps:List Pt}
theorem Ab.mono (h:Ab f p) (k:∀ n,f n ≤ g n):Ab g p:=fun txt K w i o as hi r => Za (h txt K w i o as hi r) (k _)
theorem Ab.lf (hp:p.isLf = true):Ab f p:=fun txt K w i o as hi r => by
 have h:as = []:=by
   have h:=r.inv
   cases p <;> first | exact h.2 | exact (Zv hp).elim
 rw [h]; exact Zkb _
theorem Ab.rule {n:Str}:Ab (fun zz => 1) (.rule n):=fun txt K w i o as hi r => by
 obtain ⟨a,zz,zz,e⟩:=r.inv
 rw [e]; exact Zl _
theorem Ab.row0:Ab f (.row []):=fun txt K w i o as hi r => by rw [r.inv.2]; exact Zkb _
theorem Ab.alt0:Ab f (.alt []):=fun txt K w i o as hi r => by rw [r.inv.2]; exact Zkb _
theorem Ab.rowC (u:Up g) (hp:Ab f p) (hr:Ab g (.row ps)):Ab (fun n => f n + g n) (.row (p :: ps)):=fun txt K w i o as hi r => by
 rcases r.inv with ⟨zz,h⟩ | ⟨h,ks,o',as1,as2,h1,h2,zz,e⟩
 · exact Za (hp txt K w _ _ _ hi h) (Zy ..)
 · obtain ⟨a1,a2,zz⟩:=h1.len w hi _ rfl
   rw [e,Zf]
   exact Zcb (hp txt K w _ _ _ hi h1) (Za (hr txt K w _ _ _ a2 h2) (u _ _ (Nat.sub_le_sub_left a1 _)))
theorem Ab.altC (hp:Ab f p) (hr:Ab g (.alt ps)):Ab (fun n => f n + g n) (.alt (p :: ps)):=fun txt K w i o as hi r => by
 rcases r.inv with ⟨x,zz,h⟩ | ⟨as1,as2,h1,h2,e⟩
 · exact Za (hp txt K w _ _ _ hi h) (Zy ..)
 · rw [e,Zf]
   exact Zcb (hp txt K w _ _ _ hi h1) (hr txt K w _ _ _ hi h2)
theorem Ab.nt (hp:Ab f p):Ab f (.nt p):=fun txt K w i o as hi r => by
 rcases r.inv with ⟨zz,h⟩ | ⟨x,zz,h⟩ <;> exact hp txt K w _ _ _ hi h
theorem Ab.many (hp:Ab f p) (u:Up T) (h0:∀ n,f n ≤ T n) (hs:∀ n,T n + f (n + 1) ≤ T (n + 1)):Ab T (.many p):=fun txt K w => by
 have key:∀ n i o as,i ≤ txt.length → txt.length - i ≤ n → Rv txt K (.many p) i o as → as.length ≤ T n:=by
   intro n
   induction n with
   | zero =>
     intro i o as hi hn r
     rcases r.inv with ⟨zz,h | ⟨ks,h⟩⟩ | ⟨h,ks,o',as1,as2,h1,hne,h2,zz,e⟩
     · exact Za (hp txt K w _ _ _ hi h) (Za (h0 _) (u _ _ hn))
     · exact Za (hp txt K w _ _ _ hi h) (Za (h0 _) (u _ _ hn))
     · obtain ⟨a1,a2,zz⟩:=h1.len w hi _ rfl
       exact absurd (Nat.le_antisymm (Za a2 (Nat.le_of_sub_eq_zero (Nat.le_zero.mp hn))) a1) hne
   | succ n ih =>
     intro i o as hi hn r
     rcases r.inv with ⟨zz,h | ⟨ks,h⟩⟩ | ⟨h,ks,o',as1,as2,h1,hne,h2,zz,e⟩
     · exact Za (hp txt K w _ _ _ hi h) (Za (h0 _) (u _ _ hn))
     · exact Za (hp txt K w _ _ _ hi h) (Za (h0 _) (u _ _ hn))
     · obtain ⟨a1,a2,zz⟩:=h1.len w hi _ rfl
       have a1:i < h:=Nat.lt_of_le_of_ne a1 (Ne.symm hne)
       rw [e,Zf,Nat.add_comm]
       by_cases hq:txt.length - i ≤ n
       · exact Za (Zr (by rw [Nat.add_comm,← Zf,← e])) (Za (ih i o as hi hq r) (u _ _ (Nat.le_succ n)))
       · have hq:txt.length - i = n + 1:=Nat.le_antisymm hn (Nat.not_le.mp hq)
         exact Za (Zcb (ih h o' as2 a2 (Nat.le_of_lt_succ (Zz (Nat.sub_lt_sub_left (Zz a1 a2) a1) hn)) h2) (hq ▸ hp txt K w _ _ _ hi h1)) (hs n)
 exact fun i o as hi r => key _ i o as hi (Zl _) r
theorem ab_leaf {P:Str → Prop} (h:Piece P 1 1 p):Ab (fun zz => 1) p:=by
 cases p with
 | rule n => exact .rule
 | sign c => exact .lf rfl
 | span c d => exact .lf rfl
 | any => exact .lf rfl
 | row ps =>
   cases ps with
   | nil => exact .row0
   | cons q r =>
     have h3:(Pt.row (q :: r)).size ≤ 1:=h.2.2
     rw [Pt.size1,Pt.sizes2] at h3
     exact absurd (Nat.le_of_succ_le_succ h3) (Nat.not_le.mpr (Zz (Pt.size_pos q) (Zy ..)))
 | alt ps =>
   cases ps with
   | nil => exact .alt0
   | cons q r =>
     have h3:(Pt.alt (q :: r)).size ≤ 1:=h.2.2
     rw [Pt.size2,Pt.sizes2] at h3
     exact absurd (Nat.le_of_succ_le_succ h3) (Nat.not_le.mpr (Zz (Pt.size_pos q) (Zy ..)))
 | many q =>
   have h3:(Pt.many q).size ≤ 1:=h.2.2
   rw [Pt.size3] at h3
   exact absurd (Nat.le_of_succ_le_succ h3) (Nat.not_le.mpr (Pt.size_pos q))
 | nt q =>
   have h3:(Pt.nt q).size ≤ 1:=h.2.2
   rw [Pt.size4] at h3
   exact absurd (Nat.le_of_succ_le_succ h3) (Nat.not_le.mpr (Pt.size_pos q))
theorem up_c {c:Nat}:Up fun zz => c:=fun a b h => Zl _
theorem Up.add (hf:Up f) (hg:Up g):Up fun n => f n + g n:=fun a b h => Zcb (hf a b h) (hg a b h)
theorem up_n:Up fun n => n + 1:=fun a b h => Nat.succ_le_succ h
theorem ab_joined {x y:Pt} (uf:Up f) (ut:Up T) (h0:∀ n,f n ≤ T n) (hs:∀ n,T n + f (n + 1) ≤ T (n + 1)) (hp:Ab f p) (hx:Ab (fun zz => 1) x) (hy:Ab (fun zz => 1) y) (k:Nat):Ab (fun n => f n + T n + 3 * n + 7) (joinedP p x y k):=by
 have XM:Ab (fun n => n + 1) (.many x):=hx.many up_n (fun n => Nat.succ_le_succ (Zkb n)) fun n => Zl _
 have YM:Ab (fun n => n + 1) (.many y):=hy.many up_n (fun n => Nat.succ_le_succ (Zkb n)) fun n => Zl _
 have PM:Ab T (.many p):=hp.many ut h0 hs
 have r0:Ab (fun zz => 0) (.row []):=.row0
 have a0:Ab (fun zz => 0) (.alt []):=.alt0
 have u1:Up (fun n => 1 + 0):=up_c
 have any:Ab (fun zz => 0) .any:=.lf rfl
 have P1:=hp.rowC up_c r0
 have uP1:=uf.add (up_c (c:=0))
 exact AllP.get (C:=Ab fun n => f n + T n + 3 * n + 7) (.cons (PM.mono fun n => by lia) <| .cons (hp.nt.mono fun n => by lia) <| .cons ((hp.rowC u1 (hx.rowC up_c r0)).mono fun n => by lia) <| .cons ((hx.rowC uP1 P1).mono fun n => by lia) <| .cons ((hp.altC (hx.altC a0)).mono fun n => by lia) <| .cons ((hx.altC (hp.altC a0)).mono fun n => by lia) <| .cons ((hp.altC (r0.altC a0)).mono fun n => by lia) <|
   .cons ((hp.rowC u1 (hx.nt.rowC up_c r0)).mono fun n => by lia) <| .cons ((hx.rowC (uf.add u1) (hp.rowC u1 (hy.rowC up_c r0))).mono fun n => by lia) <| .cons ((hx.altC ((hp.rowC u1 (hy.rowC up_c r0)).altC (hy.altC (hp.altC a0)))).mono fun n => by have:=h0 n; lia) <| .cons ((hy.altC (hx.altC (hp.altC a0))).mono fun n => by lia) <|
   .cons ((XM.rowC (up_c (c:=1) |>.add (up_n.add (uf.add (up_n.add up_c)))) (hy.nt.rowC (up_n.add (uf.add (up_n.add up_c))) (YM.rowC (uf.add (up_n.add up_c)) (hp.rowC (up_n.add up_c) (XM.rowC up_c r0))))).mono fun n => by lia) <| .cons ((any.nt.altC (hx.altC (hy.altC (hp.altC (hx.altC (any.altC a0)))))).mono fun n => by lia) .nil)
   ((hx.rowC (up_n.add (uf.add (up_n.add (up_c (c:=1) |>.add (up_c (c:=1) |>.add (ut.add up_c)))))) (YM.rowC (uf.add (up_n.add (up_c (c:=1) |>.add (up_c (c:=1) |>.add (ut.add up_c))))) (hp.rowC (up_n.add (up_c (c:=1) |>.add (up_c (c:=1) |>.add (ut.add up_c)))) (XM.rowC (up_c (c:=1) |>.add (up_c (c:=1) |>.add (ut.add up_c))) (hy.rowC (up_c (c:=1) |>.add (ut.add up_c)) (hx.nt.rowC (ut.add up_c) (PM.rowC up_c r0))))))).mono fun n => by lia) k
theorem sq_up (n:Nat):(n + 1) * (n + 1) = n * n + 2 * n + 1:=by rw [Nat.succ_mul_succ]; lia
theorem cb_up (n:Nat):(n + 1) * ((n + 1) * (n + 1)) = n * (n * n) + 3 * (n * n) + 3 * n + 1:=by
 rw [sq_up,Nat.succ_mul,Nat.mul_add,Nat.mul_add,Nat.mul_one,Nat.mul_left_comm n 2 n]; lia
theorem sq_mono {a b:Nat} (h:a ≤ b):a * a ≤ b * b:=Nat.mul_le_mul h h
noncomputable def f1 (n:Nat):Nat:=4 * n + 9
noncomputable def t1 (n:Nat):Nat:=2 * (n * n) + 11 * n + 9
noncomputable def f2 (n:Nat):Nat:=2 * (n * n) + 18 * n + 25
noncomputable def t2 (n:Nat):Nat:=n * (n * n) + 10 * (n * n) + 35 * n + 25
noncomputable def f3 (n:Nat):Nat:=n * (n * n) + 12 * (n * n) + 56 * n + 57
theorem up_f1:Up f1:=fun a b h => by unfold f1; lia
theorem up_t1:Up t1:=fun a b h => by have:=sq_mono h; unfold t1; lia
theorem up_f2:Up f2:=fun a b h => by have:=sq_mono h; unfold f2; lia
theorem up_t2:Up t2:=fun a b h => by have:=sq_mono h; have:=Nat.mul_le_mul h (sq_mono h); unfold t2; lia
theorem up_f3:Up f3:=fun a b h => by have:=sq_mono h; have:=Nat.mul_le_mul h (sq_mono h); unfold f3; lia
theorem Pile.a0 {P:Str → Prop} (h:Pile P 0 p):Ab (fun zz => 1) p:=ab_leaf h.p0
theorem Pile.a1 {P:Str → Prop} (h:Pile P 1 p):Ab f1 p:=by
 cases h with | join h ha hb k => exact (ab_joined up_c up_n (fun n => Nat.succ_le_succ (Zkb n)) (fun n => Zl _) h.a0 (ab_leaf ha) (ab_leaf hb) k).mono fun n => by unfold f1; lia
theorem Pile.a2 {P:Str → Prop} (h:Pile P 2 p):Ab f2 p:=by
 cases h with | join h ha hb k => exact (ab_joined up_f1 up_t1 (fun n => by unfold f1 t1; lia) (fun n => by unfold f1 t1; rw [sq_up]; lia) h.a1 (ab_leaf ha) (ab_leaf hb) k).mono fun n => by unfold f1 t1 f2; lia
theorem Pile.a3 {P:Str → Prop} (h:Pile P 3 p):Ab f3 p:=by
 cases h with | join h ha hb k => exact (ab_joined up_f2 up_t2 (fun n => by unfold f2 t2; lia) (fun n => by unfold f2 t2; rw [cb_up,sq_up]; lia) h.a2 (ab_leaf ha) (ab_leaf hb) k).mono fun n => by unfold f2 t2 f3; lia
theorem Drawn.ab {ns:List Str} {k:Nat} (h:Drawn ns k p):Ab (fun n => f3 n + f3 n) p:=by
 have go:∀ {x h t:Pt} (hx:x.sure) (hh:Ab f3 h) (ht:Ab f3 t) (j:Nat),Ab (fun n => f3 n + f3 n) (ruleP x h t j):=fun {x h t} hx hh ht j =>
   have X:Ab (fun zz => 0) x:=.lf (hx.rec (fun zz => rfl) (fun zz zz zz => rfl) rfl)
   have H:Ab f3 (.row [x,h]):=(X.rowC (up_f3.add (up_c (c:=0))) (hh.rowC up_c .row0)).mono (g:=f3) fun n => Zr (Nat.zero_add _)
   have a0:Ab (fun zz => 0) (.alt []):=.alt0
   AllP.get (C:=Ab fun n => f3 n + f3 n) (.cons (H.altC (ht.altC a0)) <| .cons (ht.altC (H.altC a0)) <| .cons (H.mono fun n => Zy ..) .nil) (ht.mono fun n => Zy ..) j
 have w1:∀ {p:Pt} {f:Nat → Nat},Ab f p → Ab f (.row [p]):=fun h => (h.rowC (g:=fun zz => 0) up_c .row0).mono fun n => Zl _
 have w2:∀ {p:Pt} {f:Nat → Nat},Ab f p → Ab f (.alt [p]):=fun h => (h.altC (g:=fun zz => 0) .alt0).mono fun n => Zl _
 cases h with
 | mk hx hh ht j => exact go hx hh.a3 ht.a3 j
 | wr hx hh ht j => exact w1 (w2 (w1 (go hx hh.a3 ht.a3 j)))
theorem asks_few {ns:List Str} {k:Nat} {txt:List Nat} {K:Kid → Option (An Kid)} (h:Drawn ns k p) (w:KW txt K) (hl:txt.length ≤ 149) {i:Nat} {o:Rs} {as:List Kid} (hi:i ≤ txt.length) (r:Rv txt K p i o as):as.length ≤ 8000000 :=
 Za (h.ab txt K w i o as hi r) (Za (up_f3.add up_f3 _ _ (Za (Nat.sub_le ..) hl)) (by decide))
end
end
section
noncomputable def nmA:Str:=Str.ofString "a"
noncomputable def ptA:Pt:=.alt [.row [.any,.rule nmA],.row []]
noncomputable def rsA:List (Str × Pt):=[(nmA,ptA)]
theorem asksA {n:Str} (h:ptA.Asks n):n = nmA:=by
 have leaf:∀ {p:Pt},p.kids = [] → p.Asks n → ∃ m,p = .rule m ∧ n = m:=fun hk h => by
   cases h with
   | here => exact ⟨_,rfl,rfl⟩
   | deep hq zz => rw [hk] at hq; cases hq
 cases h with
 | deep hq h =>
   rcases Zg.mp hq with rfl | hq
   · cases h with
     | deep hq h =>
       rcases Zg.mp hq with rfl | hq
       · obtain ⟨m,e,zz⟩:=leaf rfl h; cases e
       · cases Zj.mp hq
         obtain ⟨m,e,rfl⟩:=leaf rfl h; cases e; rfl
   · cases Zj.mp hq
     cases h with
     | deep hq h => cases hq
theorem goodA:GoodRules rsA where
 one:=Zl 1
 most:=by show 1 ≤ 40; decide
 nodup:=by show [nmA].Nodup; exact List.nodup_cons.mpr ⟨List.not_mem_nil,List.nodup_nil⟩
 all:=fun r hr => by
   cases Zj.mp hr
   have leaf:∀ {p:Pt},p.kids = [] → Pt.All Pt.few p:=fun h => ⟨by simp [Pt.few,h],fun q hq => by rw [h] at hq; cases hq⟩
   refine ⟨by show isName nmA = true; decide +kernel,rfl,by show 3 ≤ 12; decide,⟨by show 2 < 1000; decide,fun q hq => ?_⟩,by decide +kernel,fun x hx => by rw [asksA hx]; exact Zj.mpr rfl⟩
   rcases Zg.mp hq with rfl | hq
   · refine ⟨by show 2 < 1000; decide,fun q hq => ?_⟩
     rcases Zg.mp hq with rfl | hq
     · exact leaf rfl
     · cases Zj.mp hq; exact leaf rfl
   · cases Zj.mp hq; exact leaf rfl
theorem laterA:Later rsA:=fun j r hj B y hy => by
 cases j with
 | zero => cases hj; cases hy
 | succ j => cases hj
theorem stA {i n m:Nat} (e:i + (n + 1) = m):i < m:=e ▸ Nat.lt_add_of_pos_right (Nat.succ_pos n)
theorem notA {i:Nat}:(nmA,i) ∉ (List.range i).map fun j => (nmA,j):=fun h => by
 obtain ⟨j,hj,e⟩:=Zsb.mp h
 exact absurd (List.mem_range.mp hj) (Zo.mpr (Zr (Prod.mk.inj e).2.symm))
noncomputable def TrI (K:Kid → Option (An Kid)) (d:Nat) (ks:List Kid) (t:List Row):Prop:=match ks with
 | [] => t = []
 | k :: r => ∃ e us t1 t2,K k = some (some e,us) ∧ Tr K (d + 1) us t1 ∧ Tr K d r t2 ∧ t = (d,k,e) :: (t1 ++ t2)
theorem Tr.inv {K:Kid → Option (An Kid)} {d:Nat} {ks:List Kid} {t:List Row} (h:Tr K d ks t):TrI K d ks t:=h.rec rfl fun a b c z1 z2 => ⟨_,_,_,_,a,b,c,rfl⟩
theorem Tr.none {K:Kid → Option (An Kid)} {d:Nat} {t:List Row} (h:Tr K d [] t):t = []:=h.inv
theorem Tr.one {K:Kid → Option (An Kid)} {d:Nat} {k:Kid} {t:List Row} (h:Tr K d [k] t):∃ e us t1,K k = some (some e,us) ∧ Tr K (d + 1) us t1 ∧ t = (d,k,e) :: t1 :=
 Zh h.inv fun e h => Zh h fun us h => Zh h fun t1 h => Zh h fun t2 h => ⟨e,us,t1,h.1,h.2.1,by rw [h.2.2.2,h.2.2.1.none,List.append_nil]⟩
noncomputable def DfsI (Ak:Kid → List Kid → Prop) (ks o o':List Kid):Prop:=match ks with
 | [] => o' = o
 | k :: r => (k ∈ o ∧ Dfs Ak r o o') ∨ ∃ as,k ∉ o ∧ Ak k as ∧ Dfs Ak (as ++ r) (o ++ [k]) o'
theorem Dfs.inv {Ak:Kid → List Kid → Prop} {ks o o':List Kid} (h:Dfs Ak ks o o'):DfsI Ak ks o o':=h.rec rfl (fun a b z1 => .inl ⟨a,b⟩) fun n a b z2 => .inr ⟨_,n,a,b⟩
theorem Dfs.none {Ak:Kid → List Kid → Prop} {o o':List Kid} (h:Dfs Ak [] o o'):o' = o:=h.inv
theorem Dfs.one {Ak:Kid → List Kid → Prop} {k:Kid} {o o':List Kid} (h:Dfs Ak [k] o o'):(k ∈ o ∧ o' = o) ∨ ∃ as,Ak k as ∧ Dfs Ak as (o ++ [k]) o' :=
 Or.elim h.inv (fun h => .inl ⟨h.1,h.2.none⟩) fun h => Zh h fun as h => .inr ⟨as,h.2.1,(List.append_nil as) ▸ h.2.2⟩
section
variable {txt:List Nat} {b:Mm}
variable {K:Kid → Option (An Kid)} {i:Nat} {o:Rs} {as:List Kid}
theorem anyA (h:Rv txt K .any i o as):as = [] ∧ ((i < txt.length ∧ o = some (i + 1,[])) ∨ (txt.length ≤ i ∧ o = none)):=by
 obtain ⟨e,ha⟩:=h.inv
 refine ⟨ha,?_⟩
 unfold leafO at e
 by_cases hl:i < txt.length
 · rw [Zp hl] at e; exact .inl ⟨hl,e⟩
 · rw [Zrb (Nat.le_of_not_lt hl)] at e; exact .inr ⟨Nat.le_of_not_lt hl,e⟩
theorem ruleA (h:Rv txt K (.row [.rule nmA]) i o as):as = [(nmA,i)] ∧ ∃ a,K (nmA,i) = some a ∧ o = a.1.map fun e => (e,[(nmA,i)]):=by
 rcases h.inv with ⟨e,h⟩ | ⟨h',ks,o',as1,as2,h1,h2,e,ha⟩
 · obtain ⟨a,k1,k2,k3⟩:=h.inv
   obtain ⟨x,us⟩:=a
   cases x with
   | none => exact ⟨k3,_,k1,e⟩
   | some y => cases k2
 · obtain ⟨a,k1,k2,k3⟩:=h1.inv
   obtain ⟨e2,e3⟩:=h2.inv
   obtain ⟨x,us⟩:=a
   cases x with
   | none => cases k2
   | some y =>
     cases k2
     subst e3 e2
     exact ⟨by rw [ha,List.append_nil]; exact k3,_,k1,e⟩
theorem rowA (h:Rv txt K (.row [.any,.rule nmA]) i o as):(txt.length ≤ i ∧ o = none ∧ as = []) ∨ (i < txt.length ∧ as = [(nmA,i + 1)] ∧ ∃ a,K (nmA,i + 1) = some a ∧ o = a.1.map fun e => (e,[(nmA,i + 1)])):=by
 rcases h.inv with ⟨e,h⟩ | ⟨h',ks,o',as1,as2,h1,h2,e,ha⟩
 · obtain ⟨h0,⟨hl,e2⟩ | ⟨hl,e2⟩⟩:=anyA h
   · cases e2
   · exact .inl ⟨hl,e,h0⟩
 · obtain ⟨h0,⟨hl,e2⟩ | ⟨hl,e2⟩⟩:=anyA h1
   · cases e2
     obtain ⟨g1,a,g2,g3⟩:=ruleA h2
     refine .inr ⟨hl,by rw [ha,h0,g1]; rfl,a,g2,?_⟩
     rw [e,onO_nil]; exact g3
   · cases e2
theorem altA (h:Rv txt K ptA i o as) (hi:i ≤ txt.length):(i = txt.length ∧ o = some (i,[]) ∧ as = []) ∨ (i < txt.length ∧ as = [(nmA,i + 1)] ∧ ∃ a,K (nmA,i + 1) = some a ∧ ∀ e,a.1 = some e → o = some (e,[(nmA,i + 1)])):=by
 rcases h.inv with ⟨x,e,h⟩ | ⟨as1,as2,h1,h2,ha⟩
 · rcases rowA h with ⟨g1,g2,g3⟩ | ⟨g1,g2,a,g3,g4⟩
   · cases g2
   · exact .inr ⟨g1,g2,a,g3,fun e' he => by rw [e,g4,he]; rfl⟩
 · have l2:o = some (i,[]) ∧ as2 = []:=by
     rcases h2.inv with ⟨x,e,h⟩ | ⟨b1,b2,k1,k2,kb⟩
     · obtain ⟨e1,e2⟩:=h.inv
       exact ⟨e.trans e1,e2⟩
     · obtain ⟨e1,zz⟩:=k1.inv; cases e1
   rcases rowA h1 with ⟨g1,g2,g3⟩ | ⟨g1,g2,a,g3,g4⟩
   · exact .inl ⟨Nat.le_antisymm hi g1,l2.1,by rw [ha,g3,l2.2]; rfl⟩
   · refine .inr ⟨g1,by rw [ha,g2,l2.2]; rfl,a,g3,fun e he => ?_⟩
     rw [he] at g4; cases g4
theorem anO_out {a:An Kid} {e:Nat} {ks:List Kid} (h:anO a = some (e,ks)):a = (some e,ks):=by
 obtain ⟨x,us⟩:=a
 cases x with
 | none => cases h
 | some y => cases h; rfl
variable {G:Str → Pt}
theorem Ak.rv {k:Kid} (h:Ak G txt b k as):∃ a,getM b.kept k = some a ∧ Rv txt (getM b.kept) (G k.1) k.2 (anO a) as:=by
 obtain ⟨a,h1,h2⟩:=h
 exact ⟨a,h1,h2.rv [] [] (.new _ _) (fun zz => rfl) (by intros; contradiction)⟩
theorem keptA (hG:G nmA = ptA) (hi:MI G txt [] b) {a0:An Kid} (h0:getM b.kept (nmA,0) = some a0):∀ i,i ≤ txt.length → getM b.kept (nmA,i) = some (some txt.length,if i < txt.length then [(nmA,i + 1)] else []):=by
 have ex:∀ i,i ≤ txt.length → ∃ a,getM b.kept (nmA,i) = some a:=by
   intro i
   induction i with
   | zero => exact fun zz => ⟨a0,h0⟩
   | succ i ih =>
     intro hl
     obtain ⟨a,ha⟩:=ih (Nat.le_of_succ_le hl)
     obtain ⟨as,r,zz⟩:=hi.rv ha
     rw [show G (nmA,i).1 = ptA from hG] at r
     rcases altA r (Nat.le_of_succ_le hl) with ⟨g,zz⟩ | ⟨zz,zz,a',g,zz⟩
     · exact absurd hl (Nat.not_le.mpr (Nat.lt_succ_of_le (Zr g.symm)))
     · exact ⟨a',g⟩
 have dn:∀ n i,i + n = txt.length → getM b.kept (nmA,i) = some (some txt.length,if i < txt.length then [(nmA,i + 1)] else []):=by
   intro n
   induction n with
   | zero =>
     intro i e
     have e:i = txt.length:=e
     obtain ⟨a,ha⟩:=ex i (Zr e)
     obtain ⟨as,r,zz⟩:=hi.rv ha
     rcases altA (hG ▸ r) (Zr e) with ⟨zz,g2,zz⟩ | ⟨g,zz⟩
     · rw [ha,anO_out g2,if_neg (Zo.mpr (Zr e.symm))]; exact congrArg (fun n => some (some n,[])) e
     · exact absurd g (Zo.mpr (Zr e.symm))
   | succ n ih =>
     intro i e
     have g1:=stA e
     obtain ⟨a,ha⟩:=ex i (Zq g1)
     obtain ⟨as,r,zz⟩:=hi.rv ha
     rcases altA (hG ▸ r) (Zq g1) with ⟨g,zz⟩ | ⟨zz,zz,a',g3,g4⟩
     · exact absurd g (Nat.ne_of_lt g1)
     · have:=ih (i + 1) ((Nat.succ_add i n).trans e)
       rw [g3] at this
       rw [ha,anO_out (g4 txt.length (by rw [Zab this])),if_pos g1]
 exact fun i hl => dn (txt.length - i) i (Nat.add_sub_of_le hl)
theorem ordA (hG:G nmA = ptA) (hi:MI G txt [] b):∀ n i os os',i + n = txt.length → os = (List.range i).map (fun j => (nmA,j)) → Dfs (Ak G txt b) [(nmA,i)] os os' → os' = (List.range (txt.length + 1)).map fun j => (nmA,j):=by
 intro n
 induction n with
 | zero =>
   intro i os os' e ho h
   have e:i = txt.length:=e
   rcases h.one with ⟨h,zz⟩ | ⟨as,hk,h⟩
   · exact absurd (ho ▸ h) notA
   · obtain ⟨a,k1,r⟩:=hk.rv
     rcases altA (hG ▸ r) (Zr e) with ⟨zz,zz,g⟩ | ⟨g,zz⟩
     · rw [g] at h
       rw [h.none,ho,← e,List.range_succ,List.map_append]; rfl
     · exact absurd g (Zo.mpr (Zr e.symm))
 | succ n ih =>
   intro i os os' e ho h
   have g1:=stA e
   rcases h.one with ⟨h,zz⟩ | ⟨as,hk,h⟩
   · exact absurd (ho ▸ h) notA
   · obtain ⟨a,k1,r⟩:=hk.rv
     rcases altA (hG ▸ r) (Zq g1) with ⟨g,zz⟩ | ⟨zz,g,zz⟩
     · exact absurd g (Nat.ne_of_lt g1)
     · rw [g] at h
       exact ih (i + 1) _ _ ((Nat.succ_add i n).trans e) (by rw [ho,List.range_succ,List.map_append]; rfl) h
theorem treeA (hk:∀ i,i ≤ txt.length → K (nmA,i) = some (some txt.length,if i < txt.length then [(nmA,i + 1)] else [])):∀ n i d t,i + n = txt.length → Tr K d [(nmA,i)] t → t = (List.range (n + 1)).map fun j => (d + j,(nmA,i + j),txt.length):=by
 intro n
 induction n with
 | zero =>
   intro i d t e h
   have e:i = txt.length:=e
   obtain ⟨e1,ks,t1,h1,h2,h3⟩:=h.one
   rw [hk i (Zr e),if_neg (Zo.mpr (Zr e.symm))] at h1
   have h1:=Prod.mk.inj (Zab h1)
   rw [← h1.2] at h2
   rw [h3,h2.none,← Zab h1.1]; rfl
 | succ n ih =>
   intro i d t e h
   have g1:=stA e
   obtain ⟨e1,ks,t1,h1,h2,h3⟩:=h.one
   rw [hk i (Zq g1),if_pos g1] at h1
   have h1:=Prod.mk.inj (Zab h1)
   rw [← h1.2] at h2
   rw [h3,ih (i + 1) (d + 1) t1 ((Nat.succ_add i n).trans e) h2,← Zab h1.1,List.range_succ_eq_map (n:=n + 1),List.map_cons,List.map_map]
   refine congrArg (List.cons _) (List.map_congr_left fun j hj => ?_)
   show (d + 1 + j,(nmA,i + 1 + j),_) = (d + (j + 1),(nmA,i + (j + 1)),_)
   rw [Nat.succ_add,Nat.succ_add]; rfl
end
end
end Mine
namespace Mine
open PySem PySem.W PyProof.Rows
section
noncomputable abbrev T08 (w:World) (s:Shared):Tp:=tpOf PySem.Challenge.rw_uf010010_08.row.prog w s (hd08.heap_39 w.params)
variable {w:World} {s:Shared} {d:Nat} {X:QX} {Q:QE} {σ:Hp}
theorem sign_parts {c:Nat} (hc:isSignC c = true) (h2:(c == 10) = false) (h3:(c == 9) = false):decide ((32:Int) ≤ c) = true ∧ decide ((c:Int) ≤ 126) = true ∧ ((c:Int) != 37) = true:=by
 unfold isSignC at hc
 rw [h2,h3,Bool.false_or,Bool.false_or] at hc
 have h:=Bool.and_eq_true_iff.mp hc
 have g:=Bool.and_eq_true_iff.mp h.1
 exact ⟨Zmb (Int.ofNat_le.mpr (Zgb g.1)),Zmb (Int.ofNat_le.mpr (Zgb g.2)),bne_iff_ne.mpr fun e => bne_iff_ne.mp h.2 (Int.ofNat_inj.mp e)⟩
theorem fn_is_sign (TO:TopOk (T08 w s)) {c:Nat} (hc:isSignC c = true) (q:Q (.bool true) σ):CallOk (T08 w s) (d + 1) X (.glob "is_sign") [.str ⟨#[c]⟩] Q σ:=by
 refine CallOk.go TO rfl rfl ?_
 refine Cal.isi (b:=true) rfl <| Cal.len (n:=1) rfl (by decide) <| Br.mk (fun zz => q) fun h2 => Br.mk (fun zz => q) fun h3 => Cal.ord ?_
 have h:=sign_parts hc (beq_ch.symm.trans h2) (beq_ch.symm.trans h3)
 exact Br.t h.1 <| Br.t h.2.1 <| Cal.ord (show Q (.bool ((c:Int) != 37)) σ from h.2.2.symm ▸ q)
end
section
variable {w:World} {s:Shared} {d:Nat} {X:QX} {Q:QE} {σ:Hp}
theorem itemG.tag {p:Pt} (q:Q (.str p.word) σ):itemG p.v (.int 0) Q σ:=by cases p <;> exact q
theorem Pt.tag_rule {p:Pt} (h:(p.word == ("rule" : Str)) = true):∃ n,p = .rule n:=by
 cases p <;> first | exact ⟨_,rfl⟩ | exact (Zv h).elim
theorem itemG.rule {p:Pt} {n:Str} (h:p = .rule n) (q:Q (.str n) σ):itemG p.v (.int 1) Q σ:=by subst h; exact q
set_option tactic.hygienic true in
theorem fn_within (TO:TopOk (T08 w s)) {p:Pt} (hn:p.kids.length ≤ sizeLine) (q:Q (.ref σ.length) (σ ++ [.list (p.kids.map Pt.v)])):CallOk (T08 w s) (d + 1) X (.glob "within") [p.v] Q σ:=by
 refine CallOk.go TO rfl rfl ?_
 cases p with
 | row ps => exact Cal.list (vs:=Pt.vs ps) rfl (by rw [Pt.vs_map,Zc]; exact hn) (by rw [Pt.vs_map]; exact q)
 | alt ps => exact Cal.list (vs:=Pt.vs ps) rfl (by rw [Pt.vs_map,Zc]; exact hn) (by rw [Pt.vs_map]; exact q)
 | _ => exact q
noncomputable def Pt.leaf:Pt → Prop
 | .row _ | .alt _ | .many _ | .nt _ => False
 | z1 => True
theorem fn_leaf_ok (TO:TopOk (T08 w s)) {p:Pt} (hg:p.good = true) (hw:p.leaf) (q:Q (.bool true) σ):CallOk (T08 w s) (d + 2) X (.glob "is_leaf") [p.v] Q σ:=by
 refine CallOk.go TO rfl rfl ?_
 have sg:∀ {c:Nat} {Q:QE},isSignC c = true → Q (.bool true) σ → Cal (T08 w s) (d + 1) X (.glob "is_sign") [.str ⟨#[c]⟩] Q σ:=fun {c Q} hc q => ⟨fn_is_sign TO hc q⟩
 cases p with
 | any => exact Cal.lenT rfl q
 | sign c => exact Cal.lenT rfl (sg hg q)
 | rule n => exact Cal.lenT rfl (Cal.isi rfl q)
 | span a b =>
   have hg:=Bool.and_eq_true_iff.mp (show (isSignC a && isSignC b && decide (a ≤ b)) = true from hg)
   have h2:=Bool.and_eq_true_iff.mp hg.1
   refine Cal.lenT rfl (sg h2.1 (sg h2.2 (Cal.ord (Cal.ord ?_))))
   show Q (.bool (decide ((a:Int) ≤ b))) σ
   rw [Zmb (Int.ofNat_le.mpr (Zgb hg.2))]; exact q
 | row ps => exact hw.elim
 | alt ps => exact hw.elim
 | many p => exact hw.elim
 | nt p => exact hw.elim
theorem vs_at {ps:List Pt} {i:Nat} {x:V} (h:(Pt.vs ps)[i]? = some x):∃ p,ps[i]? = some p ∧ x = p.v:=by
 rw [Pt.vs_map,Zdb,Zpb] at h
 obtain ⟨p,hp,rfl⟩:=h
 exact ⟨p,hp,rfl⟩
theorem ne_nil {α:Type} {ps:List α} (h:(!ps.isEmpty) = true):((ps.length:Int) == 0) = false:=by
 cases ps with
 | nil => cases h
 | cons a r => exact beq_eq_false_iff_ne.mpr fun e => nomatch Int.ofNat_inj.mp e
theorem fn_is_part (TO:TopOk (T08 w s)):∀ (n:Nat) (p:Pt) (room:Nat) {X:QX} {Q:QE} {σ:Hp},p.deep ≤ n → n ≤ room → p.good = true → Pt.All Pt.few p → Q (.bool true) σ → CallOk (T08 w s) (d + n + 2) X (.glob "is_part") [p.v,.int room] Q σ:=by
 intro n
 induction n with
 | zero => intro p zz X Q σ hn; exact absurd (Za (Pt.deep_pos p) hn) (Nat.not_succ_le_zero 0)
 | succ n ih =>
   intro p room X Q σ hn hr hg hf q
   obtain ⟨hfk,hfc⟩:=hf
   have hkl:p.kids.length < 1000:=hfk
   cases room with
   | zero => exact absurd hr (Nat.not_succ_le_zero n)
   | succ r =>
   have kid:∀ k ∈ p.kids,∀ {Q:QE} {σ:Hp},Q (.bool true) σ → k.good = true → Cal (T08 w s) (d + n + 2) X (.glob "is_part") [k.v,.int (((r + 1:Nat):Int) - 1)] Q σ:=fun k hk {Q σ} q hG =>
     (Int.add_sub_cancel (r:Int) 1).symm ▸ ⟨ih k r (Nat.le_of_succ_le_succ (Za (Pt.kids_deep hk) hn)) (Nat.le_of_succ_le_succ hr) hG (hfc k hk) q⟩
   clear ih hr hn hfc hfk
   refine CallOk.go TO rfl rfl ?_
   cases p with
   | many k => exact Cal.isi rfl <| Cal.lenT rfl <| Cal.isi rfl <| Cal.lenT rfl <| kid k (Zj.mpr rfl) q hg
   | nt k => exact Cal.isi rfl <| Cal.lenT rfl <| Cal.isi rfl <| Cal.lenT rfl <| kid k (Zj.mpr rfl) q hg
   | row ps =>
     refine Cal.isi rfl <| Cal.lenT rfl <| Cal.isi rfl <| Cal.lenT rfl <| Cal.isi rfl ⟨_,fun i ρ' σ' => Has ρ' [("room",.int ((r + 1:Nat):Int))] ∧ σ' = σ,⟨⟨rfl,trivial⟩,rfl⟩,fun i ρ' σ' zz => rfl,fun ρ' σ' h => h.2 ▸ q,fun i x ρ' σ' hJ hx => (vs_at hx).elim fun k hk => ?_⟩
     rw [hk.2,hJ.2,← hJ.1.eq]
     exact ⟨_,rfl,vB_ok TO rfl 60 _ _ _ _ (kid k (Zn hk.1) ⟨⟨rfl,trivial⟩,rfl⟩ (Pt.goods_mem hg (Zn hk.1)))⟩
   | alt ps =>
     have hg:=Bool.and_eq_true_iff.mp (show (!ps.isEmpty && Pt.goods ps) = true from hg)
     refine Cal.isi rfl <| Cal.lenT rfl <| Cal.isi rfl <| Cal.lenT rfl <| Cal.isi rfl <| Cal.len (n:=ps.length) (len_tup (by rw [Pt.vs_map,Zc])) (Nat.lt_trans hkl (by decide)) <| Br.f (ne_nil hg.1) ⟨_,fun i ρ' σ' => Has ρ' [("room",.int ((r + 1:Nat):Int))] ∧ σ' = σ,⟨⟨rfl,trivial⟩,rfl⟩,fun i ρ' σ' zz => rfl,fun ρ' σ' h => h.2 ▸ q,fun i x ρ' σ' hJ hx => (vs_at hx).elim fun k hk => ?_⟩
     rw [hk.2,hJ.2,← hJ.1.eq]
     exact ⟨_,rfl,vB_ok TO rfl 60 _ _ _ _ (kid k (Zn hk.1) ⟨⟨rfl,trivial⟩,rfl⟩ (Pt.goods_mem hg.2 (Zn hk.1)))⟩
   | any => exact Cal.isi rfl <| Cal.lenT rfl <| Cal.isi rfl <| Cal.mk <| fn_leaf_ok (d:=d + n) (p:=.any) TO hg trivial q
   | sign c => exact Cal.isi rfl <| Cal.lenT rfl <| Cal.isi rfl <| Cal.mk <| fn_leaf_ok (d:=d + n) (p:=.sign c) TO hg trivial q
   | rule c => exact Cal.isi rfl <| Cal.lenT rfl <| Cal.isi rfl <| Cal.mk <| fn_leaf_ok (d:=d + n) (p:=.rule c) TO hg trivial q
   | span a b => exact Cal.isi rfl <| Cal.lenT rfl <| Cal.isi rfl <| Cal.mk <| fn_leaf_ok (d:=d + n) (p:=.span a b) TO hg trivial q
end
section
variable {w:World} {s:Shared} {d:Nat} {X:QX} {Q:QE} {σ:Hp}
theorem Pt.sizes_len:∀ st:List Pt,st.length ≤ Pt.sizes st
 | [] => Zkb _
 | a :: r => Za (Zcb (Pt.sizes_len r) (Pt.size_pos a)) (Zr (Nat.add_comm ..))
theorem sz5 {a b c n:Nat} (h:a ≤ b) (g:c + b ≤ n) (k:n < 100000):a < 100000:=Zk (Za h (Za (Ztb ..) g)) k
theorem sz6 {n:Nat} (h:n < 100000):n < sizeLine:=Zz h (szo (by decide))
inductive J08f (p:Pt) (σ:Hp) (n:Nat) (ρ':Loc) (σ':Hp):Prop where
 | mk (ns:List Str) (st:List Pt) (junk:Hp) (q0:n = Pt.sizes st) (q1:ns.length + Pt.sizes st ≤ p.size) (q2:∀ n ∈ ns,p.Asks n) (q3:∀ t ∈ st,Pt.All Pt.few t ∧ ∀ n,t.Asks n → p.Asks n) (q4:∀ n,p.Asks n → n ∈ ns ∨ ∃ t ∈ st,t.Asks n)
     (q5:σ' = σ ++ .list (ns.map .str) :: .list (st.map Pt.v) :: junk) (q6:Has ρ' [("found",.ref σ.length),("waiting",.ref (σ.length + 1))]):J08f p σ n ρ' σ'
theorem Pt.asks_kids {t:Pt} {n:Str} (h:t.Asks n):t = .rule n ∨ ∃ k ∈ t.kids,k.Asks n:=by
 cases h with
 | here => exact .inl rfl
 | deep hm hk => exact .inr ⟨_,hm,hk⟩
theorem sz7 {a b i k t n:Nat} (h2:a ≤ b + 1) (h:k < t) (g:b + (i + t) ≤ n):a + (i + k) ≤ n:=Za (Nat.add_le_add_right h2 _) (Za (Zr (Nat.succ_add_eq_add_succ b (i + k))) (Za (Nat.add_le_add_left (Nat.add_lt_add_left h i) b) g))
theorem fn_rules_in (TO:TopOk (T08 w s)) {p:Pt} (hfew:Pt.All Pt.few p) (hs:p.size < 100000) (q:∀ (ns:List Str) (junk:Hp),(∀ n,n ∈ ns ↔ p.Asks n) → ns.length ≤ p.size → Q (.ref σ.length) (σ ++ .list (ns.map .str) :: junk)):CallOk (T08 w s) (d + 2) X (.glob "rules_in") [p.v] Q σ:=by
 refine CallOk.go TO rfl rfl ?_
 refine Stx.mk <| StOk.while (J08f p σ) p.size ⟨[],[p],[],rfl,Zr (Nat.zero_add _),(by intros; contradiction),fun t ht => by cases Zj.mp ht; exact ⟨hfew,fun zz h => h⟩,fun n hn => .inr ⟨p,.head _,hn⟩,by simp,⟨rfl,by simp [upd],trivial⟩⟩ ?_
 rintro n ρ' σ' ⟨ns,st,junk,hn,hsz,hns,hst,hall,hσ,hρ⟩
 subst hn hσ
 obtain ⟨r,rfl⟩:=hρ.use
 have hsl:=Pt.sizes_len st
 refine vT_ok TO rfl 40 10 _ _ _ <| tvc.of (b:=!(st.map Pt.v).isEmpty) ?_ ?_
 · exact truth_list get1 (by rw [Zc]; exact Nat.lt_trans (sz5 hsl hsz hs) (by decide))
 rcases List.eq_nil_or_concat st with rfl | ⟨init,t,rfl⟩
 · refine ite_no (by simp) ?_
   exact q ns _ (fun n => ⟨hns n,fun hn => (hall n hn).elim id fun h => h.elim fun t h => (by cases h.1)⟩) hsz
 refine ite_yes (by simp) ?_
 rw [List.concat_eq_append] at hsz hst hall ⊢
 have hsz1:Pt.sizes (init ++ [t]) = Pt.sizes init + t.size:=Pt.sizes_append ..
 have hil:=Pt.sizes_len init
 obtain ⟨⟨hfk,hfc⟩,hta⟩:=hst t (by simp)
 have htp:=Pt.size_pos t
 have hkl:t.kids.length < 1000:=hfk
 have hks:=Pt.kids_size t
 refine vB_ok TO rfl 60 _ _ _ _ <| MethOk.pop get1 <| Cal.mk <| CallOk.pop (v:=t.v) (vs:=init.map Pt.v) (by rw [get1,List.map_append]; rfl) (by rw [Zc]; exact sz6 (sz5 hil (Za (Nat.add_le_add_left (hsz1 ▸ Zy ..) _) hsz) hs)) ?_
 rw [set1]
 have fin:∀ {ns':List Str},(∀ n ∈ ns',p.Asks n) → ns'.length ≤ ns.length + 1 → (∀ n ∈ ns,n ∈ ns') → (∀ n,t = .rule n → n ∈ ns') → ∃ m,m < Pt.sizes (init ++ [t]) ∧ J08f p σ m (locs r [("found",.ref σ.length),("waiting",.ref (σ.length + 1))] |> fun ρ => upd ρ "one" (some t.v)) (σ ++ .list (ns'.map .str) :: .list ((init ++ t.kids).map Pt.v) :: (junk ++ [.list (t.kids.map Pt.v)])):=fun {ns'} h1 h2 h3 h4 =>
   ⟨Pt.sizes (init ++ t.kids),by rw [hsz1,Pt.sizes_append]; exact Nat.add_lt_add_left hks _,ns',init ++ t.kids,_,rfl,by rw [Pt.sizes_append]; exact sz7 h2 hks (hsz1 ▸ hsz),h1,fun u hu => (Zm.mp hu).elim (fun hu => hst u (List.mem_append_left _ hu)) fun hu => ⟨hfc u hu,fun n hn => hta n (.deep hu hn)⟩,
     fun n hn => (hall n hn).elim (fun h => .inl (h3 n h)) fun ⟨u,hu,hn⟩ => (Zm.mp hu).elim (fun hu => .inr ⟨u,List.mem_append_left _ hu,hn⟩) fun hu => by
       cases Zj.mp hu
       exact (Pt.asks_kids hn).elim (fun h => .inl (h4 n h)) fun hh1 => by obtain ⟨k,hk,hn⟩:=hh1; exact .inr ⟨k,List.mem_append_right _ hk,hn⟩,rfl,⟨rfl,rfl,trivial⟩⟩
 have fin2:∀ {ns':List Str} {K:QE},(K .none (σ ++ .list (ns'.map .str) :: .list ((init ++ t.kids).map Pt.v) :: (junk ++ [.list (t.kids.map Pt.v)]))) → Cal (T08 w s) (d + 1) X (.bi "list.extend") [.ref (σ.length + 1),.ref (σ ++ .list (ns'.map .str) :: .list (init.map Pt.v) :: junk).length] K ((σ ++ .list (ns'.map .str) :: .list (init.map Pt.v) :: junk) ++ [.list (t.kids.map Pt.v)]):=fun {ns' K} k =>
   ⟨CallOk.extend (vs:=init.map Pt.v) (us:=t.kids.map Pt.v) (by rw [Ze]; exact get1) get_new (by rw [Zc,Zc]; exact szo (Za (Zcb (Zq (sz5 hil (Za (Nat.add_le_add_left (hsz1 ▸ Zy ..) _) hsz) hs)) (Zq hkl)) (by decide))) (by
     rw [Ze,List.cons_append,List.cons_append,set1,← List.map_append]; exact k)⟩
 have wi:∀ {σ':Hp} {K:QE},K (.ref σ'.length) (σ' ++ [.list (t.kids.map Pt.v)]) → Cal (T08 w s) (d + 1) X (.glob "within") [t.v] K σ':=fun {σ' K} k => ⟨fn_within TO (szo (by (clear k fin fin2 q hks; exact Zq (Nat.lt_trans hfk (Ztb (Nat.succ 1000) 16776215))))) k⟩
 refine itemG.tag <| Br.mk (fun h => ?_) fun h => ?_
 · obtain ⟨n,hn⟩:=Pt.tag_rule h
   refine MethOk.append get0 <| itemG.rule hn <| Cal.mk <| CallOk.append (vs:=ns.map .str) get0 (by rw [Zc]; exact Zq (sz6 (Zk (Za (Zy ..) hsz) hs))) ?_
   rw [set0,show ns.map V.str ++ [V.str n] = (ns ++ [n]).map V.str by simp]
   exact MethOk.extend get1 <| wi <| fin2 <| fin (fun m hm => (Zm.mp hm).elim (hns m) fun h => by cases Zj.mp h; exact hta _ (hn ▸ .here)) (by simp) (fun m hm => List.mem_append_left _ hm) fun m hm => by rw [hn] at hm; cases hm; simp
 · exact MethOk.extend get1 <| wi <| fin2 <| fin hns (Nat.le_succ _) (fun zz h => h) fun n e => by rw [e] at h; exact (Zv h.symm).elim
end
section
variable {w:World} {s:Shared} {d:Nat} {X:QX} {Q:QE} {σ:Hp}
theorem Cmp.strs {neg b:Bool} {x y:Str} (h:strIn x y = b) (q:Q (.bool (neg != b)) σ):Cmp (if neg then .NotIn else .In) (.str x) (.str y) Q σ:=.inR (h ▸ .str x y) q
theorem fn_is_name (TO:TopOk (T08 w s)) {x:Str} (hx:isName x = true) (q:∀ junk,Q (.bool true) (σ ++ junk)):CallOk (T08 w s) (d + 1) X (.glob "is_name") [.str x] Q σ:=by
 simp only [isName,Zob,decide_eq_true_eq] at hx
 obtain ⟨⟨h1,h12⟩,hall⟩:=hx
 refine CallOk.go TO rfl rfl ?_
 refine Cal.isi (b:=true) rfl <| Cal.len rfl (by clear h1 hall; exact Zk (by assumption) (by decide)) <| Br.t (Zmb (by clear hall; lia)) <| Br.f (by rw [Zmb (by clear hall; lia)]; rfl) ⟨x.cps.toList.map fun c => .str ⟨#[c]⟩,fun i acc σ' => acc = [] ∧ σ' = σ,⟨rfl,rfl⟩,fun i acc σ' hJ => ⟨rfl,by rw [hJ.1]; exact Zkb _⟩,fun acc σ' hJ => ?_,fun i y acc σ' hJ hy => ?_⟩
 · obtain ⟨rfl,rfl⟩:=hJ
   exact Cal.len (n:=0) (len_list (vs:=[]) (by simp)) (by decide) (q _)
 · obtain ⟨rfl,rfl⟩:=hJ
   rw [Zdb,Zpb] at hy
   obtain ⟨c,hc,rfl⟩:=hy
   exact vT_ok TO rfl 40 10 _ _ _ <| Cmp.strs (neg:=true) (letter_in (List.all_eq_true.mp hall c (Zn hc))) ⟨rfl,rfl⟩
theorem map_at {α:Type} {f:α → V} {rs:List α} {i:Nat} {x:V} (h:(rs.map f)[i]? = some x):∃ r,rs[i]? = some r ∧ x = f r:=by
 rw [Zdb,Zpb] at h
 obtain ⟨r,hr,rfl⟩:=h
 exact ⟨r,hr,rfl⟩
theorem Cmp.met {neg:Bool} {n:Str} {l:Nat} {ns:List Str} (hl:σ[l]? = some (.sdict (metKV ns))) (q:Q (.bool (neg != decide (n ∈ ns))) σ):Cmp (if neg then .NotIn else .In) (.str n) (.ref l) Q σ:=.inR (.dict _ _ _ hl) (by rw [metKV_any]; exact q)
inductive J08h (l:Nat) (σ:Hp) (ns:List Str) (ρ':Loc) (σ':Hp):Prop where
 | mk (q0:Has ρ' [("rules",.ref l),("met",.ref σ.length)]) (junk:Hp) (q2:σ' = σ ++ .sdict (metKV ns) :: junk):J08h l σ ns ρ' σ'
theorem fn_need_rules (TO:TopOk (T08 w s)) {l:Nat} {rs:List (Str × Pt)} (hl:σ[l]? = some (.list (rs.map ruleV))) (hg:GoodRules rs) (q:∀ junk,Q .none (σ ++ junk)):CallOk (T08 w s) (d + 16) X (.glob "need_rules") [.ref l] Q σ:=by
 have hm:=hg.most
 have h1:=hg.one
 refine CallOk.go TO rfl rfl ?_
 refine Cal.isi (b:=true) (isi_list hl) <| Cal.len (n:=rs.length) (len_at hl (by simp only [Zc])) (by (clear hl; exact Zk (by assumption) (by decide))) <| Br.t (Zmb (by (clear hl; lia))) <| Br.f (by rw [Zmb (by (clear hl; lia))]; rfl)
   ⟨rs.map ruleV,fun i => J08h l σ ((rs.take i).map (·.1)),⟨⟨rfl,rfl,trivial⟩,[],by simp [metKV]⟩,fun i ρ' σ' hJ => ?_,fun ρ' σ' hJ => ?_,fun i x ρ' σ' hJ hx => ?_⟩
 · obtain ⟨zz,junk,rfl⟩:=hJ
   exact iter_list (get_up hl)
 · obtain ⟨hρ,junk,rfl⟩:=hJ
   rw [Zc,List.take_length]
   obtain ⟨r,rfl⟩:=hρ.use
   refine ⟨rs.map ruleV,fun i => J08h l σ (rs.map (·.1)),⟨⟨rfl,rfl,trivial⟩,junk,rfl⟩,fun i ρ₂ σ₂ hJ => ?_,fun ρ₂ σ₂ hJ => ?_,fun i x ρ₂ σ₂ hJ hx => ?_⟩
   · obtain ⟨zz,jk,rfl⟩:=hJ
     exact iter_list (get_up hl)
   · obtain ⟨zz,jk,rfl⟩:=hJ
     exact q _
   · obtain ⟨hρ,jk,rfl⟩:=hJ
     obtain ⟨r,hr,rfl⟩:=map_at hx
     obtain ⟨r',rfl⟩:=hρ.use
     have hG:=hg.all r (Zn hr)
     refine ⟨_,rfl,vB_ok TO rfl 60 _ _ _ _ <| Cal.mk <| fn_rules_in (d:=d + 13) TO hG.few hG.size fun ns jk2 hns hln => ⟨ns.map .str,fun zz ρ₃ σ₃ => Has ρ₃ [("rules",.ref l),("met",.ref σ.length)] ∧ σ₃ = (σ ++ .sdict (metKV (rs.map (·.1))) :: jk) ++ .list (ns.map .str) :: jk2,⟨⟨rfl,rfl,trivial⟩,rfl⟩,fun i ρ₃ σ₃ hJ => ?_,fun ρ₃ σ₃ hJ => ?_,fun i y ρ₃ σ₃ hJ hy => ?_⟩⟩
     · rw [hJ.2]; exact iter_list get0
     · exact ⟨hJ.1,jk ++ .list (ns.map .str) :: jk2,by rw [hJ.2,Ze,List.cons_append]⟩
     · obtain ⟨hρ,rfl⟩:=hJ
       obtain ⟨n,hn,rfl⟩:=map_at hy
       obtain ⟨r',rfl⟩:=hρ.use
       have hin:=hG.asks n ((hns n).mp (Zn hn))
       refine ⟨_,rfl,vB_ok TO rfl 60 _ _ _ _ <| Cmp.met (neg:=true) (ns:=rs.map (·.1)) (by rw [Ze,List.cons_append]; exact get0) <| Br.f (by simpa using hin) ⟨⟨rfl,rfl,trivial⟩,rfl⟩⟩
 · obtain ⟨hρ,junk,rfl⟩:=hJ
   obtain ⟨r,hr,rfl⟩:=map_at hx
   obtain ⟨r',rfl⟩:=hρ.use
   have hG:=hg.all r (Zn hr)
   have hnew:r.1 ∉ (rs.take i).map (·.1):=nodup_take hg.nodup hr
   refine ⟨_,rfl,vB_ok TO rfl 60 _ _ _ _ <| Cal.isi rfl <| Cal.lenT rfl <| Cal.mk <| fn_is_name TO hG.name fun jk => ?_⟩
   rw [Ze,List.cons_append]
   refine Cmp.met (neg:=false) (ns:=(rs.take i).map (·.1)) get0 <| Br.f (by simpa using hnew) <| Cal.mk <| fn_is_part (d:=d + 1) TO 12 r.2 12 hG.deep (Zl _) hG.good hG.few <| SetItemOk.mk _ _ _ rfl rfl get0 (by simp [metKV]; exact szo (by (clear hr hl; lia))) ?_
   rw [set0,metKV_set hnew]
   refine ⟨⟨rfl,rfl,trivial⟩,junk ++ jk,?_⟩
   rw [take_next hr,List.map_append]; rfl
end
section
variable {w:World} {s:Shared} {d:Nat}
theorem may_all {B:Str → Bool} {ps:List Pt}:Pt.may B (.row ps) = (ps.map (Pt.may B)).all id:=by rw [Pt.may4,Pt.mayAll_eq,List.all_map]; rfl
theorem may_any {B:Str → Bool} {ps:List Pt}:Pt.may B (.alt ps) = (ps.map (Pt.may B)).any id:=by rw [Pt.may5,Pt.mayAny_eq,List.any_map]; rfl
theorem Cmp.keys {n:Str} {l:Nat} {kvs:List (Str × V)} {Q:QE} {σ:Hp} (hl:σ[l]? = some (.sdict kvs)) (q:Q (.bool (hasK kvs n)) σ):Cmp .In (.str n) (.ref l) Q σ:=.inD hl rfl q
theorem fn_may (TO:TopOk (T08 w s)) {b:Nat} {kvs:List (Str × V)}:∀ (n:Nat) (p:Pt) {X:QX} {Q:QE} {σ:Hp},p.deep ≤ n → Pt.All Pt.few p → σ[b]? = some (.sdict kvs) → (∀ junk,Q (.bool (p.may (hasK kvs))) (σ ++ junk)) → CallOk (T08 w s) (d + n + 1) X (.glob "may_be_empty") [p.v,.ref b] Q σ:=by
 intro n
 induction n with
 | zero => intro p X Q σ hn; exact absurd (Pt.deep_pos p) (by lia)
 | succ n ih =>
   intro p X Q σ hn hf hb q
   have q0:Q (.bool (p.may (hasK kvs))) σ:=by simpa using q []
   obtain ⟨hfk,hfc⟩:=hf
   have hkl:p.kids.length < 1000:=hfk
   refine CallOk.go TO rfl rfl ?_
   have run:∀ {sc:Scope} {scope:Scope} {ρ:Loc} {elt:Expr} {K:QE},(∀ jk,K (.ref (σ ++ .list (p.kids.map Pt.v) :: jk).length) (σ ++ .list (p.kids.map Pt.v) :: jk ++ [.list (p.kids.map fun k => V.bool (k.may (hasK kvs)))])) →
       (∀ (k:Pt) {Z:QE} {σ':Hp},Cal (T08 w s) (d + n + 1) X (.glob "may_be_empty") [k.v,.ref b] Z σ' → EvOk (T08 w s) (d + n + 1) (relab scope sc) (upd (compLoc scope ρ) "one" (some k.v)) X elt Z σ') →
       CompOk (T08 w s) (d + n + 1) sc ρ X scope "one" [] elt K (.ref σ.length) (σ ++ [.list (p.kids.map Pt.v)]):=fun {sc scope ρ elt K} hK he =>
     ⟨p.kids.map Pt.v,fun i acc σ' => acc = (p.kids.take i).map (fun k => V.bool (k.may (hasK kvs))) ∧ ∃ junk,σ' = σ ++ .list (p.kids.map Pt.v) :: junk,⟨by simp,[],rfl⟩,fun i acc σ' hJ => by
       obtain ⟨rfl,junk,rfl⟩:=hJ
       exact ⟨iter_list get0,by simp only [Zc,List.length_take]; exact szo (by (clear hb ih hn q q0 hK he; lia))⟩,fun acc σ' hJ => by
       obtain ⟨rfl,junk,rfl⟩:=hJ
       rw [Zc,List.take_length]
       exact hK junk,fun i y acc σ' hJ hy => by
       obtain ⟨rfl,junk,rfl⟩:=hJ
       obtain ⟨k,hk,rfl⟩:=map_at hy
       have hm:=Zn hk
       refine he k ⟨ih k (by have:=Pt.kids_deep hm; (clear hk hkl hb ih q q0 hK he; lia)) (hfc k hm) (get_up hb) fun jk => ⟨?_,junk ++ jk,by simp⟩⟩
       rw [take_next hk,List.map_append]; rfl⟩
   have wi:∀ {K:QE},K (.ref σ.length) (σ ++ [.list (p.kids.map Pt.v)]) → Cal (T08 w s) (d + n + 1) X (.glob "within") [p.v] K σ:=fun {K} k => ⟨fn_within (d:=d + n) TO (szo (by (clear hb ih hn q q0 k run; exact Zq (Nat.lt_trans hfk (Ztb (Nat.succ 1000) 16776215))))) k⟩
   have el:∀ {ps:List Pt} {σ:Hp} {l:Nat},σ[l]? = some (.list (ps.map fun k => V.bool (k.may (hasK kvs)))) → σ[l]? = some (.list ((ps.map (Pt.may (hasK kvs))).map V.bool)):=fun h => (allB_map _ _) ▸ h
   cases p with
   | many p => exact q0
   | nt p => exact q0
   | rule m => exact Cmp.keys hb q0
   | row ps =>
     refine wi <| run (fun jk => Cal.mk (CallOk.all (el get_new) ?_)) fun k Z σ' h => vE_ok TO rfl 40 _ _ _ h
     have:=q (.list (ps.map Pt.v) :: jk ++ [.list (ps.map fun k => V.bool (k.may (hasK kvs)))])
     rw [may_all,← Ze] at this
     exact this
   | alt ps =>
     refine wi <| run (fun jk => Cal.mk (CallOk.any (el get_new) ?_)) fun k Z σ' h => vE_ok TO rfl 40 _ _ _ h
     have:=q (.list (ps.map Pt.v) :: jk ++ [.list (ps.map fun k => V.bool (k.may (hasK kvs)))])
     rw [may_any,← Ze] at this
     exact this
   | sign c =>
     refine wi <| run (fun jk => ?_) fun k Z σ' h => vE_ok TO rfl 40 _ _ _ h
     have:=q (.list [] :: jk ++ [.list []])
     rw [← Ze] at this
     exact this
   | span a b =>
     refine wi <| run (fun jk => ?_) fun k Z σ' h => vE_ok TO rfl 40 _ _ _ h
     have:=q (.list [] :: jk ++ [.list []])
     rw [← Ze] at this
     exact this
   | any =>
     refine wi <| run (fun jk => ?_) fun k Z σ' h => vE_ok TO rfl 40 _ _ _ h
     have:=q (.list [] :: jk ++ [.list []])
     rw [← Ze] at this
     exact this
end
section
variable {w:World} {s:Shared} {d:Nat}
theorem drop_at {α:Type} {l:List α} {i:Nat} {k:α} (hk:l[i]? = some k):l.drop i = k :: l.drop (i + 1):=by
 obtain ⟨hi,e⟩:=Zb.mp hk
 rw [← e]; exact List.drop_eq_getElem_cons hi
theorem get_new' {σ:Hp} {a o:MObj} {n:Nat} (h:n = σ.length + 1):(σ ++ [a] ++ [o])[n]? = some o:=by rw [h]; exact (Zf (as:=σ) (bs:=[a])) ▸ get_new
inductive J08j (p:Pt) (b:Nat) (σ:Hp) (B:Str → Bool) (i:Nat) (ρ':Loc) (σ':Hp):Prop where
 | mk (r:Nat) (acc:List Str) (junk:Hp) (q0:Has ρ' [("found",.ref r),("part",.tup (.str p.word :: p.rest)),("bare",.ref b)]) (q3:σ.length ≤ r) (q4:σ' = σ ++ junk) (q7:σ'[σ.length + 1]? = some (.list (p.kids.map Pt.v))) (q5:σ'[r]? = some (.list (acc.map V.str))) (q6:acc ++ ahdK B (p.word == "row") (p.kids.drop i) = ahdK B (p.word == "row") p.kids):J08j p b σ B i ρ' σ'
theorem fn_ahead (TO:TopOk (T08 w s)) {b:Nat} {kvs:List (Str × V)}:∀ (n:Nat) (p:Pt) {X:QX} {Q:QE} {σ:Hp},p.deep ≤ n → p.size < 100000 → Pt.All Pt.few p → σ[b]? = some (.sdict kvs) →
   (∀ r junk,σ.length ≤ r → (σ ++ junk)[r]? = some (.list ((p.ahd (hasK kvs)).map V.str)) → Q (.ref r) (σ ++ junk)) → CallOk (T08 w s) (d + n + 1) X (.glob "ahead") [p.v,.ref b] Q σ:=by
 intro n
 induction n with
 | zero => intro p X Q σ hn; exact absurd (Za (Pt.deep_pos p) hn) (Nat.not_succ_le_zero 0)
 | succ n ih =>
   intro p X Q σ hn hsz hf hb q
   obtain ⟨hfk,hfc⟩:=hf
   have hkl:p.kids.length < 1000:=hfk
   rw [p.head]
   refine CallOk.go TO rfl rfl ?_
   by_cases h3:p.word = "rule"
   · obtain ⟨m,rfl⟩:=Pt.word_rule h3
     exact q _ _ (Zl _) get_new
   have wi:∀ {σ':Hp} {K:QE},K (.ref σ'.length) (σ' ++ [.list (p.kids.map Pt.v)]) → Cal (T08 w s) (d + n + 1) X (.glob "within") [.tup (.str p.word :: p.rest)] K σ':=fun {σ' K} k => ⟨by rw [← p.head]; exact fn_within (d:=d + n) TO (szo (Zq (Nat.lt_trans hfk (by decide)))) k⟩
   refine Br.f (beq_eq_false_iff_ne.mpr h3) <| wi ?_
   have htot:(ahdK (hasK kvs) (p.word == "row") p.kids).length ≤ p.size:=Pt.ahd_kids (B:=hasK kvs) h3 ▸ Pt.ahd_size _ _
   have done:∀ {r:Nat} {acc:List Str} {jk σ':Hp},σ' = σ ++ jk → σ.length ≤ r → σ'[r]? = some (.list (acc.map V.str)) → acc = ahdK (hasK kvs) (p.word == "row") p.kids → Q (.ref r) σ':=fun {r acc jk σ'} e h1 h2 h3' => by
     rw [h3',← Pt.ahd_kids h3,e] at h2
     rw [e]; exact q r _ h1 h2
   clear q
   refine ⟨p.kids.map Pt.v,J08j p b σ (hasK kvs),⟨σ.length,[],[.list [],.list (p.kids.map Pt.v)],⟨rfl,rfl,rfl,trivial⟩,Zl _,Ze ..,get_new' rfl,get_up get_new,rfl⟩,fun i ρ' σ' hJ => ?_,fun ρ' σ' hJ => ?_,fun i x ρ' σ' hJ hx => ?_⟩
   · exact hJ.rec fun r acc junk zz zz zz h7 zz zz => iter_list (Zf (as:=σ) (bs:=[MObj.list []]) ▸ h7)
   · obtain ⟨r,acc,junk,a1,a4,a3,a7,a5,a6⟩:=hJ
     rw [← a1.eq]
     rw [Zc,List.drop_length,ahdK1,List.append_nil] at a6
     exact done a3 a4 a5 a6
   · obtain ⟨r,acc,junk,a1,a4,a3,a7,a5,a6⟩:=hJ
     refine (map_at hx).elim fun k hkx => ?_
     have hk:=hkx.1
     rw [hkx.2,← a1.eq]
     clear hkx hx a1
     have hm:=Zn hk
     have hkd:k.deep ≤ n:=Nat.le_of_succ_le_succ (Za (Pt.kids_deep hm) hn)
     rw [drop_at hk,ahdK2,← Ze] at a6
     have hlen:(acc ++ k.ahd (hasK kvs)).length ≤ p.size:=Za (Zf ▸ Zy ..) (a6 ▸ htot)
     have hsl:(acc ++ k.ahd (hasK kvs)).length ≤ sizeLine:=szo (Za (Zq (Zk hlen hsz)) (by decide))
     have hb':σ'[b]? = some (.sdict kvs):=a3 ▸ get_up hb
     refine ⟨_,rfl,vB_ok TO rfl 60 _ _ _ _ <| Cal.mk <| ih k hkd (Nat.lt_trans (Pt.size_mem hm) hsz) (hfc k hm) hb' fun r2 jk hr2 hl2 => Bin.lists (get_up a5) hl2 (by rw [Zc,Zc,← Zf]; exact hsl) ?_⟩
     rw [← List.map_append]
     generalize acc ++ k.ahd (hasK kvs) = acc2 at a6
     have e2:σ' ++ jk = σ ++ (junk ++ jk):=a3 ▸ Ze ..
     have h7:(σ' ++ jk)[σ.length + 1]? = some (.list (p.kids.map Pt.v)):=get_up a7
     have hb2:(σ' ++ jk)[b]? = some (.sdict kvs):=get_up hb'
     clear hl2 hr2 a7 a5 a3 hlen hsl hb'
     generalize σ' ++ jk = σ2 at e2 h7 hb2 ⊢
     have hle:σ.length ≤ σ2.length:=by rw [e2,Zf]; exact Zy ..
     have hap:∀ {j3:Hp},σ2 ++ [MObj.list (acc2.map V.str)] ++ j3 = σ ++ (junk ++ jk ++ [MObj.list (acc2.map V.str)] ++ j3):=by
       intro j3; rw [e2]; simp only [Ze]
     have next:∀ {j3:Hp} {ρ:Loc},Has ρ [("found",.ref σ2.length),("part",.tup (.str p.word :: p.rest)),("bare",.ref b)] → acc2 ++ ahdK (hasK kvs) (p.word == "row") (p.kids.drop (i + 1)) = ahdK (hasK kvs) (p.word == "row") p.kids → J08j p b σ (hasK kvs) (i + 1) ρ (σ2 ++ [MObj.list (acc2.map V.str)] ++ j3):=fun {j3 ρ} h1 h2 => ⟨_,acc2,_,h1,hle,hap,get_up (get_up h7),get_up get_new,h2⟩
     by_cases h4:p.word = "row"
     · have e4:(p.word == "row") = true:=beq_iff_eq.mpr h4
       rw [e4] at a6 done next
       refine Br.t e4 <| Cal.mk <| fn_may (d:=d) TO n k hkd (hfc k hm) (get_up hb2) fun jk3 => Br.mk (fun hm => ?_) fun hm => ?_
       · rw [Bool.not_eq_true'] at hm
         rw [hm] at a6
         exact done hap hle (get_up get_new) ((List.append_nil _).symm.trans a6)
       · rw [Bool.not_eq_false'] at hm
         rw [hm] at a6
         exact next ⟨rfl,rfl,rfl,trivial⟩ a6
     · have e4:(p.word == "row") = false:=beq_eq_false_iff_ne.mpr h4
       have this:=next (j3:=[]) (ρ:=upd (upd (locs ρ' [("found",.ref r),("part",.tup (.str p.word :: p.rest)),("bare",.ref b)]) "one" (some k.v)) "found" (some (.ref σ2.length))) ⟨rfl,rfl,rfl,trivial⟩ (by rw [e4] at a6 ⊢; exact a6)
       rw [List.append_nil] at this
       exact Br.f e4 this
end
section
variable {w:World} {s:Shared} {d:Nat} {X:QX} {Q:QE} {σ:Hp}
noncomputable def MetAt (T:Tp) (C:Addr) (x:Str):Prop:=∃ fa,PySem.W.findIn T.K (.ref C) x = some (some (.ref fa)) ∧ PySem.W.typeIn T.K (.ref fa) = some (.type "function") ∧ PySem.W.keepIn T.K (.ref fa) = true
noncomputable def FldAt (T:Tp) (C:Addr) (x:Str):Prop:=PySem.W.findIn T.K (.ref C) x = some none ∧ PySem.W.takerIn T.K C x = some none
structure GrCls (T:Tp) (C:Addr):Prop where
 cls:ClsAt T "Grammar" C
 pairs:FldAt T C "pairs"
 table:FldAt T C "table"
 bare:FldAt T C "bare"
 leads:FldAt T C "leads"
 comes_back:MetAt T C "comes_back"
 need:MetAt T C "need"
 names:MetAt T C "names"
 part:MetAt T C "part"
 asked:MetAt T C "asked"
theorem gr_cls:∃ C,GrCls (T08 w s) C:=⟨_,⟨rfl,rfl,rfl,rfl,rfl,rfl⟩,⟨rfl,rfl⟩,⟨rfl,rfl⟩,⟨rfl,rfl⟩,⟨rfl,rfl⟩,⟨_,rfl,rfl,rfl⟩,⟨_,rfl,rfl,rfl⟩,⟨_,rfl,rfl,rfl⟩,⟨_,rfl,rfl,rfl⟩,⟨_,rfl,rfl,rfl⟩⟩
theorem MethOk.own {T:Tp} {l:Nat} {c name:Str} {gs:List (Str × V)} {C:Addr} {K:V → Prop} (h1:σ[l]? = some (.inst c gs)) (h2:gs.lookup name = none) (hc:ClsAt T c C) (hf:MetAt T C name) (k:K (.mth c name)):MethOk T (.ref l) name σ K:=by
 obtain ⟨fa,h3,h4,h5⟩:=hf
 exact ⟨_,.mth l c gs C fa h1 h2 hc h3 h4 h5,k⟩
theorem AttrOk.of {T:Tp} {l:Nat} {c attr:Str} {gs:List (Str × V)} {C:Addr} {v:V} (h1:σ[l]? = some (.inst c gs)) (h2:gs.lookup attr = some v) (h3:handV v = true) (hc:ClsAt T c C) (hf:FldAt T C attr) (q:Q v σ):AttrOk T attr Q (.ref l) σ:=⟨l,c,gs,v,C,rfl,h1,h2,h3,hc,hf.1,q⟩
theorem SetAttrOk.of {T:Tp} {l:Nat} {c attr:Str} {gs:List (Str × V)} (gs':List (Str × V)) {C:Addr} {v:V} {ρ:Loc} {K:QS} (h1:σ[l]? = some (.inst c gs)) (hc:ClsAt T c C) (hf:FldAt T C attr) (h4:gs.length < 1000) (e:setKV gs attr v = gs') (q:K .next ρ (σ.set l (.inst c gs'))):SetAttrOk T attr ρ K v (.ref l) σ:=⟨l,c,gs,C,rfl,h1,hc,hf.2,h4,by rw [e]; exact q⟩
theorem SetAttrOk.to {T:Tp} {l:Nat} {c attr:Str} {gs:List (Str × V)} (gs':List (Str × V)) {C:Addr} {v:V} {ρ:Loc} {K:QS} (h1:σ[l]? = some (.inst c gs)) (hc:ClsAt T c C) (hf:FldAt T C attr) (h4:gs.length < 1000) (e:setKV gs attr v = gs') {σ':Hp} (es:σ.set l (.inst c gs') = σ') (q:K .next ρ σ'):SetAttrOk T attr ρ K v (.ref l) σ:=SetAttrOk.of gs' h1 hc hf h4 e (es.symm ▸ q)
theorem SetItemOk.of {l:Nat} {k:Str} {kvs:List (Str × V)} {v:V} {ρ:Loc} {K:QS} (h1:σ[l]? = some (.sdict kvs)) (h2:kvs.length ≤ 1000000) (q:K .next ρ (σ.set l (.sdict (setKV kvs k v)))):SetItemOk ρ K v (.ref l) (.str k) σ:=.mk l k kvs rfl rfl h1 (szo (by exact Zq (Zk h2 (Ztb (Nat.succ 1000000) 15777215)))) q
theorem Itm.dict {l:Nat} {k:Str} {kvs:List (Str × V)} {v:V} (h1:σ[l]? = some (.sdict kvs)) (h2:getKV kvs k = some v) (q:Q v σ):Itm (.ref l) (.str k) Q σ:=⟨⟨v,.dict _ _ _ _ h1 h2,q⟩⟩
theorem cb_few {m r x:Nat} (hx:x ≤ (m + 1) * 100000) (hm:m ≤ r) (hr:r ≤ 40):x ≤ 4100000:=Za hx (Nat.mul_le_mul_right 100000 (Nat.succ_le_succ (Za hm hr)))
theorem cb_less {r m i a:Nat} (h:m + 1 ≤ r) (ha:a < 100000):(r - (m + 1)) * 100001 + (i + a) < (r - m) * 100001 + (i + 1):=by
 obtain ⟨k,rfl⟩:=Nat.exists_eq_add_of_le h
 rw [Nat.add_sub_cancel_left,show m + 1 + k - m = k + 1 by rw [Nat.add_assoc,Nat.add_sub_cancel_left,Nat.add_comm],Nat.succ_mul,Nat.add_assoc]
 refine Nat.add_lt_add_left ?_ _
 rw [Nat.add_comm i a,Nat.add_comm i 1,← Nat.add_assoc]
 exact Nat.add_lt_add_right (Nat.lt_trans ha (by decide)) i
theorem cb_next {m i a:Nat} (h:i + 1 ≤ (m + 1) * 100000) (ha:a < 100000):i + a ≤ (m + 1 + 1) * 100000:=Za (Zcb (Nat.le_of_succ_le h) (Zq ha)) (Zr (Nat.succ_mul (m + 1) 100000).symm)
inductive J08k (rs:List (Str × Pt)) (B:Str → Bool) (r:Str × Pt) (g:Nat) (σ:Hp) (n:Nat) (ρ':Loc) (σ':Hp):Prop where
 | mk (ms:List Str) (ws:List Str) (q0:n = (rs.length - ms.length) * 100001 + ws.length) (q1:Seek rs B r.1 ms ws) (q2:ws.length ≤ (ms.length + 1) * 100000) (q3:Has ρ' [("self",.ref g),("name",.str r.1),("met",.ref σ.length),("waiting",.ref (σ.length + 1))]) (q7:σ' = σ ++ .sdict (metKV ms) :: [.list (ws.map V.str)]):J08k rs B r g σ n ρ' σ'
theorem fn_comes_back (TO:TopOk (T08 w s)) {rs:List (Str × Pt)} {B:Str → Bool} (hg:GoodRules rs) {g e:Nat} {gs:List (Str × V)} {kl:List (Str × V)} (h1:σ[g]? = some (.inst "Grammar" gs)) (h2:gs.lookup (Str.ofString "leads") = some (.ref e)) (h3:σ[e]? = some (.sdict kl)) {lo:Nat} (hL:LeadsAt rs B kl lo σ)
   {r:Str × Pt} (hr:r ∈ rs) (q:∀ c junk,(c = true ↔ Rch rs B r.1 r.1) → Q (.bool c) (σ ++ junk)):CallOk (T08 w s) (d + 1) X (.mth "Grammar" "comes_back") [.ref g,.str r.1] Q σ:=by
 obtain ⟨C,hC⟩:=gr_cls (w:=w) (s:=s)
 refine CallOk.goM TO rfl rfl ?_
 obtain ⟨j,zz,hj1,hj2⟩:=hL r hr
 have hm:=hg.most
 have hsz:∀ r ∈ rs,(r.2.ahd B).length < 100000:=fun r hr => Zk (Pt.ahd_size ..) (hg.all r hr).size
 refine AttrOk.of (get_up h1) h2 rfl hC.cls hC.leads <| Itm.dict (get_up h3) hj1 <| Cal.list (vs:=(r.2.ahd B).map V.str) (seq_list (get_up hj2)) (by simp only [Zc]; have:=hsz r hr; exact szo (by (clear q hsz hm h1 h3 hj2; exact Zq (Nat.lt_trans this (Ztb (Nat.succ 100000) 16677215))))) <| Stx.mk <|
   StOk.while (J08k rs B r g σ) (rs.length * 100001 + (r.2.ahd B).length) ⟨[],r.2.ahd B,by simp,⟨by simp,by simp,fun y hy => .one ⟨r,hr,rfl,hy⟩,fun y hy => .inr (Lead.uniq hg.nodup hr hy),by simp⟩,by have:=hsz r hr; simp; (clear q hsz hm h1 h3 hj2; exact Zq this),⟨rfl,rfl,rfl,by simp [upd],trivial⟩,by simp [metKV]⟩ ?_
 rintro n ρ' σ' ⟨ms,ws,hn,hS,hwl,hρ,hσ⟩
 subst hn hσ
 obtain ⟨ρ₀,rfl⟩:=hρ.use
 have hms:ms.length ≤ rs.length:=by
   have:=len_sub (ns:=rs.map (·.1)) hS.nodup fun x hx => by
     obtain ⟨r',a,b⟩:=hg.lead (hS.mr x hx)
     exact Zsb.mpr ⟨r',a,b⟩
   simpa using this
 refine vT_ok TO rfl 40 10 _ _ _ <| tvc.of (b:=!(ws.map V.str).isEmpty) ?_ ?_
 · exact truth_list get1 (by rw [Zc]; exact Zk (cb_few hwl hms hm) (by decide))
 rcases List.eq_nil_or_concat ws with rfl | ⟨init,y,rfl⟩
 · refine ite_no (by simp) ?_
   refine Cmp.met (neg:=false) (ns:=ms) get0 (q _ _ ?_)
   rw [Bool.false_bne]; exact hS.end
 refine ite_yes (by simp) ?_
 rw [List.concat_eq_append] at hS hwl ⊢
 obtain ⟨r',hr',hy⟩:=hg.lead (hS.wr y (by simp))
 subst hy
 simp only [Zf,List.length_cons,List.length_nil] at hwl
 refine vB_ok TO rfl 60 _ _ _ _ <| MethOk.pop get1 <| Cal.mk <| CallOk.pop (v:=.str r'.1) (vs:=init.map V.str) (by rw [get1]; simp) (by simp only [Zc]; exact szo (Za (cb_few hwl hms hm) (by decide))) ?_
 rw [set1]
 refine Cmp.met (neg:=true) (ns:=ms) get0 <| Br.mk (fun hin => ?_) fun hin => ?_
 · have hin:r'.1 ∉ ms:=by simpa using hin
   obtain ⟨j',zz,hj1',hj2'⟩:=hL r' hr'
   have:=hsz r' hr'
   have hms':ms.length + 1 ≤ rs.length:=by
     have:=len_sub (ms:=ms ++ [r'.1]) (ns:=rs.map (·.1)) (by rw [List.nodup_append]; exact ⟨hS.nodup,by simp,fun a ha b hb => by cases Zj.mp hb; exact fun e => hin (e ▸ ha)⟩) fun x hx => by
       rcases Zm.mp hx with g | g
       · obtain ⟨r',a,b⟩:=hg.lead (hS.mr x g)
         exact Zsb.mpr ⟨r',a,b⟩
       · cases Zj.mp g; exact Zsb.mpr ⟨r',hr',rfl⟩
     simpa using this
   refine SetItemOk.of get0 (by simp only [metKV,Zc]; (clear q hsz hj2 h1 h3; exact Za (Za (by assumption) (by assumption)) (by decide))) ?_
   rw [set0,metKV_set hin]
   refine MethOk.extend get1 <| AttrOk.of (get_up h1) h2 rfl hC.cls hC.leads <| Itm.dict (get_up h3) hj1' <| Cal.mk <| CallOk.extend (vs:=init.map V.str) (us:=(r'.2.ahd B).map V.str) get1 (get_up hj2') (by simp only [Zc]; exact szo (Za (Zcb (cb_few (Nat.le_of_succ_le hwl) hms hm) (Zq this)) (by decide))) ?_
   rw [set1]
   refine ⟨_,?_,ms ++ [r'.1],init ++ r'.2.ahd B,rfl,hS.new hg.nodup hr' hin,?_,⟨rfl,rfl,rfl,rfl,trivial⟩,by rw [List.map_append]⟩
   · simp only [Zf,List.length_cons,List.length_nil]
     exact cb_less hms' this
   · simp only [Zf,List.length_cons,List.length_nil]; exact cb_next hwl this
 · have hin:r'.1 ∈ ms:=by simpa using hin
   refine ⟨_,?_,ms,init,rfl,hS.old hin,by (clear q hms hsz h1 h3 hj2 hm; exact Zq hwl),⟨rfl,rfl,rfl,rfl,trivial⟩,rfl⟩
   simp only [Zf,List.length_cons,List.length_nil]; (clear q hsz hj2 h1 h3; exact Zl ((rs.length - ms.length) * 100001 + init.length).succ)
end
section
variable {w:World} {s:Shared} {d:Nat} {X:QX} {Q:QE} {σ:Hp}
theorem Mk.has {σ σ':Hp} {l:Nat} {fs:List (Str × V)} {ρ':Loc} (h:Mk σ l fs ρ' σ'):Has ρ' [("self",.ref σ.length),("rules",.ref l)]:=⟨h.self,h.ru,trivial⟩
theorem Mk.loc {σ σ':Hp} {l:Nat} {fs:List (Str × V)} {ρ' ρ₂:Loc} (h:Mk σ l fs ρ' σ') (hρ:Has ρ₂ [("self",.ref σ.length),("rules",.ref l)]):Mk σ l fs ρ₂ σ':=⟨hρ.1,hρ.2.1,h.pre,h.obj⟩
inductive Gm (rs:List (Str × Pt)) (σ:Hp) (l a b c:Nat) (bs:List Str) (ρ':Loc) (σ':Hp):Prop where
 | mk (q1:Mk σ l [("pairs",.ref a),("table",.ref b),("bare",.ref c)] ρ' σ') (q2:σ'[a]? = some (.list (rs.map ruleV))) (q3:σ'[b]? = some (.sdict (tabKV rs))) (q4:σ'[c]? = some (.sdict (metKV bs))):Gm rs σ l a b c bs ρ' σ'
theorem Gm.up {rs:List (Str × Pt)} {σ σ':Hp} {l a b c:Nat} {bs:List Str} {ρ':Loc} {jk:Hp} (h:Gm rs σ l a b c bs ρ' σ'):Gm rs σ l a b c bs ρ' (σ' ++ jk):=by
 obtain ⟨h1,h2,h3,h4⟩:=h
 exact ⟨h1.up,get_up h2,get_up h3,get_up h4⟩
theorem Gm.loc {rs:List (Str × Pt)} {σ σ':Hp} {l a b c:Nat} {bs:List Str} {ρ' ρ₂:Loc} (h:Gm rs σ l a b c bs ρ' σ') (hρ:Has ρ₂ [("self",.ref σ.length),("rules",.ref l)]):Gm rs σ l a b c bs ρ₂ σ':=by
 obtain ⟨h1,h2,h3,h4⟩:=h
 exact ⟨h1.loc hρ,h2,h3,h4⟩
theorem Gm.put {rs:List (Str × Pt)} {σ σ':Hp} {l a b c:Nat} {bs bs':List Str} {ρ':Loc} (h:Gm rs σ l a b c bs ρ' σ') (ha:σ.length < a) (hb:a < b) (hc:b < c):Gm rs σ l a b c bs' ρ' (σ'.set c (.sdict (metKV bs'))):=by
 obtain ⟨h1,h2,h3,h4⟩:=h
 exact ⟨h1.put (by clear h2 h3 h4; lia),by rw [get_set_ne (by clear h2 h3 h4; exact Nat.ne_of_gt (Nat.lt_trans hb hc))]; exact h2,by rw [get_set_ne (by clear h2 h3 h4; exact Nat.ne_of_gt hc)]; exact h3,get_set h4⟩
inductive J08l4 (σ:Hp) (l a b:Nat) (rs:List (Str × Pt)) (i:Nat) (ρ':Loc) (σ':Hp):Prop where
 | mk (q0:Mk σ l [("pairs",.ref a),("table",.ref b)] ρ' σ') (q1:σ'[a]? = some (.list (rs.map ruleV))) (q2:σ'[b]? = some (.sdict (tabKV (rs.take i)))):J08l4 σ l a b rs i ρ' σ'
inductive J08l7 (rs:List (Str × Pt)) (σ:Hp) (l a b c:Nat) (n:Nat) (ρ':Loc) (σ':Hp):Prop where
 | mk (bs:List Str) (gr:Bool) (q0:n = 2 * (rs.length - bs.length) + (if gr then 1 else 0)) (q1:ρ' "growing" = some (.bool gr)) (q2:Grow rs bs) (q3:gr = false → ∀ r ∈ rs,r.2.may (inB bs) = true → r.1 ∈ bs) (q4:Gm rs σ l a b c bs ρ' σ'):J08l7 rs σ l a b c n ρ' σ'
inductive J08l8 (rs:List (Str × Pt)) (bs:List Str) (σ:Hp) (l a b c:Nat) (i:Nat) (ρ₂:Loc) (σ₂:Hp):Prop where
 | mk (bs':List Str) (gr':Bool) (q0:ρ₂ "growing" = some (.bool gr')) (q1:Grow rs bs') (q2:gr' = true → bs.length < bs'.length) (q3:gr' = false → bs' = bs ∧ ∀ r ∈ rs.take i,r.2.may (inB bs) = true → r.1 ∈ bs) (q4:Gm rs σ l a b c bs' ρ₂ σ₂):J08l8 rs bs σ l a b c i ρ₂ σ₂
inductive J08l11 (σ:Hp) (l a b c e:Nat) (rs:List (Str × Pt)) (bs:List Str) (i:Nat) (ρ':Loc) (σ':Hp):Prop where
 | mk (q0:Mk σ l [("pairs",.ref a),("table",.ref b),("bare",.ref c),("leads",.ref e)] ρ' σ') (q1:σ'[a]? = some (.list (rs.map ruleV))) (q2:σ'[b]? = some (.sdict (tabKV rs))) (q3:σ'[c]? = some (.sdict (metKV bs))) (kl:List (Str × V)) (q4:σ'[e]? = some (.sdict kl)) (q5:kl.length ≤ i) (q6:LeadsAt (rs.take i) (inB bs) kl σ.length σ'):J08l11 σ l a b c e rs bs i ρ' σ'
inductive J08l12 (σ σ₈:Hp) (rs:List (Str × Pt)) (bs:List Str) (i:Nat) (ρ':Loc) (σ':Hp):Prop where
 | mk (q0:Has ρ' [("self",.ref σ.length)]) (jk:Hp) (q1:σ' = σ₈ ++ jk) (q2:∀ r ∈ rs.take i,¬ Rch rs (inB bs) r.1 r.1):J08l12 σ σ₈ rs bs i ρ' σ'
theorem fn_init (TO:TopOk (T08 w s)) {rs:List (Str × Pt)} {l:Nat} (hl:σ[l]? = some (.list (rs.map ruleV))) (hg:GoodRules rs) (q:∀ bs junk,Bare rs bs → (∀ r ∈ rs,¬ Rch rs (inB bs) r.1 r.1) → GrAt rs bs σ.length (σ ++ junk) → Q (.ref σ.length) (σ ++ junk)) (qx:∀ bs (junk:Hp),Bare rs bs → (∃ r ∈ rs,Rch rs (inB bs) r.1 r.1) → False):CallOk (T08 w s) (d + 18) X (.glob "Grammar") [.ref l] Q σ:=by
 obtain ⟨C,hC⟩:=gr_cls (w:=w) (s:=s)
 have hm:=hg.most
 refine CallOk.make TO rfl rfl rfl rfl <| CodeOk.goM TO rfl rfl ?_
 refine Cal.mk <| fn_need_rules TO (get_up hl) hg fun junk => ?_
 have h1:Mk σ l [] (bindLoc (fun zz => none) ["self", "rules"] [.ref σ.length,.ref l]) (σ ++ [.inst "Grammar" []] ++ junk):=⟨rfl,rfl,⟨[.inst "Grammar" []] ++ junk,by rw [Ze]⟩,get_up get_new⟩
 generalize (σ ++ [.inst "Grammar" []] ++ junk) = σ₁ at h1
 refine Cal.list (vs:=rs.map ruleV) (seq_list (h1.rules hl)) (by simp only [Zc]; exact szo (by (clear hl; exact Zq (Zk hm (Ztb (Nat.succ 40) 16777175))))) <| SetAttrOk.of [("pairs",.ref σ₁.length)] (get_up h1.4) hC.cls hC.pairs (by decide) rfl ?_
 refine and4 (h1.field (o:=.list (rs.map ruleV)) (fs':=[("pairs",.ref σ₁.length)])) fun h2 h2a ha zz => ?_
 generalize σ₁.length = a at h2 h2a ha
 generalize (σ₁ ++ [MObj.list (rs.map ruleV)]).set σ.length (.inst "Grammar" [("pairs",.ref a)]) = σ₂ at h2 h2a
 clear h1
 refine SetAttrOk.of [("pairs",.ref a),("table",.ref σ₂.length)] (get_up h2.4) hC.cls hC.table (by simp) rfl ?_
 refine and4 (h2.field (o:=.sdict []) (fs':=[("pairs",.ref a),("table",.ref σ₂.length)])) fun h3 h3b zz f4 => ?_
 have h3a:=f4 a _ (by (clear h2a h3b f4 hl; exact Nat.ne_of_gt ha)) h2a
 have hb:=get_lt h2a
 clear h2a f4
 generalize σ₂.length = b at h3 h3a h3b hb
 generalize (σ₂ ++ [MObj.sdict []]).set σ.length (.inst "Grammar" [("pairs",.ref a),("table",.ref b)]) = σ₃ at h3 h3a h3b
 clear h2
 refine ForOk.mk (rs.map ruleV) (J08l4 σ l a b rs) ⟨h3,h3a,by simpa [tabKV] using h3b⟩ (fun i ρ' σ' hJ => ?_) (fun ρ' σ' hJ => ?_) fun i x ρ' σ' hJ hx => ?_
 · obtain ⟨j1,zz,zz⟩:=hJ
   exact iter_list (j1.rules hl)
 rotate_left
 · obtain ⟨j1,j2,j3⟩:=hJ
   obtain ⟨r,hr,rfl⟩:=map_at hx
   rw [← Has.eq j1.has]
   refine ⟨_,rfl,vB_ok TO rfl 60 _ _ _ _ <| AttrOk.of j1.4 rfl rfl hC.cls hC.table <| SetItemOk.of j3 (by simp only [tabKV,Zc,List.length_take]; (clear h3a h3b j2 j3 hr hl; lia)) ?_⟩
   refine ⟨(j1.put (by (clear h3a h3b j2 j3 hr hl; exact Zq (Zk ha hb)))).loc ⟨rfl,rfl,trivial⟩,?_,?_⟩
   · rw [get_set_ne (by (clear h3a h3b j2 j3 hr hl; exact Nat.ne_of_gt hb))]; exact j2
   · rw [get_set j3,tabKV_set (nodup_take hg.nodup hr),take_next hr]
 clear h3 h3a h3b
 obtain ⟨h4,h4a,h4b⟩:=hJ
 rw [Zc,List.take_length] at h4b
 rw [← Has.eq h4.has]
 generalize σ' = σ₄ at h4 h4a h4b
 refine SetAttrOk.of [("pairs",.ref a),("table",.ref b),("bare",.ref σ₄.length)] (get_up h4.4) hC.cls hC.bare (by simp) rfl ?_
 refine and4 (h4.field (o:=.sdict []) (fs':=[("pairs",.ref a),("table",.ref b),("bare",.ref σ₄.length)])) fun h5 h5c zz f4 => ?_
 have h5:Gm rs σ l a b σ₄.length [] _ _:=⟨h5,f4 a _ (by (clear h4a h4b h5c f4 hl; exact Nat.ne_of_gt ha)) h4a,f4 b _ (by (clear h4a h4b h5c f4 hl; exact Nat.ne_of_gt (Nat.lt_trans ha hb))) h4b,h5c⟩
 have hc:=get_lt h4b
 clear h5c h4a h4b f4
 generalize (σ₄ ++ [MObj.sdict []]).set σ.length (.inst "Grammar" [("pairs",.ref a),("table",.ref b),("bare",.ref σ₄.length)]) = σ₅ at h5
 generalize σ₄.length = c at h5 hc
 clear h4
 refine Stx.mk <| StOk.while (J08l7 rs σ l a b c) (2 * rs.length + 1) ⟨[],true,by simp,rfl,.nil rs,by simp,h5.loc ⟨rfl,rfl,trivial⟩⟩ ?_
 clear h5
 rintro n ρ' σ' ⟨bs,gr,hn,k1,k2,k3,k4⟩
 subst hn
 obtain ⟨ρ₀,rfl⟩:=(show Has ρ' [("growing",.bool gr),("self",.ref σ.length),("rules",.ref l)] from ⟨k1,k4.1.1,k4.1.2,trivial⟩).use
 refine vT_ok TO rfl 40 10 _ _ _ ?_
 cases gr
 rotate_left
 · show ExOk _ _ _ _ _ _ _ _
   have hbl:=k2.len
   refine vB_ok TO rfl 60 _ _ _ _ <| ForOk.mk (rs.map ruleV) (J08l8 rs bs σ l a b c) ⟨bs,false,rfl,k2,by simp,fun zz => ⟨rfl,by simp⟩,k4.loc ⟨rfl,rfl,trivial⟩⟩ (fun i ρ₂ σ₂ hJ => ?_) (fun ρ₂ σ₂ hJ => ?_) fun i x ρ₂ σ₂ hJ hx => ?_
   · obtain ⟨zz,zz,zz,zz,zz,zz,j1⟩:=hJ
     exact iter_list (j1.1.rules hl)
   · obtain ⟨bs',gr',j1,j2,j3,j4,j5⟩:=hJ
     have hbl':=j2.len
     refine ⟨_,?_,bs',gr',rfl,j1,j2,fun hf => ?_,j5⟩
     · cases gr'
       · rw [(j4 rfl).1]; simp
       · have:=j3 rfl; simp; (clear hl j3 hbl; lia)
     · obtain ⟨e1,e2⟩:=j4 hf
       rw [Zc,List.take_length] at e2
       rw [e1]; exact e2
   · obtain ⟨bs',gr',j1,j2,j3,j4,j5⟩:=hJ
     obtain ⟨r,hr,rfl⟩:=map_at hx
     have hrm:=Zn hr
     have hG:=hg.all r hrm
     rw [← Has.eq (show Has ρ₂ [("growing",.bool gr'),("self",.ref σ.length),("rules",.ref l)] from ⟨j1,j5.1.1,j5.1.2,trivial⟩)]
     have keep:∀ {ρ₃:Loc} {jk:Hp},Has ρ₃ [("growing",.bool gr'),("self",.ref σ.length),("rules",.ref l)] → (r.2.may (inB bs') = true → r.1 ∈ bs') → J08l8 rs bs σ l a b c (i + 1) ρ₃ (σ₂ ++ jk):=fun {ρ₃ jk} hρ hk => ⟨bs',gr',hρ.1,j2,j3,fun hf => ⟨(j4 hf).1,fun r' hr' hm' => by
       rw [take_next hr] at hr'
       rcases Zm.mp hr' with g | g
       · exact (j4 hf).2 r' g hm'
       · cases Zj.mp g
         rw [← (j4 hf).1] at hm' ⊢; exact hk hm'⟩,j5.up.loc hρ.2⟩
     refine ⟨_,rfl,vB_ok TO rfl 60 _ _ _ _ <| AttrOk.of j5.1.4 rfl rfl hC.cls hC.bare <| Cmp.met (neg:=true) (ns:=bs') j5.4 <| Br.mk (fun hin => AttrOk.of j5.1.4 rfl rfl hC.cls hC.bare <| Cal.mk <| fn_may (d:=d + 3) TO 12 r.2 hG.deep hG.few j5.4 fun jk => ?_) fun hin => ?_⟩
     · rw [hasK_met]
       refine Br.mk (fun hmay => ?_) fun hmay => ?_
       · have hin:r.1 ∉ bs':=by simpa using hin
         refine AttrOk.of (get_up j5.1.4) rfl rfl hC.cls hC.bare <| SetItemOk.of (get_up j5.4) (by have:=j2.len; simp only [metKV,Zc]; (clear hl j3 hbl j4 keep; exact Za (Za (by assumption) (by assumption)) (by decide))) ?_
         rw [metKV_set hin]
         refine ⟨bs' ++ [r.1],true,rfl,j2.add hrm hin hmay,fun zz => ?_,by simp,(j5.up.put ha hb hc).loc ⟨rfl,rfl,trivial⟩⟩
         cases gr'
         · rw [(j4 rfl).1]; simp
         · have:=j3 rfl; simp; (clear hl j3 hbl j4 keep; exact Nat.lt_succ_of_lt this)
       · exact keep ⟨rfl,rfl,rfl,trivial⟩ fun h => absurd (h.symm.trans hmay) (by decide)
     · have hin:r.1 ∈ bs':=by simpa using hin
       have:=keep (jk:=[]) (ρ₃:=upd (locs ρ₂ [("growing",.bool gr'),("self",.ref σ.length),("rules",.ref l)]) "pair" (some (ruleV r))) ⟨rfl,rfl,rfl,trivial⟩ fun zz => hin
       rw [List.append_nil] at this
       exact this
 show gw _ _ _ _ _ _ _
 have hbare:=k2.bare (k3 rfl)
 have k2l:=k2.len
 clear k3 k2 k1
 obtain ⟨h6,h6a,h6b,h6c⟩:=k4
 generalize σ' = σ₆ at h6 h6a h6b h6c
 refine SetAttrOk.of [("pairs",.ref a),("table",.ref b),("bare",.ref c),("leads",.ref σ₆.length)] (get_up h6.4) hC.cls hC.leads (by simp) rfl ?_
 refine and4 (h6.field (o:=.sdict []) (fs':=[("pairs",.ref a),("table",.ref b),("bare",.ref c),("leads",.ref σ₆.length)])) fun h7 h7e zz f4 => ?_
 have he:=get_lt h6c
 have h7:J08l11 σ l a b c σ₆.length rs bs 0 _ _:=⟨h7,f4 a _ (by (clear h6a h6b h6c h7e f4 hl; exact Nat.ne_of_gt ha)) h6a,f4 b _ (by (clear h6a h6b h6c h7e f4 hl; exact Nat.ne_of_gt (Nat.lt_trans ha hb))) h6b,f4 c _ (by (clear h6a h6b h6c h7e f4 hl; lia)) h6c,[],h7e,Zkb _,fun r hr => by simp at hr⟩
 clear h7e h6a h6b h6c f4
 generalize (σ₆ ++ [MObj.sdict []]).set σ.length (.inst "Grammar" [("pairs",.ref a),("table",.ref b),("bare",.ref c),("leads",.ref σ₆.length)]) = σ₇ at h7
 generalize σ₆.length = e at h7 he
 clear h6
 refine ForOk.mk (rs.map ruleV) (J08l11 σ l a b c e rs bs) h7 (fun i ρ' σ' hJ => ?_) (fun ρ' σ' hJ => ?_) fun i x ρ' σ' hJ hx => ?_
 · obtain ⟨j1,zz⟩:=hJ
   exact iter_list (j1.rules hl)
 rotate_left
 · clear h7
   obtain ⟨j1,j2,j3,j4,kl,j5,j7,j6⟩:=hJ
   obtain ⟨r,hr,rfl⟩:=map_at hx
   have hG:=hg.all r (Zn hr)
   have hi:i < rs.length:=(Zb.mp hr).1
   rw [← Has.eq j1.has]
   refine ⟨_,rfl,vB_ok TO rfl 60 _ _ _ _ <| AttrOk.of j1.4 rfl rfl hC.cls hC.bare <| Cal.mk <| fn_ahead (d:=d + 3) TO 12 r.2 hG.deep hG.size hG.few j4 fun j jk hj hjl => AttrOk.of (get_up j1.4) rfl rfl hC.cls hC.leads <| SetItemOk.of (get_up j5) (by (clear hj hjl hr j5 j3 j4 j2 hl; lia)) ?_⟩
   rw [hasK_met] at hjl
   have hek:∀ (x:Nat) (vs:List V) (o:MObj),(σ' ++ jk)[x]? = some (.list vs) → ((σ' ++ jk).set e o)[x]? = some (.list vs):=fun x vs o hx => by
     rw [get_set_ne (fun h => ?_)]
     · exact hx
     · subst h; rw [get_up j5] at hx; cases hx
   refine ⟨(j1.up.put (by (clear j2 j3 j4 j5 hr hj hjl hek hl; lia))).loc ⟨rfl,rfl,trivial⟩,hek _ _ _ (get_up j2),?_,?_,_,get_set (get_up j5),?_,?_⟩
   · rw [get_set_ne (by (clear j2 j3 j4 j5 hr hj hjl hek hl; exact Nat.ne_of_gt (Nat.lt_trans hc he)))]; exact get_up j3
   · rw [get_set_ne (by (clear j2 j3 j4 j5 hr hj hjl hek hl; exact Nat.ne_of_gt he))]; exact get_up j4
   · rw [setKV_length]; split <;> (clear j2 j3 j4 j5 hr hj hjl hek hl; lia)
   · rw [take_next hr]
     exact (j6.up (junk:=jk)).snoc (nodup_take hg.nodup hr) (fun x vs hx => hek x vs _ hx) (by have:=get_lt j1.4; (clear j2 j3 j4 j5 hr hjl hek hl; lia)) (hek _ _ _ hjl)
 clear h7
 obtain ⟨h8,h8a,h8b,h8c,kl,h8e,zz,h8L⟩:=hJ
 rw [Zc,List.take_length] at h8L
 rw [← Has.eq h8.has]
 generalize σ' = σ₈ at h8 h8a h8b h8c h8e h8L
 obtain ⟨junk,hj⟩:=h8.3
 refine ForOk.mk (rs.map ruleV) (J08l12 σ σ₈ rs bs) ⟨⟨rfl,trivial⟩,[],by simp,by simp⟩ (fun i ρ' σ' hJ => ?_) (fun ρ' σ' hJ => ?_) fun i x ρ' σ' hJ hx => ?_
 · obtain ⟨zz,jk,rfl,zz⟩:=hJ
   exact iter_list (get_up (h8.rules hl))
 · obtain ⟨zz,jk,rfl,hnone⟩:=hJ
   rw [Zc,List.take_length] at hnone
   have hG:GrAt rs bs σ.length (σ₈ ++ jk):=GrAt.up ⟨a,b,c,e,kl,ha,hb,hc,he,h8.4,h8a,h8b,h8c,h8e,h8L⟩
   rw [hj,Ze] at hG ⊢
   exact ⟨rfl,q bs _ hbare hnone hG⟩
 · obtain ⟨hρ,jk,rfl,hnone⟩:=hJ
   obtain ⟨r,hr,rfl⟩:=map_at hx
   have hrm:=Zn hr
   rw [← Has.eq hρ]
   refine ⟨_,rfl,vB_ok TO rfl 60 _ _ _ _ <| MethOk.own (get_up h8.4) rfl hC.cls hC.comes_back <| Cal.mk <| fn_comes_back (d:=d + 15) TO hg (get_up h8.4) rfl (get_up h8e) h8L.up hrm fun cb jk2 hcb => ?_⟩
   cases cb
   · refine ⟨⟨rfl,trivial⟩,jk ++ jk2,by rw [Ze],fun r' hr' => ?_⟩
     rw [take_next hr] at hr'
     rcases Zm.mp hr' with g | g
     · exact hnone r' g
     · cases Zj.mp g
       exact fun z => absurd (hcb.mpr z) (by decide)
   · refine False.elim ?_
     exact qx bs [] hbare ⟨r,hrm,hcb.mp rfl⟩
end
section
variable {w:World} {s:Shared} {d:Nat} {X:QX} {Q:QE} {σ:Hp} {rs:List (Str × Pt)} {bs:List Str} {g:Nat}
end
section
variable {w:World} {s:Shared} {d:Nat} {X:QX} {Q:QE} {σ:Hp}
theorem fmod_range {a b:Int} (hb:0 < b):0 ≤ a.fmod b ∧ a.fmod b < b:=⟨Int.fmod_nonneg_of_pos a hb,Int.fmod_lt_of_pos a hb⟩
set_option tactic.hygienic true in
theorem idx_at {S:Str} {n:Nat} {P:Nat → Nat → Bool} (h:(List.range n).all (fun j => match S.cps[j]? with | some c => P j c | none => false) = true) (hl:S.length = n) {k:Int} (h0:0 ≤ k) (h1:k < n):∃ c,P k.toNat c = true ∧ (seqIndex? k S.length).bind (S.cps[·]?) = some c:=by
 have hj:=List.all_eq_true.mp h k.toNat (by rw [List.mem_range]; (clear h hl; lia))
 have e:seqIndex? k S.length = some k.toNat:=by
   have hk:¬ k < 0:=by (clear h1 hj h hl; lia)
   unfold seqIndex?
   simp only [hk,if_false]
   rw [if_pos (by simp only [Zob,decide_eq_true_eq]; (clear hj hk h; lia))]
 rw [e]
 split at hj
 · rename_i c hc
   exact ⟨c,hj,hc⟩
 · cases hj
theorem item_letter {k:Int} {Q:QE} {σ:Hp} (h0:0 ≤ k) (h1:k < 26) (q:Q (.str (S [97 + k.toNat])) σ):Itm (.str (Str.ofString "abcdefghijklmnopqrstuvwxyz")) (.int k) Q σ:=by
 obtain ⟨c,hc,e⟩:=idx_at (S:=Str.ofString "abcdefghijklmnopqrstuvwxyz") (n:=26) (P:=fun j c => decide (c = 97 + j)) (by decide +kernel) (by decide +kernel) h0 h1
 rw [decide_eq_true_iff] at hc
 subst hc
 exact ⟨_,.str _ _ _ e ⟨by (clear q e h1; lia),by (clear q e h0; lia)⟩,q⟩
theorem item_signC {S₀:Str} {n:Nat} {k:Int} {Q:QE} {σ:Hp} (h0:0 ≤ k) (h1:k < n) (hn:n < 1000) (q:∀ c,isSignC c = true → Q (.str (S [c])) σ) (h:(List.range n).all (fun j => match S₀.cps[j]? with | some c => isSignC c | none => false) = true) (hl:S₀.length = n):Itm (.str S₀) (.int k) Q σ:=by
 obtain ⟨c,hc,e⟩:=idx_at (P:=fun zz c => isSignC c) h hl h0 h1
 exact ⟨_,.str _ _ c e ⟨by (clear q h hl e h1 hn; lia),by (clear q h hl e h0; lia)⟩,q c hc⟩
theorem item_at {l:Nat} {vs:List V} {j:Nat} {v:V} {k:Int} {Q:QE} {σ:Hp} (hl:σ[l]? = some (.list vs)) (hk:k = j) (hj:vs[j]? = some v) (hb:vs.length < 2 ^ 62) (q:Q v σ):itemVC (.ref l) (.int k) Q σ:=by
 obtain ⟨h1,zz⟩:=Zb.mp hj
 subst hk
 refine ⟨v,.list _ vs _ j v hl ?_ hj ⟨by (clear hb hl hj; exact Int.NonNeg.mk (j + Nat.succ 9223372036854775807)),by (clear hl hj; lia)⟩,q⟩
 unfold seqIndex?
 simp only [show ¬ ((j:Int) < 0) by (clear hb hl hj; lia),if_false]
 rw [if_pos (by simp only [Zob,decide_eq_true_eq]; (clear hb hl hj; lia))]
 simp
theorem rng_at {n i:Nat} {y:V} (h:((List.range n).map fun (k:Nat) => V.int k)[i]? = some y):i < n ∧ y = .int i:=by
 rw [Zdb,Zpb] at h
 obtain ⟨j,hj,rfl⟩:=h
 obtain ⟨h1,h2⟩:=Zb.mp hj
 rw [List.getElem_range] at h2
 subst h2
 exact ⟨by simpa using h1,rfl⟩
theorem rng_iter {n:Int} {σ:Hp} (h0:0 ≤ n) (h:n < 2 ^ 62):iterV σ (.rng n) = some ((List.range n.toNat).map fun (k:Nat) => V.int k):=by
 exact if_pos ⟨by (clear h; lia),h⟩
theorem getD_lt {xs:List Int} {k:Int} (h0:0 ≤ k) (h:k < xs.length):xs[k.toNat]? = some (xs.getD k.toNat 0):=by
 have:k.toNat < xs.length:=by lia
 simp [List.getD_eq_getElem?_getD,this]
theorem getD_ge {xs:List Int} {k:Int} (h:¬ k < xs.length):xs.getD k.toNat 0 = 0:=by
 rw [List.getD_eq_getElem?_getD,Zrb (by lia)]; rfl
theorem fn_cell_at (TO:TopOk (T08 w s)) {xs:List Int} {k:Int} (h0:0 ≤ k) (hk:k < 2 ^ 62) (hx:xs.length < 2 ^ 62) (q:Q (.int (xs.getD k.toNat 0)) σ):CallOk (T08 w s) (d + 1) X (.glob "_law_cell_at") [.scr xs,.int k] Q σ:=by
 refine CallOk.go TO rfl rfl ?_
 refine Cal.len rfl hx (Br.mk (fun h => Itm.mk ⟨_,.scr _ _ _ h0 (Int.lt_trans hk (by decide)) (getD_lt h0 (Zgb h)),q⟩) fun h => ?_)
 rw [getD_ge (of_decide_eq_false h)] at q
 exact q
theorem fn_sign_by (TO:TopOk (T08 w s)) {k:Int} (q:∀ c,isSignC c = true → Q (.str (S [c])) σ):CallOk (T08 w s) (d + 1) X (.glob "_law_sign_by") [.int k] Q σ:=by
 refine CallOk.go TO rfl rfl ?_
 have r:=fmod_range (a:=k) (b:=96) (by decide)
 exact Bin.cat (by decide +kernel) (item_signC (n:=96) r.1 r.2 (by decide) q (by decide +kernel) (by decide +kernel))
end
section
variable {w:World} {s:Shared} {d:Nat} {X:QX} {Q:QE} {σ:Hp}
structure Sg (x y z:Nat):Prop where
 hx:isSignC x = true
 hy:isSignC y = true
 hz:isSignC z = true
 xy:x ≤ y
 yz:y ≤ z
theorem item_sg {l x y z:Nat} {k:Int} {Q:QE} {σ:Hp} (hs:Sg x y z) (hl:σ[l]? = some (.list [.str (S [x]),.str (S [y]),.str (S [z])])) (h0:0 ≤ k) (h1:k < 3) (q:∀ c,isSignC c = true → c ≤ z → Q (.str (S [c])) σ):Itm (.ref l) (.int k) Q σ:=by
 have e:k = 0 ∨ k = 1 ∨ k = 2:=by (clear q hl; lia)
 rcases e with rfl | rfl | rfl
 · exact .list hl rfl rfl ⟨by decide,by decide⟩ (q x hs.hx (Za hs.xy hs.yz))
 · exact .list hl rfl rfl ⟨by decide,by decide⟩ (q y hs.hy hs.yz)
 · exact .list hl rfl rfl ⟨by decide,by decide⟩ (q z hs.hz (Zl _))
theorem p_span {P:Str → Prop} {x y z c:Nat} (hs:Sg x y z) (hc:isSignC c = true) (hz:c ≤ z):Piece P 1 1 (.span c z):=⟨by simp [Pt.ok2,hc,hs.hz,hz],by simp [Pt.deep6],by simp [Pt.size6]⟩
theorem p_any {P:Str → Prop}:Piece P 1 1 .any:=⟨by simp [Pt.ok3],by simp [Pt.deep7],by simp [Pt.size7]⟩
theorem p_sign {P:Str → Prop} {c:Nat} (hc:isSignC c = true):Piece P 1 1 (.sign c):=⟨by simp [Pt.ok1,hc],by simp [Pt.deep5],by simp [Pt.size5]⟩
theorem p_rule {P:Str → Prop} {n:Str} (hc:P n):Piece P 1 1 (.rule n):=⟨by simp [Pt.ok4,hc],by simp [Pt.deep8],by simp [Pt.size8]⟩
theorem fn_leaf (TO:TopOk (T08 w s)) {sg nm x y z f:Nat} {ns:List Str} {cell:Int} (hs:Sg x y z) (hsg:σ[sg]? = some (.list [.str (S [x]),.str (S [y]),.str (S [z])])) (hnm:σ[nm]? = some (.list (ns.map V.str))) (hn:ns.length ≤ 1000)
   (q:∀ p,Piece (From ns f) 1 1 p → Q p.v σ):CallOk (T08 w s) (d + 1) X (.glob "_law_leaf") [.int cell,.ref sg,.ref nm,.int f] Q σ:=by
 refine CallOk.go TO rfl rfl ?_
 have r3:=fmod_range (a:=cell.fdiv 7) (b:=3) (by decide)
 have hl:lenV σ (.ref nm) = some ns.length:=len_at hnm (Zc _)
 have sign:Itm (.ref sg) (.int ((cell.fdiv 7).fmod 3)) (fun v σ' => Q (.tup [.str "sign",v]) σ') σ:=item_sg hs hsg r3.1 r3.2 fun c hc zz => q _ (p_sign hc)
 refine Br.mk (fun h2 => item_sg hs hsg r3.1 r3.2 fun c hc hcz => Itm.list hsg rfl rfl ⟨by decide,by decide⟩ (q _ (p_span hs hc hcz))) fun h2 => Br.mk (fun h3 => q _ p_any) fun h3 => Br.mk (fun h4 => Cal.len hl (by clear sign q hsg hnm hl r3; lia) (Br.mk (fun h5 => ?_) fun zz => sign)) fun zz => sign
 clear sign
 have h5:=Zgb h5
 have rn:=fmod_range (a:=cell.fdiv 7) (b:=(ns.length:Int) - f) (by clear hl h4 h3 r3 h2 hsg hnm hn q; lia)
 refine Cal.len hl (by clear q hsg hnm hl r3; lia) (gd.of (by simp; clear hl rn h4 r3 h2 h3 hsg hnm hn q; lia) ?_)
 obtain ⟨i,hi⟩:=Int.eq_ofNat_of_zero_le rn.1
 have hlt:f + i < ns.length:=by rw [hi] at rn; clear hl h5 h2 h3 h4 hsg hnm hn q r3; lia
 exact Itm.mk (item_at hnm (j:=f + i) (v:=.str ns[f + i]) (by rw [hi]; rfl) (by simp [hlt]) (by simp; clear hl h2 h3 h4 h5 rn hi hlt q r3 hnm hsg; lia) (q (.rule ns[f + i]) (p_rule ⟨f + i,Zy _ _,by simp [hlt]⟩)))
theorem lt_cons {P:Nat → Prop} {n:Nat} (h0:P 0) (h:∀ i,i < n → P (i + 1)):∀ i,i < n + 1 → P i:=fun i => i.rec (fun zz => h0) fun i zz g => h i (Nat.lt_of_succ_lt_succ g)
theorem q_nil {P:Hp → Prop} (q:∀ j,P (σ ++ j)):P σ:=List.append_nil σ ▸ q []
theorem fn_joined (TO:TopOk (T08 w s)) {deed:Int} {p a b:Pt} (h0:0 ≤ deed) (h1:deed < 14) (q:∀ junk,Q (joinedP p a b deed.toNat).v (σ ++ junk)):CallOk (T08 w s) (d + 1) X (.glob "_law_joined") [.int deed,p.v,a.v,b.v] Q σ:=by
 refine CallOk.go TO rfl rfl ?_
 obtain ⟨n,rfl⟩:=Int.eq_ofNat_of_zero_le h0
 have h2:n < 14:=Zfb.mp h1
 have q2:∀ junk,Q (joinedP p a b n).v (σ ++ junk):=q
 clear h0 h1 q
 revert q2
 revert n
 iterate 6 (refine lt_cons ?_ ?_; exact fun q => Itm.list get_new rfl rfl ⟨by decide,by decide⟩ (q _))
 iterate 8 (refine lt_cons ?_ ?_; exact fun q => q_nil (P:=fun s => Q _ s) q)
 exact fun i h => absurd h (Nat.not_lt_zero i)
end
section
variable {w:World} {s:Shared} {d:Nat} {X:QX} {Q:QE} {σ:Hp}
inductive J08o (ns:List Str) (f sg nm:Nat) (σ:Hp) (i:Nat) (ρ':Loc) (σ':Hp):Prop where
 | mk (p:Pt) (junk:Hp) (num:Int) (q0:Pile (From ns f) i p) (q1:Has ρ' [("_law_part",p.v),("_law_number",.int num),("_law_signs",.ref sg),("_law_names",.ref nm),("_law_first_here",.int f)]) (q6:σ' = σ ++ junk):J08o ns f sg nm σ i ρ' σ'
theorem fn_piled (TO:TopOk (T08 w s)) {sg nm x y z f:Nat} {ns:List Str} {cell:Int} (hs:Sg x y z) (hsg:σ[sg]? = some (.list [.str (S [x]),.str (S [y]),.str (S [z])])) (hnm:σ[nm]? = some (.list (ns.map V.str))) (hn:ns.length ≤ 1000)
   (q:∀ p junk,Pile (From ns f) 3 p → Q p.v (σ ++ junk)):CallOk (T08 w s) (d + 2) X (.glob "_law_piled") [.int cell,.ref sg,.ref nm,.int f] Q σ:=by
 refine CallOk.go TO rfl rfl ?_
 refine Bin.mulr rfl <| Cal.mk <| fn_leaf TO hs hsg hnm hn fun p hp => Cal.range ⟨_,J08o ns f sg nm σ,⟨p,[],_,.leaf hp,⟨rfl,rfl,rfl,rfl,rfl,trivial⟩,(List.append_nil σ).symm⟩,fun i ρ' σ' zz => rng_iter (by decide) (by decide),fun ρ' σ' hJ => ?_,fun i y ρ' σ' hJ hy => ?_⟩
 · obtain ⟨p,junk,num,k1,k2,rfl⟩:=hJ
   obtain ⟨r,rfl⟩:=k2.use
   exact q p junk k1
 · obtain ⟨p,junk,num,k1,k2,rfl⟩:=hJ
   obtain ⟨hi,rfl⟩:=rng_at hy
   obtain ⟨r,rfl⟩:=k2.use
   refine ⟨_,rfl,vB_ok TO rfl 60 _ _ _ _ ?_⟩
   exact Bin.mulr rfl <| Cal.mk <| fn_leaf TO hs (get_up hsg) (get_up hnm) hn fun a ha => Cal.mk <| fn_leaf TO hs (get_up hsg) (get_up hnm) hn fun b hb => Cal.mk <| fn_joined TO (fmod_range (by decide)).1 (fmod_range (by decide)).2 fun jk =>
     ⟨_,junk ++ jk,_,.join k1 ha hb _,⟨rfl,rfl,rfl,rfl,rfl,trivial⟩,Ze ..⟩
theorem later_at (k n:Nat):(k:Int) + 1 + (if (n:Int).fdiv 6 < 1 then (n:Int).fdiv 6 else 1) * (n:Int).fdiv 4 = (k + stp n:Nat):=by
 have e6:(n:Int).fdiv 6 = ((n / 6:Nat):Int):=fdivN n 6
 have e4:(n:Int).fdiv 4 = ((n / 4:Nat):Int):=fdivN n 4
 rw [e6,e4]
 unfold stp
 by_cases h:n / 6 < 1
 · rw [if_pos h,if_pos (show ((n / 6:Nat):Int) < 1 from Zfb.mpr h)]; exact congrArg Int.ofNat (Nat.add_assoc k 1 _)
 · rw [if_neg h,if_neg fun g:((n / 6:Nat):Int) < 1 => h (Zfb.mp g)]; exact congrArg Int.ofNat (Nat.add_assoc k 1 _)
theorem small_later (n:Nat) (hn:n ≤ 40):small64 (if (n:Int).fdiv 6 < 1 then (n:Int).fdiv 6 else 1):=by
 have e6:(n:Int).fdiv 6 = ((n / 6:Nat):Int):=fdivN n 6
 rw [e6]
 by_cases h:((n / 6:Nat):Int) < 1
 · rw [if_pos h]; exact ⟨Int.lt_of_lt_of_le (by decide) (Int.natCast_nonneg _),Int.lt_trans h (by decide)⟩
 · rw [if_neg h]; exact ⟨by decide,by decide⟩
noncomputable def sureP (x y z:Nat) (c k:Nat):Pt:=[.sign c,.span x z].getD k .any
theorem sureP_ok {x y z c:Nat} (hs:Sg x y z) (hc:isSignC c = true):∀ k,(sureP x y z c k).sure:=AllP.get (.cons (.sign hc) <| .cons (.span hs.hx hs.hz (Za hs.xy hs.yz)) .nil) .any
theorem nat_lt {a:Int} {n:Nat} (h:0 ≤ a ∧ a < n):∃ k:Nat,a = k ∧ k < n:=by
 obtain ⟨k,rfl⟩:=Int.eq_ofNat_of_zero_le h.1
 exact ⟨k,rfl,Zfb.mp h.2⟩
theorem lt3 {P:Nat → Prop} (h0:P 0) (h1:P 1) (h2:P 2) (i:Nat) (h:i < 3):P i:=by
 rcases i with zz | zz | zz | i
 · exact h0
 · exact h1
 · exact h2
 · exact absurd h (Zo.mpr (Ztb 3 i))
theorem lt4 {P:Nat → Prop} (h0:P 0) (h1:P 1) (h2:P 2) (h3:P 3) (i:Nat) (h:i < 4):P i:=by
 rcases i with zz | i
 · exact h0
 · exact lt3 (P:=fun i => P (i + 1)) h1 h2 h3 i (Nat.lt_of_succ_lt_succ h)
theorem fn_part_by (TO:TopOk (T08 w s)) {sg nm x y z k:Nat} {ns:List Str} {cell:Int} (hs:Sg x y z) (hsg:σ[sg]? = some (.list [.str (S [x]),.str (S [y]),.str (S [z])])) (hnm:σ[nm]? = some (.list (ns.map V.str))) (hn:ns.length ≤ 40)
   (q:∀ p junk,Drawn ns k p → Q p.v (σ ++ junk)):CallOk (T08 w s) (d + 3) X (.glob "_law_part_by") [.int cell,.int k,.ref sg,.ref nm] Q σ:=by
 refine CallOk.go TO rfl rfl ?_
 have r3:=fmod_range (a:=cell) (b:=3) (by decide)
 obtain ⟨i3,e3,h3⟩:=nat_lt (n:=3) (fmod_range (a:=cell.fdiv 3) (b:=3) (by decide))
 obtain ⟨i4,e4,h4⟩:=nat_lt (n:=4) (fmod_range (a:=(cell * 16807).fmod 10007) (b:=4) (by decide))
 refine item_sg hs hsg r3.1 r3.2 fun c hc zz => Itm.list hsg rfl rfl ⟨by decide,by decide⟩ <| Itm.list hsg rfl rfl ⟨by decide,by decide⟩ ?_
 refine Itm.mk (item_at (j:=i3) (v:=(sureP x y z c i3).v) get_new e3 ?_ (by simp) ?_)
 · exact lt3 (P:=fun i => [(Pt.sign c).v,(Pt.span x z).v,Pt.any.v][i]? = some (sureP x y z c i).v) rfl rfl rfl i3 h3
 have hu:=sureP_ok (x:=x) (y:=y) (z:=z) hs hc i3
 generalize sureP x y z c i3 = u at hu ⊢
 refine Cal.mk <| fn_piled (f:=0) TO hs (get_up hsg) (get_up hnm) (by clear q hsg hnm; lia) fun hd j2 hhd => ?_
 have hl:∀ {jk:Hp},lenV (σ ++ jk) (.ref nm) = some ns.length:=fun {jk} => len_at (get_up hnm) (Zc _)
 rw [Ze]
 refine Cal.len hl (by clear q hsg hnm hl; lia) <| Cal.mk <| CallOk.min2 <| Cal.len hl (by clear q hsg hnm hl; lia) <| Bin.mk ⟨_,_,.mul _ _ (.inl (small_later _ hn)),?_⟩
 refine binG.add (later_at k ns.length) <| Bin.mulr rfl <| Cal.mk <| fn_piled (f:=k + stp ns.length) TO hs (get_up hsg) (get_up hnm) (by clear q hsg hnm hl; lia) fun tl j3 htl => Bin.mulr rfl ?_
 refine Itm.mk (item_at (v:=(ruleP u hd tl i4).v) (j:=i4) get_new e4 ?_ (by simp) ?_)
 · exact lt4 (P:=fun i => [(Pt.alt [.row [u,hd],tl]).v,(Pt.alt [tl,.row [u,hd]]).v,(Pt.row [u,hd]).v,tl.v][i]? = some (ruleP u hd tl i).v) rfl rfl rfl rfl i4 h4
 simp only [Ze]
 exact Bin.mulr rfl <| Br.mk (fun zz => q _ _ (.wr hu hhd htl i4)) fun zz => q _ _ (.mk hu hhd htl i4)
theorem fn_signs_by (TO:TopOk (T08 w s)) {cell:Int} (q:∀ x y z o,Sg x y z → Q (.ref (σ.length + 1)) (σ ++ [o,.list [.str (S [x]),.str (S [y]),.str (S [z])]])):CallOk (T08 w s) (d + 2) X (.glob "_law_signs_by") [.int cell] Q σ:=by
 refine CallOk.go TO rfl rfl ?_
 refine Cal.mk <| fn_sign_by TO fun a ha => Bin.mulr rfl <| Cal.mk <| fn_sign_by TO fun b hb => Bin.mulr rfl <| Cal.mk <| fn_sign_by TO fun c hc => Cal.mk <| CallOk.sorted (bs:=[S [a],S [b],S [c]]) get_new (by decide:3 < 64) fun bs' hp hst => ?_
 obtain ⟨x,y,z,rfl,hx,hy,hz,hxy,hyz⟩:=three_signs ha hb hc hp hst
 have:=q x y z (.list [.str (S [a]),.str (S [b]),.str (S [c])]) ⟨hx,hy,hz,hxy,hyz⟩
 rw [Zf,Ze]
 exact this
end
section
variable {w:World} {s:Shared} {d:Nat} {X:QX} {Q:QE} {σ:Hp}
theorem many_in (cell:Int):∃ n:Nat,(if (cell.fdiv 5).fmod 8 == 1 then 6 + (cell.fdiv 40).fmod 35 else 1 + cell.fmod 5) = n ∧ 1 ≤ n ∧ n ≤ 40:=by
 have r:=fmod_range (a:=cell.fdiv 40) (b:=35) (by decide)
 have r':=fmod_range (a:=cell) (b:=5) (by decide)
 split
 · obtain ⟨m,e,l⟩:=nat_lt (n:=35) r
   exact ⟨6 + m,by rw [e]; rfl,Za (by decide) (Zy 6 m),Nat.add_le_add_left (Nat.le_of_lt_succ l) 6⟩
 · obtain ⟨m,e,l⟩:=nat_lt (n:=5) r'
   exact ⟨1 + m,by rw [e]; rfl,Zy 1 m,Za (Nat.add_le_add_left (Nat.le_of_lt_succ l) 1) (by decide)⟩
theorem fn_many_by (TO:TopOk (T08 w s)) {cell:Int} (q:∀ n:Nat,1 ≤ n → n ≤ 40 → Q (.int n) σ):CallOk (T08 w s) (d + 1) X (.glob "_law_many_by") [.int cell] Q σ:=by
 refine CallOk.go TO rfl rfl ?_
 obtain ⟨n,e,h1,h2⟩:=many_in cell
 have q:=q n h1 h2
 rw [← e] at q
 refine Br.mk (fun h => ?_) fun h => ?_
 · rw [if_pos h] at q; exact q
 · rw [if_neg (by rw [h]; decide)] at q; exact q
end
section
variable {w:World} {s:Shared} {d:Nat} {X:QX} {Q:QE} {σ:Hp}
theorem PartOk.no {T:Tp} {sc:Scope} {ρ:Loc} {Q':Option Int → Hp → Prop} (q:Q' Option.none σ):PartOk T d sc ρ X Option.none Q' σ:=q
theorem PartOk.yes {T:Tp} {sc:Scope} {ρ:Loc} {e:Expr} {Q':Option Int → Hp → Prop} (h:EvOk T d sc ρ X e (fun v σ' => ∃ i,v = .int i ∧ Q' (some i) σ') σ):PartOk T d sc ρ X (some e) Q' σ:=h
theorem allS_map (l:List Nat):(l.map fun c => V.str (S [c])) = (l.map fun c => S [c]).map V.str:=List.map_map.symm
theorem sum_len (l:List Nat):((l.map fun c => S [c]).map (·.length)).sum = l.length:=by
 induction l with
 | nil => rfl
 | cons a r ih => simp only [List.map_cons,List.sum_cons,ih,S_length,List.length_cons,List.length_nil]; (clear ih; lia)
theorem tailBy_at {c:Int} {n i:Nat} (h:i < n):(tailBy c n)[i]? = some (letterAt (c + 5 * (i:Int))):=by
 simp [tailBy,h]
theorem str_nil:(Str.ofString "" : Str) = S []:=by decide +kernel
theorem str_z:(Str.ofString "z" : Str) = S [122]:=by decide +kernel
theorem cat_S {a b:List Nat} {Q:QE} {σ:Hp} (ha:a.length ≤ 500) (hb:b.length ≤ 500) (q:Q (.str (S (a ++ b))) σ):Bin .Add (.str (S a)) (.str (S b)) Q σ:=.cat (by rw [S_length,S_length]; exact szo (Za (Zcb ha hb) (by decide))) ((S_app a b).symm ▸ q)
theorem join_tail {T:Tp} {c:Int} {n l:Nat} {Q:QE} {σ:Hp} (hl:σ[l]? = some (.list ((tailBy c n).map fun c => V.str (S [c])))) (hn:n ≤ 20) (q:Q (.str (S (tailBy c n))) σ):Cal T d X (.bi "str.join") [.str (Str.ofString ""),.ref l] Q σ :=
 ⟨CallOk.join (allS_map (tailBy c n) ▸ hl) (by rw [sum_len,Zc,tailBy_len]; clear q hl; lia) (by decide +kernel) (by rw [str_nil,S_join]; exact q)⟩
theorem letterN {m:Int} {n:Nat} (e:m = n) (h:n < 26) (q:Q (.str (S [97 + n])) σ):Itm (.str (Str.ofString "abcdefghijklmnopqrstuvwxyz")) (.int m) Q σ:=e ▸ item_letter (Int.natCast_nonneg n) (Zfb.mpr h) q
theorem name0 {style cell:Int} {k n:Nat} (h0:style.fmod 4 = 0) (hn:cell.fmod 11 = n):nameBy style cell k = shortBy k ++ tailBy cell n:=by unfold nameBy; rw [if_pos h0,hn]; rfl
theorem name1 {style cell:Int} {k n i:Nat} (h0:¬ style.fmod 4 = 0) (h1:style.fmod 4 = 1) (hn:(style.fdiv 4).fmod 11 = n) (hi:((style * 7).fmod 1009).fmod (n + 1) = i):nameBy style cell k = (tailBy style n).take i ++ shortBy k ++ (tailBy style n).drop i:=by
 unfold nameBy; rw [if_neg h0,if_pos h1,hn]
 have e:((style * 7).fmod 1009).fmod ((tailBy style n).length + 1) = i:=(tailBy_len style n).symm ▸ hi
 show List.take (((style * 7).fmod 1009).fmod ((tailBy style n).length + 1)).toNat (tailBy style n) ++ _ ++ List.drop (((style * 7).fmod 1009).fmod ((tailBy style n).length + 1)).toNat (tailBy style n) = _
 rw [e]; rfl
theorem name2 {style cell:Int} {k:Nat} (h0:¬ style.fmod 4 = 0) (h1:¬ style.fmod 4 = 1) (h2:style.fmod 4 = 2):nameBy style cell k = if k < 12 then List.replicate (k + 1) (letterAt (style.fdiv 4)) else shortBy k ++ [122]:=by unfold nameBy; rw [if_neg h0,if_neg h1,if_pos h2]
theorem name3 {style cell:Int} {k:Nat} (h0:¬ style.fmod 4 = 0) (h1:¬ style.fmod 4 = 1) (h2:¬ style.fmod 4 = 2):nameBy style cell k = if k < 26 then [97 + k] else shortBy k:=by unfold nameBy; rw [if_neg h0,if_neg h1,if_neg h2]
theorem mulOk_one {c k:Nat} (h3:k < 12):MulOk (S [c]) ((k:Int) + 1):=by
 refine ⟨by simp; lia,fun zz zz => ?_,fun zz zz => ?_⟩
 · rw [S_length]
   simp only [List.length_cons,List.length_nil]
   have:(1:Int) ≤ (2 ^ 63 - 1) / ((k:Int) + 1):=by rw [Int.le_ediv_iff_mul_le (by lia)]; lia
   lia
 · rw [S_length]
   show decide (_ > sizeLine) = false
   exact decide_eq_false (Zo.mpr (szo (Za (show 1 * (k + 1) ≤ 12 from (Nat.one_mul (k + 1)).symm ▸ h3) (by decide:12 ≤ 16777216))))
theorem is3 {a:Int} (r:0 ≤ a ∧ a < 4) (h0:¬ a = 0) (h1:¬ a = 1) (h2:¬ a = 2):(a == 3) = true:=by rw [beq_iff_eq]; lia
theorem ofLt {a b:Nat} (h:decide ((a:Int) < b) = true):a < b:=Zfb.mp (Zgb h)
theorem ofNlt {a b:Nat} (h:decide ((a:Int) < b) = false):¬ a < b:=fun g => of_decide_eq_false h (Zfb.mpr g)
theorem comp_tail {T:Tp} {sc scope:Scope} {ρ:Loc} {x:Str} {elt:Expr} {m c:Int} {n:Nat} (hm:m = n) (hn:n ≤ 20) (q:Q (.ref σ.length) (σ ++ [.list ((tailBy c n).map fun c => V.str (S [c]))]))
   (h:∀ i:Nat,EvOk T d (relab scope sc) (upd (compLoc scope ρ) x (some (.int i))) X elt (fun v σ' => v = .str (S [97 + ((c + 5 * (i:Int)).fmod 26).toNat]) ∧ σ' = σ) σ):CompOk T d sc ρ X scope x [] elt Q (.rng m) σ:=by
 subst hm
 refine ⟨_,fun i acc σ' => acc = ((tailBy c n).take i).map (fun c => V.str (S [c])) ∧ σ' = σ,⟨by simp,rfl⟩,fun i acc σ' hJ => ⟨rng_iter (by clear hn hJ q h; lia) (by clear hJ q h; lia),?_⟩,fun acc σ' hJ => ?_,fun i y acc σ' hJ hy => ?_⟩
 · rw [hJ.1]
   simp only [Zc,List.length_take,tailBy_len]; exact szo (by clear hJ q h; lia)
 · obtain ⟨rfl,rfl⟩:=hJ
   rw [Zc,List.length_range,Int.toNat_natCast,List.take_of_length_le (by rw [tailBy_len]; exact Zl _)]
   exact q
 · obtain ⟨rfl,rfl⟩:=hJ
   obtain ⟨hi,rfl⟩:=rng_at hy
   refine (h i).mono (fun v σ' hv => ?_) fun zz zz h => h
   obtain ⟨rfl,rfl⟩:=hv
   refine ⟨?_,rfl⟩
   rw [take_next (tailBy_at (by simpa using hi)),List.map_append]; rfl
theorem fn_name_by (TO:TopOk (T08 w s)) {style cell:Int} {k:Nat} (hk:k < 40) (q:∀ junk,Q (.str (S (nameBy style cell k))) (σ ++ junk)):CallOk (T08 w s) (d + 1) X (.glob "_law_name_by") [.int style,.int cell,.int k] Q σ:=by
 refine CallOk.go TO rfl rfl ?_
 have q:∀ {l:List Nat} (junk:Hp),nameBy style cell k = l → Q (.str (S l)) (σ ++ junk):=fun j e => e ▸ q j
 have q0:∀ {l:List Nat},nameBy style cell k = l → Q (.str (S l)) σ:=fun e => List.append_nil σ ▸ q [] e
 have le2:(shortBy k).length ≤ 500:=(by decide:2 ≤ 500)
 refine letterN (fmodN' k 26) (Nat.mod_lt k (by decide)) <| letterN (fdivN k 26) (Zk (Nat.div_le_div_right (Zq hk)) (by decide:40 / 26 < 26)) <| cat_S (by decide:1 ≤ 500) (by decide:1 ≤ 500) ?_
 refine Br.mk (fun h0 => ?_) fun h0 => Br.mk (fun h1 => ?_) fun h1 => ?_
 · refine (nat_lt (n:=11) (fmod_range (a:=cell) (b:=11) (by decide))).elim fun n hn => ?_
   have hn2:=hn.2
   have hn:=hn.1
   have l20:n ≤ 20:=Za (Zq hn2) (by decide)
   refine MethOk.join <| Cal.range <| comp_tail (c:=cell) hn l20 (join_tail (c:=cell) (n:=n) get_new l20 (cat_S le2 ((tailBy_len cell n).symm ▸ Za l20 (by decide)) (q _ (name0 (eq_of_beq h0) hn)))) fun i => vE_ok TO rfl 40 _ _ _ ?_
   have r:=fmod_range (a:=cell + 5 * (i:Int)) (b:=26) (by decide)
   exact Bin.mull rfl <| item_letter r.1 r.2 ⟨rfl,rfl⟩
 · refine (nat_lt (n:=11) (fmod_range (a:=style.fdiv 4) (b:=11) (by decide))).elim fun n hn => ?_
   have hn2:=hn.2
   have hn:=hn.1
   have l20:n ≤ 20:=Za (Zq hn2) (by decide)
   refine MethOk.join <| Cal.range <| comp_tail (c:=style) hn l20 (join_tail (c:=style) (n:=n) get_new l20 ?_) fun i => vE_ok TO rfl 40 _ _ _ ?_
   · refine (nat_lt (n:=n + 1) (fmod_range (a:=(style * 7).fmod 1009) (b:=(n:Int) + 1) (Int.lt_add_one_of_le (Int.natCast_nonneg n)))).elim fun i hi => ?_
     have hie:=hi.1
     have hi:=hi.2
     have q1:=q [.list ((tailBy style n).map fun c => V.str (S [c]))] (name1 (ne_of_beq_false h0) (eq_of_beq h1) hn hie)
     have hal:(tailBy style n).length ≤ 400:=(tailBy_len style n).symm ▸ Za l20 (by decide)
     have hil:i ≤ (tailBy style n).length:=(tailBy_len style n).symm ▸ Nat.le_of_lt_succ hi
     rw [← tailBy_len style n] at hie
     generalize tailBy style n = al at q1 hal hil hie ⊢
     have hsz:(S al).length ≤ sizeLine:=(S_length al).symm ▸ szo (Za hal (by decide))
     have ht:(al.take i).length ≤ 400:=Za (List.length_take_le' ..) hal
     refine Bin.mulr rfl <| Cal.len (n:=al.length) (len_str_ (S_length al)) (Zk hal (by decide)) ?_
     refine Evx.mk (EvOk.sliceStr (fun zz zz => rfl) (EvOk.nm rfl rfl rfl (PartOk.no (PartOk.yes (EvOk.nm rfl rfl rfl ⟨_,rfl,_,rfl,hsz,?_⟩)))))
     rw [hie,S_slice_to hil]
     refine cat_S (Za ht (by decide)) le2 (Evx.mk (EvOk.sliceStr (fun zz zz => rfl) (EvOk.nm rfl rfl rfl (PartOk.yes (EvOk.nm rfl rfl rfl ⟨_,rfl,PartOk.no ⟨_,rfl,hsz,?_⟩⟩)))))
     rw [S_slice_from hil]
     exact cat_S (Zf ▸ Za (Nat.add_le_add_right ht 2) (by decide)) (List.length_drop ▸ Za (Nat.sub_le ..) (Za hal (by decide))) q1
   · have r:=fmod_range (a:=style + 5 * (i:Int)) (b:=26) (by decide)
     exact Bin.mull rfl <| item_letter r.1 r.2 ⟨rfl,rfl⟩
 · have h0:¬ style.fmod 4 = 0:=ne_of_beq_false h0
   have h1:¬ style.fmod 4 = 1:=ne_of_beq_false h1
   refine Br.mk (fun h2 => Br.mk (fun h3 => ?_) fun h3 => ?_) fun h2 => ?_
   · have hs26:=fmod_range (a:=style.fdiv 4) (b:=26) (by decide)
     have h3:k < 12:=ofLt h3
     exact item_letter hs26.1 hs26.2 (Bin.mk ⟨_,_,.rep _ _ (mulOk_one h3),S_mul _ _ ▸ q0 ((name2 h0 h1 (eq_of_beq h2)).trans (if_pos h3))⟩)
   · exact Br.t h2 <| Bin.cat (s:=S (shortBy k)) (t:=Str.ofString "z") (by rw [str_z,S_length,S_length]; exact szo (by decide:3 ≤ 16777216)) (by rw [str_z,S_app]; exact q0 ((name2 h0 h1 (eq_of_beq h2)).trans (if_neg (ofNlt h3))))
   · have h2':¬ style.fmod 4 = 2:=ne_of_beq_false h2
     refine Br.f h2 (Br.t (is3 (fmod_range (by decide)) h0 h1 h2') (Br.mk (fun h4 => ?_) fun h4 => ?_))
     · exact letterN rfl (ofLt h4) (q0 ((name3 h0 h1 h2').trans (if_pos (ofLt h4))))
     · exact q0 ((name3 h0 h1 h2').trans (if_neg (ofNlt h4)))
end
section
variable {w:World} {s:Shared} {d:Nat} {X:QX} {Q:QE} {σ:Hp}
structure Rules (ns:List Str) (rs:List (Str × Pt)):Prop where
 at_:∀ (j:Nat) (r:Str × Pt),rs[j]? = some r → ns[j]? = some r.1 ∧ Drawn ns j r.2
theorem snoc_cases {α:Type} {rs:List α} {x r:α} {j:Nat} (h:(rs ++ [x])[j]? = some r):rs[j]? = some r ∨ (j = rs.length ∧ x = r):=by
 rcases Nat.lt_trichotomy j rs.length with g | g | g
 · rw [Zbb g] at h; exact .inl h
 · rw [g,List.getElem?_concat_length] at h; exact .inr ⟨g,sm_inj h⟩
 · rw [List.getElem?_append_right (Zq g),Zrb (Nat.sub_pos_of_lt g)] at h; exact (no_some h).elim
theorem Rules.snoc {ns:List Str} {rs:List (Str × Pt)} {n:Str} {p:Pt} (h:Rules ns rs) (hn:ns[rs.length]? = some n) (hp:Drawn ns rs.length p):Rules ns (rs ++ [(n,p)]) :=
 ⟨fun j r hj => (snoc_cases hj).elim (h.at_ j r) fun e => e.1 ▸ e.2 ▸ ⟨hn,hp⟩⟩
theorem Rules.wts {ns:List Str} {rs:List (Str × Pt)} (h:Rules ns rs) (r:Str × Pt) (hr:r ∈ rs):r.2.wt ≤ 20000:=Zh (List.mem_iff_getElem?.mp hr) fun j hj => (h.at_ j r hj).2.piece.2.1
theorem Rules.names {ns:List Str} {rs:List (Str × Pt)} (h:Rules ns rs) (hl:rs.length = ns.length):rs.map (·.1) = ns:=by
 apply List.ext_getElem?
 intro j
 rw [Zdb]
 cases hj:rs[j]? with
 | none => rw [Zrb (hl ▸ List.getElem?_eq_none_iff.mp hj)]; rfl
 | some r => rw [(h.at_ j r hj).1]; rfl
theorem Rules.good {ns:List Str} {rs:List (Str × Pt)} (h:Rules ns rs) (hl:rs.length = ns.length) (h1:1 ≤ ns.length) (h40:ns.length ≤ 40) (hnd:ns.Nodup) (hnm:∀ n ∈ ns,isName n = true):GoodRules rs ∧ Later rs:=by
 have e:=h.names hl
 refine ⟨⟨hl ▸ h1,hl ▸ h40,e ▸ hnd,fun r hr => (List.mem_iff_getElem?.mp hr).elim fun j hj => ?_⟩,fun i r hi B y hy => ((h.at_ i r hi).2.piece.2.2 B y hy).elim fun j g => ?_⟩
 · have a:=(h.at_ j r hj).2.piece.1
   exact ⟨hnm _ (Zn (h.at_ j r hj).1),Pt.ok_good _ a.1,a.2.1,Pt.ok_few _ _ (Zl _) a.1,Zk a.2.2 (by decide),fun n hn => (Pt.ok_asks hn a.1).elim fun i g => e ▸ Zn g.2⟩
 · have hjl:j < rs.length:=hl ▸ (Zb.mp g.2).1
   exact ⟨j,rs[j],g.1,Zp hjl,(Zab (g.2.symm.trans (h.at_ j rs[j] (Zp hjl)).1)).symm⟩
theorem names_ok {style:Int} {f:Nat → Int} {n:Nat} (h40:n ≤ 40):((List.range n).map fun k => S (nameBy style (f k) k)).Nodup ∧ ∀ m ∈ (List.range n).map (fun k => S (nameBy style (f k) k)),isName m = true:=by
 refine ⟨?_,fun m hm => ?_⟩
 · rw [List.nodup_iff_pairwise_ne,List.pairwise_map]
   refine List.Pairwise.imp_of_mem ?_ (List.nodup_range (n:=n))
   intro a b ha hb hab e
   rw [List.mem_range] at ha hb
   exact hab (nameBy_inj (Zz ha h40) (Zz hb h40) (S_inj e))
 · obtain ⟨k,hk,rfl⟩:=Zsb.mp hm
   exact isName_S (Zz (List.mem_range.mp hk) h40)
theorem ix3 {n i:Nat} (hn:n ≤ 40) (hi:i < n):0 ≤ (3:Int) + i ∧ (3:Int) + i < 2 ^ 62:=⟨Int.natCast_nonneg (3 + i),Zfb.mpr (Zk (Nat.add_le_add_left (Za (Zq hi) hn) 3) (by decide))⟩
inductive J08sn (ns:List Str) (σ:Hp) (i:Nat) (acc:List V) (σ':Hp):Prop where
 | mk (junk:Hp) (q0:acc = (ns.take i).map V.str) (q1:σ' = σ ++ junk):J08sn ns σ i acc σ'
inductive J08sk (n:Nat) (σ:Hp) (i:Nat) (acc:List V) (σ':Hp):Prop where
 | mk (cs:List Int) (q0:cs.length = i) (q1:acc = cs.map V.int) (q2:i ≤ n) (q3:σ' = σ):J08sk n σ i acc σ'
inductive J08s (ns:List Str) (n:Nat) (σ:Hp) (i:Nat) (acc:List V) (σ':Hp):Prop where
 | mk (rs:List (Str × Pt)) (junk:Hp) (q0:i ≤ n) (q1:Rules ns rs) (q2:rs.length = i) (q3:acc = rs.map ruleV) (q4:σ' = σ ++ junk):J08s ns n σ i acc σ'
theorem fn_rules_by (TO:TopOk (T08 w s)) {xs:List Int} (hx:xs.length < 2 ^ 62) (q:∀ rs l junk,GoodRules rs → Later rs → (∀ r ∈ rs,r.2.wt ≤ 20000) → (∀ j r,rs[j]? = some r → Drawn (rs.map (·.1)) j r.2) → rs.length ≤ 40 → σ.length ≤ l → (σ ++ junk)[l]? = some (.list (rs.map ruleV)) → Q (.ref l) (σ ++ junk)):CallOk (T08 w s) (d + 4) X (.glob "_law_rules_by") [.scr xs] Q σ:=by
 refine CallOk.go TO rfl rfl ?_
 refine Cal.mk <| fn_cell_at TO (by decide) (by decide) hx <| Cal.mk <| fn_many_by TO fun n h1 hM => Cal.mk <| fn_cell_at TO (by decide) (by decide) hx <| Cal.mk <| fn_signs_by TO fun x y z o hs => Cal.mk <| fn_cell_at TO (by decide) (by decide) hx <| Cal.mk <| fn_cell_at TO (by decide) (by decide) hx ?_
 generalize hst:xs.getD (0:Int).toNat 0 + xs.getD (2:Int).toNat 0 = style
 refine binG.add hst ?_
 clear hst
 have h40:n ≤ 40:=Za hM (by decide)
 have hok:=names_ok (style:=style) (f:=fun k => xs.getD (3 + k) 0) h40
 have hnl:((List.range n).map fun k => S (nameBy style (xs.getD (3 + k) 0) k)).length = n:=(Zc _).trans List.length_range
 have hnat:∀ i,i < n → ((List.range n).map fun k => S (nameBy style (xs.getD (3 + k) 0) k))[i]? = some (S (nameBy style (xs.getD (3 + i) 0) i)):=fun i hi => by rw [Zdb,List.getElem?_range hi]; rfl
 generalize ((List.range n).map fun k => S (nameBy style (xs.getD (3 + k) 0) k)) = ns at hok hnl hnat
 have hrng:∀ {σ:Hp},iterV σ (.rng (n:Int)) = some ((List.range (n:Int).toNat).map fun (k:Nat) => V.int k):=rng_iter (Int.natCast_nonneg n) (Zfb.mpr (Zk h40 (by decide)))
 have hrl:((List.range (n:Int).toNat).map fun (k:Nat) => V.int k).length = n:=(Zc _).trans List.length_range
 have hri:∀ {i:Nat} {y:V},((List.range (n:Int).toNat).map fun (k:Nat) => V.int k)[i]? = some y → i < n ∧ y = .int i:=fun h => rng_at (n:=n) h
 have sz40:∀ {i:Nat},i ≤ 40 → i ≤ sizeLine:=fun h => szo (Za h (by decide))
 have hsg:(σ ++ [o,.list [.str (S [x]),.str (S [y]),.str (S [z])]])[σ.length + 1]? = some (.list [.str (S [x]),.str (S [y]),.str (S [z])]):=get1
 have q:∀ rs l σ' (j:Hp),σ' = σ ++ [o,.list [.str (S [x]),.str (S [y]),.str (S [z])]] ++ j → GoodRules rs → Later rs → (∀ r ∈ rs,r.2.wt ≤ 20000) → (∀ j r,rs[j]? = some r → Drawn (rs.map (·.1)) j r.2) → rs.length ≤ 40 → (σ ++ [o,.list [.str (S [x]),.str (S [y]),.str (S [z])]]).length ≤ l → σ'[l]? = some (.list (rs.map ruleV)) → Q (.ref l) σ':=fun rs l σ' j e g1 g2 g3 g3' g4 g5 g6 => by
   rw [e,Ze] at g6 ⊢
   exact q rs l _ g1 g2 g3 g3' g4 (Za (Zf ▸ Zy ..) g5) g6
 generalize (σ ++ [o,MObj.list [.str (S [x]),.str (S [y]),.str (S [z])]]) = σ1 at hsg q ⊢
 generalize σ.length + 1 = sg at hsg ⊢
 refine Cal.range ⟨_,J08sn ns σ1,⟨[],rfl,(List.append_nil σ1).symm⟩,fun i acc σ' hJ => ⟨hrng,hJ.rec fun zz q0 zz => by rw [q0,Zc]; exact sz40 (Za (List.length_take_le' ..) (hnl ▸ h40))⟩,fun acc σ' hJ => ?_,fun i v acc σ' hJ hy => ?_⟩
 rotate_left
 · obtain ⟨junk,rfl,rfl⟩:=hJ
   obtain ⟨hi,rfl⟩:=hri hy
   refine vE_ok TO rfl 40 _ _ _ <| Cal.mk <| fn_cell_at TO (ix3 h40 hi).1 (ix3 h40 hi).2 hx <| Cal.mk <| fn_name_by TO (Zz hi h40) fun jk => ⟨junk ++ jk,?_,Ze ..⟩
   rw [take_next (hnat i hi),List.map_append]; rfl
 obtain ⟨j1,rfl,rfl⟩:=hJ
 rw [hrl,← hnl,List.take_length]
 have hns:=get_new (σ:=σ1 ++ j1) (o:=.list (ns.map V.str))
 have hsg:(σ1 ++ j1 ++ [.list (ns.map V.str)])[sg]? = some (.list [.str (S [x]),.str (S [y]),.str (S [z])]):=get_up (get_up hsg)
 have q:∀ rs l σ' (j:Hp),σ' = σ1 ++ j1 ++ [MObj.list (ns.map V.str)] ++ j → GoodRules rs → Later rs → (∀ r ∈ rs,r.2.wt ≤ 20000) → (∀ j r,rs[j]? = some r → Drawn (rs.map (·.1)) j r.2) → rs.length ≤ 40 → (σ1 ++ j1 ++ [MObj.list (ns.map V.str)]).length ≤ l → σ'[l]? = some (.list (rs.map ruleV)) → Q (.ref l) σ':=fun rs l σ' j e g1 g2 g3 g3' g4 g5 => q rs l σ' (j1 ++ [MObj.list (ns.map V.str)] ++ j) (e.trans (by simp only [Ze])) g1 g2 g3 g3' g4 (Za (by rw [Ze,Zf]; exact Zy ..) g5)
 generalize (σ1 ++ j1).length = nl at hns ⊢
 generalize (σ1 ++ j1 ++ [MObj.list (ns.map V.str)]) = σ2 at hsg hns q ⊢
 rw [hnl]
 refine Cal.range ⟨_,J08sk n σ2,⟨[],rfl,rfl,Zkb _,rfl⟩,fun i acc σ' hJ => ⟨hrng,hJ.rec fun cs q0 q1 q2 zz => q1 ▸ sz40 (by rw [Zc,q0]; exact Za q2 h40)⟩,fun acc σ' hJ => ?_,fun i v acc σ' hJ hy => ?_⟩
 rotate_left
 · obtain ⟨cs,hc,rfl,zz,rfl⟩:=hJ
   obtain ⟨hi,rfl⟩:=hri hy
   exact vE_ok TO rfl 40 _ _ _ <| Cal.mk <| fn_cell_at TO (ix3 h40 hi).1 (ix3 h40 hi).2 hx <| Bin.mull rfl ⟨cs ++ [_],Zf.trans (congrArg Nat.succ hc),by rw [List.map_append]; rfl,hi,rfl⟩
 obtain ⟨cs,hc,rfl,zz,rfl⟩:=hJ
 rw [hrl] at hc
 have hcs:=get_new (σ:=σ') (o:=.list (cs.map V.int))
 refine Cal.range ⟨_,J08s ns n (σ' ++ [.list (cs.map V.int)]),⟨[],[],Zkb _,⟨fun j r h => nomatch h⟩,rfl,rfl,(List.append_nil _).symm⟩,fun i acc σ' hJ => ⟨hrng,hJ.rec fun rs zz q0 zz q2 q3 zz => q3 ▸ sz40 (by rw [Zc,q2]; exact Za q0 h40)⟩,fun acc σ' hJ => ?_,fun i v acc σ' hJ hy => ?_⟩
 · obtain ⟨rs,junk,hi,hR,hc,rfl,rfl⟩:=hJ
   rw [hrl] at hc
   have g:=hR.good (hc.trans hnl.symm) (hnl.symm ▸ h1) (hnl.symm ▸ h40) hok.1 hok.2
   exact q rs _ _ ([.list (cs.map V.int)] ++ junk ++ [.list (rs.map ruleV)]) (by simp only [Ze]) g.1 g.2 hR.wts (fun j r hj => (hR.names (hc.trans hnl.symm)).symm ▸ (hR.at_ j r hj).2) (hc ▸ hM) (by rw [Ze,Zf]; exact Zy ..) get_new
 · obtain ⟨rs,junk,hi0,hR,hc',rfl,rfl⟩:=hJ
   obtain ⟨hi,rfl⟩:=hri hy
   have l62:∀ {m:Nat},m = n → m < 2 ^ 62:=fun e => e ▸ Zk h40 (by decide)
   refine vE_ok TO rfl 40 _ _ _ <| Itm.mk <| item_at (get_up (get_up hns)) rfl (by rw [Zdb,hnat i hi]; rfl) (by rw [Zc]; exact l62 hnl) <| Itm.mk <| item_at (v:=.int cs[i]) (get_up hcs) rfl (by rw [Zdb,Zp (hc.symm ▸ hi)]; rfl) (by rw [Zc]; exact l62 hc) <| Cal.mk <|
     fn_part_by TO hs (get_up (get_up hsg)) (get_up (get_up hns)) (hnl ▸ h40) fun p jk hp => ?_
   exact ⟨rs ++ [(S (nameBy style (xs.getD (3 + i) 0) i),p)],junk ++ jk,hi,hR.snoc (hc'.symm ▸ hnat i hi) (hc'.symm ▸ hp),Zf.trans (congrArg Nat.succ hc'),by rw [List.map_append]; rfl,Ze ..⟩
end
section
variable {w:World} {s:Shared} {d:Nat} {X:QX} {Q:QE} {σ:Hp}
theorem set_end {σ:Hp} {x y:MObj}:(σ ++ [x]).set σ.length y = σ ++ [y]:=by simp
theorem set_end2 {σ:Hp} {x y z:MObj}:(σ ++ [x] ++ [z]).set σ.length y = σ ++ [y,z]:=by simp
structure FrCls (T:Tp) (C:Addr):Prop where
 cls:ClsAt T "Frame" C
 piece:FldAt T C "piece"
 place:FldAt T C "place"
 turn:FldAt T C "turn"
 here:FldAt T C "here"
 kids:FldAt T C "kids"
theorem fr_cls:∃ C,FrCls (T08 w s) C:=⟨_,⟨rfl,rfl,rfl,rfl,rfl,rfl⟩,⟨rfl,rfl⟩,⟨rfl,rfl⟩,⟨rfl,rfl⟩,⟨rfl,rfl⟩,⟨rfl,rfl⟩⟩
noncomputable def frF (pv:V) (i t h:Int) (k:Nat):List (Str × V):=[("piece",pv),("place",.int i),("turn",.int t),("here",.int h),("kids",.ref k)]
theorem fn_frame (TO:TopOk (T08 w s)) {pv:V} {i:Int} (q:Q (.ref σ.length) (σ ++ [.inst "Frame" (frF pv i 0 i (σ.length + 1)),.list []])):CallOk (T08 w s) (d + 3) X (.glob "Frame") [pv,.int i] Q σ:=by
 obtain ⟨C,hC⟩:=fr_cls (w:=w) (s:=s)
 refine CallOk.make TO rfl rfl rfl rfl <| CodeOk.goM TO rfl rfl ?_
 refine SetAttrOk.to [("piece",pv)] get_new hC.cls hC.piece (by simp) rfl set_end ?_
 refine SetAttrOk.to [("piece",pv),("place",.int i)] get_new hC.cls hC.place (by simp) rfl set_end ?_
 refine SetAttrOk.to [("piece",pv),("place",.int i),("turn",.int 0)] get_new hC.cls hC.turn (by simp) rfl set_end ?_
 refine SetAttrOk.to [("piece",pv),("place",.int i),("turn",.int 0),("here",.int i)] get_new hC.cls hC.here (by simp) rfl set_end ?_
 exact SetAttrOk.to (frF pv i 0 i (σ ++ [MObj.inst "Frame" [("piece",pv),("place",.int i),("turn",.int 0),("here",.int i)]]).length) (get_up get_new) hC.cls hC.kids (by simp) rfl (σ':=σ ++ [.inst "Frame" (frF pv i 0 i (σ.length + 1)),.list []]) (by rw [set_end2,Zf]; rfl) ⟨rfl,q⟩
end
section
variable {w:World} {s:Shared} {d:Nat} {X:QX} {Q:QE} {σ:Hp}
theorem pick_at {vs:List V} {j:Nat} {v:V} (hj:vs[j]? = some v) (hb:vs.length < 1000):pick vs (j:Int) = some v:=by
 have hl:=(Zb.mp hj).1
 show (bif Nat.ble j 1000 then vs[j]? else none) = some v
 rw [Nat.ble_eq_true_of_le (by exact Zq (Nat.lt_trans hl hb))]; exact hj
theorem vs_get {ps:List Pt} {t:Nat} {p:Pt} (h:ps[t]? = some p):(Pt.vs ps)[t]? = some p.v:=by rw [Pt.vs_map,Zdb,h]; rfl
theorem row_none (TO:TopOk (T08 w s)) {ps:List Pt} {i t h l k:Nat} (h1:σ[l]? = some (.inst "Frame" (frF (Pt.row ps).v i t h k))) (hp:ps.length < 1000)
   (q1:ps[t]? = none → Q (.tup [.none,.tup [.int h,.ref k]]) σ) (q2:∀ p,ps[t]? = some p → Q (.tup [.tup [p.v,.int h],.none]) σ) (ht:t ≤ ps.length)  :
   CallOk (T08 w s) (d + 2) X (.glob "of_row") [.ref l,.none] Q σ:=by
 obtain ⟨C,hC⟩:=fr_cls (w:=w) (s:=s)
 refine CallOk.go TO rfl rfl ?_
 refine Cmp.notN (r:=true) rfl ?_
 refine AttrOk.of h1 rfl rfl hC.cls hC.piece ?_
 refine AttrOk.of h1 rfl rfl hC.cls hC.turn ?_
 refine Cal.len (n:=ps.length) (len_tup (by simp [Pt.vs_map])) (by exact Za (by assumption) (by decide)) ?_
 refine Br.mk (fun h2 => ?_) fun h2 => ?_
 · refine AttrOk.of h1 rfl rfl hC.cls hC.here <| AttrOk.of h1 rfl rfl hC.cls hC.kids ?_
   exact q1 (Zrb (by simp at h2; lia))
 · refine AttrOk.of h1 rfl rfl hC.cls hC.turn ?_
   have hlt:t < ps.length:=by simp at h2; lia
   have hg:=Zp hlt
   refine itemG.at (pick_at (vs_get hg) (by rw [Pt.vs_map,Zc]; exact hp)) <| AttrOk.of h1 rfl rfl hC.cls hC.here ?_
   exact q2 _ hg
theorem row_no (TO:TopOk (T08 w s)) {l la:Nat} (q:Q (.tup [.none,.tup [.none,.ref σ.length]]) (σ ++ [.list []])):CallOk (T08 w s) (d + 2) X (.glob "of_row") [.ref l,.tup [.none,.ref la]] Q σ:=by
 refine CallOk.go TO rfl rfl ?_
 exact Cmp.notN (r:=false) rfl <| Cmp.isN (r:=true) rfl q
theorem row_yes (TO:TopOk (T08 w s)) {ps:List Pt} {i t h e l k la:Nat} {vs us:List V} (h1:σ[l]? = some (.inst "Frame" (frF (Pt.row ps).v i t h k))) (h2:σ[k]? = some (.list vs)) (h3:σ[la]? = some (.list us)) (hk:l ≠ k) (ha:la ≠ l) (hp:ps.length < 1000) (hz:vs.length + us.length ≤ sizeLine)
   (q1:∀ σ',σ' = (σ.set k (.list (vs ++ us))).set l (.inst "Frame" (frF (Pt.row ps).v i (t + 1:Nat) e k)) → ps[t + 1]? = none → Q (.tup [.none,.tup [.int e,.ref k]]) σ') (q2:∀ σ',σ' = (σ.set k (.list (vs ++ us))).set l (.inst "Frame" (frF (Pt.row ps).v i (t + 1:Nat) e k)) → ∀ p,ps[t + 1]? = some p → Q (.tup [.tup [p.v,.int e],.none]) σ') (ht:t < ps.length) :
   CallOk (T08 w s) (d + 2) X (.glob "of_row") [.ref l,.tup [.int e,.ref la]] Q σ:=by
 obtain ⟨C,hC⟩:=fr_cls (w:=w) (s:=s)
 refine CallOk.go TO rfl rfl ?_
 have hl:=(Zb.mp h1).1
 refine Cmp.notN (r:=false) rfl <| Cmp.isN (r:=false) rfl <| SetAttrOk.of (frF (Pt.row ps).v i t e k) h1 hC.cls hC.here (by simp [frF]) rfl ?_
 have g1:(σ.set l (.inst "Frame" (frF (Pt.row ps).v i t e k)))[l]? = some (.inst "Frame" (frF (Pt.row ps).v i t e k)):=Zw hl
 have g2:(σ.set l (.inst "Frame" (frF (Pt.row ps).v i t e k)))[k]? = some (.list vs):=by rw [Zi hk]; exact h2
 have g3:(σ.set l (.inst "Frame" (frF (Pt.row ps).v i t e k)))[la]? = some (.list us):=by rw [Zi (Ne.symm ha)]; exact h3
 have e3:∀ o,(((σ.set l (.inst "Frame" (frF (Pt.row ps).v i t e k))).set k (.list (vs ++ us))).set l o) = (σ.set k (.list (vs ++ us))).set l o:=fun o => by
   rw [List.set_comm _ _ hk,List.set_set]
 generalize σ.set l (.inst "Frame" (frF (Pt.row ps).v i t e k)) = σ₁ at g1 g2 g3 e3
 refine AttrOk.of g1 rfl rfl hC.cls hC.kids <| MethOk.extend g2 <| Cal.mk <| CallOk.extend g2 g3 hz ?_
 have g4:(σ₁.set k (.list (vs ++ us)))[l]? = some (.inst "Frame" (frF (Pt.row ps).v i t e k)):=by rw [Zi (Ne.symm hk)]; exact g1
 refine AttrOk.of g4 rfl rfl hC.cls hC.turn <| SetAttrOk.of (frF (Pt.row ps).v i (t + 1:Nat) e k) g4 hC.cls hC.turn (by simp [frF]) rfl ?_
 have g5:((σ₁.set k (.list (vs ++ us))).set l (.inst "Frame" (frF (Pt.row ps).v i (t + 1:Nat) e k)))[l]? = some (.inst "Frame" (frF (Pt.row ps).v i (t + 1:Nat) e k)):=Zw (Zb.mp g4).1
 rw [e3] at g5 ⊢
 generalize hσ:(σ.set k (.list (vs ++ us))).set l (.inst "Frame" (frF (Pt.row ps).v i (t + 1:Nat) e k)) = σ₂ at g5
 refine AttrOk.of g5 rfl rfl hC.cls hC.piece <| AttrOk.of g5 rfl rfl hC.cls hC.turn <| Cal.len (n:=ps.length) (len_tup (by simp [Pt.vs_map])) (by exact Za (by assumption) (by decide)) <| Br.mk (fun h2 => ?_) fun h2 => ?_
 · refine AttrOk.of g5 rfl rfl hC.cls hC.here <| AttrOk.of g5 rfl rfl hC.cls hC.kids ?_
   exact q1 _ hσ.symm (Zrb (by simp at h2; lia))
 · have hlt:t + 1 < ps.length:=by simp at h2; lia
   have hg:=Zp hlt
   refine AttrOk.of g5 rfl rfl hC.cls hC.turn <| itemG.at (pick_at (vs_get hg) (by rw [Pt.vs_map,Zc]; exact hp)) <| AttrOk.of g5 rfl rfl hC.cls hC.here ?_
   exact q2 _ hσ.symm _ hg
theorem alt_none (TO:TopOk (T08 w s)) {ps:List Pt} {i t h l k:Nat} (h1:σ[l]? = some (.inst "Frame" (frF (Pt.alt ps).v i t h k))) (hp:ps.length < 1000)
   (q1:ps[t]? = none → Q (.tup [.none,.tup [.none,.ref σ.length]]) (σ ++ [.list []])) (q2:∀ p,ps[t]? = some p → Q (.tup [.tup [p.v,.int i],.none]) σ) (ht:t ≤ ps.length) :
   CallOk (T08 w s) (d + 2) X (.glob "of_choice") [.ref l,.none] Q σ:=by
 obtain ⟨C,hC⟩:=fr_cls (w:=w) (s:=s)
 refine CallOk.go TO rfl rfl ?_
 refine Cmp.notN (r:=true) rfl <| AttrOk.of h1 rfl rfl hC.cls hC.piece <| AttrOk.of h1 rfl rfl hC.cls hC.turn <| Cal.len (n:=ps.length) (len_tup (by simp [Pt.vs_map])) (by exact Za (by assumption) (by decide)) <| Br.mk (fun h2 => ?_) fun h2 => ?_
 · exact q1 (Zrb (by simp at h2; lia))
 · have hg:=Zp (show t < ps.length by simp at h2; lia)
   exact AttrOk.of h1 rfl rfl hC.cls hC.turn <| itemG.at (pick_at (vs_get hg) (by rw [Pt.vs_map,Zc]; exact hp)) <| AttrOk.of h1 rfl rfl hC.cls hC.place <| q2 _ hg
theorem alt_yes (TO:TopOk (T08 w s)) {l la e:Nat} (q:Q (.tup [.none,.tup [.int e,.ref la]]) σ):CallOk (T08 w s) (d + 2) X (.glob "of_choice") [.ref l,.tup [.int e,.ref la]] Q σ:=by
 refine CallOk.go TO rfl rfl ?_
 exact Cmp.notN (r:=false) rfl <| Cmp.notN (r:=false) rfl q
theorem alt_no (TO:TopOk (T08 w s)) {ps:List Pt} {i t h l k la:Nat} (h1:σ[l]? = some (.inst "Frame" (frF (Pt.alt ps).v i t h k))) (hp:ps.length < 1000)
   (q1:∀ σ',σ' = σ.set l (.inst "Frame" (frF (Pt.alt ps).v i (t + 1:Nat) h k)) → ps[t + 1]? = none → Q (.tup [.none,.tup [.none,.ref σ'.length]]) (σ' ++ [.list []])) (q2:∀ σ',σ' = σ.set l (.inst "Frame" (frF (Pt.alt ps).v i (t + 1:Nat) h k)) → ∀ p,ps[t + 1]? = some p → Q (.tup [.tup [p.v,.int i],.none]) σ') (ht:t < ps.length) :
   CallOk (T08 w s) (d + 2) X (.glob "of_choice") [.ref l,.tup [.none,.ref la]] Q σ:=by
 obtain ⟨C,hC⟩:=fr_cls (w:=w) (s:=s)
 refine CallOk.go TO rfl rfl ?_
 refine Cmp.notN (r:=false) rfl <| Cmp.notN (r:=true) rfl <| AttrOk.of h1 rfl rfl hC.cls hC.turn <| SetAttrOk.of (frF (Pt.alt ps).v i (t + 1:Nat) h k) h1 hC.cls hC.turn (by simp [frF]) rfl ?_
 have g5:(σ.set l (.inst "Frame" (frF (Pt.alt ps).v i (t + 1:Nat) h k)))[l]? = some (.inst "Frame" (frF (Pt.alt ps).v i (t + 1:Nat) h k)):=Zw (Zb.mp h1).1
 generalize hσ:σ.set l (.inst "Frame" (frF (Pt.alt ps).v i (t + 1:Nat) h k)) = σ₂ at g5
 refine AttrOk.of g5 rfl rfl hC.cls hC.piece <| AttrOk.of g5 rfl rfl hC.cls hC.turn <| Cal.len (n:=ps.length) (len_tup (by simp [Pt.vs_map])) (by exact Za (by assumption) (by decide)) <| Br.mk (fun h2 => ?_) fun h2 => ?_
 · exact q1 _ hσ.symm (Zrb (by simp at h2; lia))
 · have hg:=Zp (show t + 1 < ps.length by simp at h2; lia)
   exact AttrOk.of g5 rfl rfl hC.cls hC.turn <| itemG.at (pick_at (vs_get hg) (by rw [Pt.vs_map,Zc]; exact hp)) <| AttrOk.of g5 rfl rfl hC.cls hC.place <| q2 _ hσ.symm _ hg
theorem many_none (TO:TopOk (T08 w s)) {p:Pt} {i t h l k:Nat} (h1:σ[l]? = some (.inst "Frame" (frF (Pt.many p).v i t h k))) (q:Q (.tup [.tup [p.v,.int h],.none]) σ):CallOk (T08 w s) (d + 2) X (.glob "of_many") [.ref l,.none] Q σ:=by
 obtain ⟨C,hC⟩:=fr_cls (w:=w) (s:=s)
 refine CallOk.go TO rfl rfl ?_
 exact Cmp.notN (r:=true) rfl <| AttrOk.of h1 rfl rfl hC.cls hC.piece <| AttrOk.of h1 rfl rfl hC.cls hC.here q
theorem many_no (TO:TopOk (T08 w s)) {p:Pt} {i t h l k la:Nat} (h1:σ[l]? = some (.inst "Frame" (frF (Pt.many p).v i t h k))) (q:Q (.tup [.none,.tup [.int h,.ref k]]) σ):CallOk (T08 w s) (d + 2) X (.glob "of_many") [.ref l,.tup [.none,.ref la]] Q σ:=by
 obtain ⟨C,hC⟩:=fr_cls (w:=w) (s:=s)
 refine CallOk.go TO rfl rfl ?_
 exact Cmp.notN (r:=false) rfl <| Cmp.isN (r:=true) rfl <| AttrOk.of h1 rfl rfl hC.cls hC.here <| AttrOk.of h1 rfl rfl hC.cls hC.kids q
theorem many_same (TO:TopOk (T08 w s)) {p:Pt} {i t h l k la:Nat} (h1:σ[l]? = some (.inst "Frame" (frF (Pt.many p).v i t h k))) (q:Q (.tup [.none,.tup [.int h,.ref k]]) σ):CallOk (T08 w s) (d + 2) X (.glob "of_many") [.ref l,.tup [.int h,.ref la]] Q σ:=by
 obtain ⟨C,hC⟩:=fr_cls (w:=w) (s:=s)
 refine CallOk.go TO rfl rfl ?_
 exact Cmp.notN (r:=false) rfl <| Cmp.isN (r:=false) rfl <| AttrOk.of h1 rfl rfl hC.cls hC.here <| Br.t (by simp) <| AttrOk.of h1 rfl rfl hC.cls hC.here <| AttrOk.of h1 rfl rfl hC.cls hC.kids q
theorem many_yes (TO:TopOk (T08 w s)) {p:Pt} {i t h e l k la:Nat} {vs us:List V} (h1:σ[l]? = some (.inst "Frame" (frF (Pt.many p).v i t h k))) (h2:σ[k]? = some (.list vs)) (h3:σ[la]? = some (.list us)) (hk:l ≠ k) (ha:la ≠ l) (hz:vs.length + us.length ≤ sizeLine) (he:e ≠ h)
   (q:∀ σ',σ' = (σ.set k (.list (vs ++ us))).set l (.inst "Frame" (frF (Pt.many p).v i t e k)) → Q (.tup [.tup [p.v,.int e],.none]) σ') :
   CallOk (T08 w s) (d + 2) X (.glob "of_many") [.ref l,.tup [.int e,.ref la]] Q σ:=by
 obtain ⟨C,hC⟩:=fr_cls (w:=w) (s:=s)
 refine CallOk.go TO rfl rfl ?_
 have hl:=(Zb.mp h1).1
 refine Cmp.notN (r:=false) rfl <| Cmp.isN (r:=false) rfl <| AttrOk.of h1 rfl rfl hC.cls hC.here <| Br.f (by simp; lia) <| SetAttrOk.of (frF (Pt.many p).v i t e k) h1 hC.cls hC.here (by simp [frF]) rfl ?_
 have g1:(σ.set l (.inst "Frame" (frF (Pt.many p).v i t e k)))[l]? = some (.inst "Frame" (frF (Pt.many p).v i t e k)):=Zw hl
 have g2:(σ.set l (.inst "Frame" (frF (Pt.many p).v i t e k)))[k]? = some (.list vs):=by rw [Zi hk]; exact h2
 have g3:(σ.set l (.inst "Frame" (frF (Pt.many p).v i t e k)))[la]? = some (.list us):=by rw [Zi (Ne.symm ha)]; exact h3
 have e3:(σ.set l (.inst "Frame" (frF (Pt.many p).v i t e k))).set k (.list (vs ++ us)) = (σ.set k (.list (vs ++ us))).set l (.inst "Frame" (frF (Pt.many p).v i t e k)):=List.set_comm _ _ hk
 generalize σ.set l (.inst "Frame" (frF (Pt.many p).v i t e k)) = σ₁ at g1 g2 g3 e3
 refine AttrOk.of g1 rfl rfl hC.cls hC.kids <| MethOk.extend g2 <| Cal.mk <| CallOk.extend g2 g3 hz ?_
 have g4:(σ₁.set k (.list (vs ++ us)))[l]? = some (.inst "Frame" (frF (Pt.many p).v i t e k)):=by rw [Zi (Ne.symm hk)]; exact g1
 rw [e3] at g4 ⊢
 generalize hσ:(σ.set k (.list (vs ++ us))).set l (.inst "Frame" (frF (Pt.many p).v i t e k)) = σ₂ at g4
 exact AttrOk.of g4 rfl rfl hC.cls hC.piece <| AttrOk.of g4 rfl rfl hC.cls hC.here <| q _ hσ.symm
theorem nt_none (TO:TopOk (T08 w s)) {p:Pt} {i t h l k:Nat} (h1:σ[l]? = some (.inst "Frame" (frF (Pt.nt p).v i t h k))) (q:Q (.tup [.tup [p.v,.int i],.none]) σ):CallOk (T08 w s) (d + 2) X (.glob "of_not") [.ref l,.none] Q σ:=by
 obtain ⟨C,hC⟩:=fr_cls (w:=w) (s:=s)
 refine CallOk.go TO rfl rfl ?_
 exact Cmp.isN (r:=true) rfl <| AttrOk.of h1 rfl rfl hC.cls hC.piece <| AttrOk.of h1 rfl rfl hC.cls hC.place q
theorem nt_no (TO:TopOk (T08 w s)) {p:Pt} {i t h l k la:Nat} (h1:σ[l]? = some (.inst "Frame" (frF (Pt.nt p).v i t h k))) (q:Q (.tup [.none,.tup [.int i,.ref σ.length]]) (σ ++ [.list []])):CallOk (T08 w s) (d + 2) X (.glob "of_not") [.ref l,.tup [.none,.ref la]] Q σ:=by
 obtain ⟨C,hC⟩:=fr_cls (w:=w) (s:=s)
 refine CallOk.go TO rfl rfl ?_
 exact Cmp.isN (r:=false) rfl <| Cmp.isN (r:=true) rfl <| AttrOk.of h1 rfl rfl hC.cls hC.place q
theorem nt_yes (TO:TopOk (T08 w s)) {l la e:Nat} (q:Q (.tup [.none,.tup [.none,.ref σ.length]]) (σ ++ [.list []])):CallOk (T08 w s) (d + 2) X (.glob "of_not") [.ref l,.tup [.int e,.ref la]] Q σ:=by
 refine CallOk.go TO rfl rfl ?_
 exact Cmp.isN (r:=false) rfl <| Cmp.isN (r:=false) rfl q
end
section
variable {w:World} {s:Shared} {d:Nat} {X:QX} {Q:QE} {σ:Hp}
structure MmCls (T:Tp) (C:Addr):Prop where
 cls:ClsAt T "Memory" C
 kept:FldAt T C "kept"
 order:FldAt T C "order"
 look:MetAt T C "look"
 known:MetAt T C "known"
 begun:MetAt T C "begin"
 ended:MetAt T C "ended"
theorem mm_cls:∃ C,MmCls (T08 w s) C:=⟨_,⟨rfl,rfl,rfl,rfl,rfl,rfl⟩,⟨rfl,rfl⟩,⟨rfl,rfl⟩,⟨_,rfl,rfl,rfl⟩,⟨_,rfl,rfl,rfl⟩,⟨_,rfl,rfl,rfl⟩,⟨_,rfl,rfl,rfl⟩⟩
noncomputable def mmF (a b:Nat):List (Str × V):=[("kept",.ref a),("order",.ref b)]
noncomputable def prV (n:Str) (i:Int):V:=.tup [.str n,.int i]
theorem fn_memory (TO:TopOk (T08 w s)) (q:Q (.ref σ.length) (σ ++ [.inst "Memory" (mmF (σ.length + 1) (σ.length + 2)),.tdict [],.list []])):CallOk (T08 w s) (d + 3) X (.glob "Memory") [] Q σ:=by
 obtain ⟨C,hC⟩:=mm_cls (w:=w) (s:=s)
 refine CallOk.retag <| CallOk.make TO rfl rfl rfl rfl <| CodeOk.goM TO rfl rfl ?_
 refine SetAttrOk.to [("kept",.ref (σ ++ [MObj.inst "Memory" []]).length)] (get_up get_new) hC.cls hC.kept (by simp) rfl (σ':=σ ++ [.inst "Memory" [("kept",.ref (σ.length + 1))],.sdict []]) (by rw [set_end2,Zf]; rfl) ?_
 exact SetAttrOk.to (mmF (σ.length + 1) (σ ++ [MObj.inst "Memory" [("kept",.ref (σ.length + 1))],.sdict []]).length) (get_up get0) hC.cls hC.order (by simp) rfl (σ':=σ ++ [.inst "Memory" (mmF (σ.length + 1) (σ.length + 2)),.sdict [],.list []]) (by rw [Ze,Zf]; exact set0) ⟨rfl,σ.length + 1,get1,by rw [set1]; exact q⟩
theorem fn_look (TO:TopOk (T08 w s)) {v:V} (q:Q .none σ):CallOk (T08 w s) (d + 1) X (.mth "Memory" "look") [v] Q σ:=by
 refine CallOk.goM TO rfl rfl ?_
 exact q
theorem fn_begin (TO:TopOk (T08 w s)) {m a b:Nat} {os:List V} {n:Str} {i:Int} (h1:σ[m]? = some (.inst "Memory" (mmF a b))) (h2:σ[b]? = some (.list os)) (hz:os.length ≤ sizeLine) (q:Q .none (σ.set b (.list (os ++ [prV n i])))):CallOk (T08 w s) (d + 2) X (.mth "Memory" "begin") [.ref m,.str n,.int i] Q σ:=by
 obtain ⟨C,hC⟩:=mm_cls (w:=w) (s:=s)
 refine CallOk.goM TO rfl rfl ?_
 exact AttrOk.of h1 rfl rfl hC.cls hC.order <| MethOk.append h2 <| Cal.mk <| CallOk.append h2 hz q
theorem fn_known (TO:TopOk (T08 w s)) {m a b:Nat} {kvs:List ((Str × Int) × V)} {n:Str} {i:Int} (h1:σ[m]? = some (.inst "Memory" (mmF a b))) (h2:σ[a]? = some (.tdict kvs))
   (q0:kvs.find? (fun kv => kv.1 = (n,i)) = none → Q .none σ)
   (q1:∀ v,(kvs.find? fun kv => kv.1 = (n,i)).map (·.2) = some v → (∃ l,v = .tup [.none,.ref l] ∧ Q (.tup [.none,.ref σ.length]) (σ ++ [.list []])) ∨ ∃ e l,v = .tup [.int e,.ref l] ∧ Q (.tup [.int e,.ref σ.length]) (σ ++ [.list [prV n i]])) :
   CallOk (T08 w s) (d + 2) X (.mth "Memory" "known") [.ref m,.str n,.int i] Q σ:=by
 obtain ⟨C,hC⟩:=mm_cls (w:=w) (s:=s)
 refine CallOk.goM TO rfl rfl ?_
 refine AttrOk.of h1 rfl rfl hC.cls hC.kept <| Cmp.pairs (neg:=true) (k:=(n,i)) h2 ?_
 cases hf:kvs.find? (fun kv => kv.1 = (n,i)) with
 | none =>
   refine Br.t ?_ (q0 hf)
   simp only [Bool.true_bne,Bool.not_eq_true',List.any_eq_false]
   exact List.find?_eq_none.mp hf
 | some p =>
   have hm:(kvs.find? fun kv => kv.1 = (n,i)).map (·.2) = some p.2:=by rw [hf]; rfl
   refine Br.f ?_ ?_
   · simp only [Bool.true_bne,Bool.not_eq_false',List.any_eq_true]
     have:=List.find?_some hf
     exact ⟨p,List.mem_of_find?_eq_some hf,this⟩
   rcases q1 _ hm with ⟨l,e,q⟩ | ⟨x,l,e,q⟩
   · rw [e] at hm
     exact AttrOk.of h1 rfl rfl hC.cls hC.kept <| Itm.pair (k:=(n,i)) h2 hm <| Cmp.isN (r:=true) rfl q
   · rw [e] at hm
     exact AttrOk.of h1 rfl rfl hC.cls hC.kept <| Itm.pair (k:=(n,i)) h2 hm <| Cmp.isN (r:=false) rfl <| AttrOk.of h1 rfl rfl hC.cls hC.kept <| Itm.pair (k:=(n,i)) h2 hm q
theorem setTK_get {kvs:List ((Str × Int) × V)} {k:Str × Int} {v:V}:((setTK kvs k v).find? fun kv => kv.1 = k).map (·.2) = some v:=by
 unfold setTK
 split
 · rename_i h
   induction kvs with
   | nil => cases h
   | cons p r ih =>
     by_cases hp:p.1 = k
     · simp [hp]
     · simp only [List.any_cons,hp,decide_false,Bool.false_or] at h
       simp only [List.map_cons,hp,if_false,List.find?_cons,decide_false]
       exact ih h
 · rename_i h
   rw [List.find?_append,List.find?_eq_none.mpr (fun x hx hk => h (List.any_eq_true.mpr ⟨x,hx,hk⟩))]
   simp
theorem fn_ended (TO:TopOk (T08 w s)) {m a b la:Nat} {kvs:List ((Str × Int) × V)} {n:Str} {i:Int} {ev:V} {us:List V} (h1:σ[m]? = some (.inst "Memory" (mmF a b))) (h2:σ[a]? = some (.tdict kvs)) (h3:σ[la]? = some (.list us)) (hm:m ≠ a) (hz:kvs.length ≤ sizeLine) (hu:us.length ≤ sizeLine)
   (q:∀ σ₁,σ₁ = (σ ++ [MObj.list us]).set a (.tdict (setTK kvs (n,i) (.tup [ev,.ref σ.length]))) → (ev = .none ∧ Q (.tup [.none,.ref σ₁.length]) (σ₁ ++ [.list []])) ∨ ∃ e,ev = .int e ∧ Q (.tup [.int e,.ref σ₁.length]) (σ₁ ++ [.list [prV n i]])) :
   CallOk (T08 w s) (d + 3) X (.mth "Memory" "ended") [.ref m,.str n,.int i,.tup [ev,.ref la]] Q σ:=by
 obtain ⟨C,hC⟩:=mm_cls (w:=w) (s:=s)
 refine CallOk.goM TO rfl rfl ?_
 refine Cal.list (vs:=us) (seq_list h3) hu <| AttrOk.of (get_up h1) rfl rfl hC.cls hC.kept <| SetItemOk.pair (k:=(n,i)) (get_up h2) hz ?_
 have g1:((σ ++ [MObj.list us]).set a (.tdict (setTK kvs (n,i) (.tup [ev,.ref σ.length]))))[m]? = some (.inst "Memory" (mmF a b)):=by rw [Zi (Ne.symm hm)]; exact get_up h1
 have g2:((σ ++ [MObj.list us]).set a (.tdict (setTK kvs (n,i) (.tup [ev,.ref σ.length]))))[a]? = some (.tdict (setTK kvs (n,i) (.tup [ev,.ref σ.length]))):=Zw (by rw [Zf]; exact Nat.lt_add_right _ (Zb.mp h2).1)
 replace q:=q _ rfl
 generalize (σ ++ [MObj.list us]).set a (.tdict (setTK kvs (n,i) (.tup [ev,.ref σ.length]))) = σ₁ at g1 g2 q
 refine MethOk.own g1 rfl hC.cls hC.known <| Cal.mk <| fn_known (d:=d) TO g1 g2 (fun h => ?_) fun v hv => ?_
 · have:=setTK_get (kvs:=kvs) (k:=(n,i)) (v:=.tup [ev,.ref σ.length])
   rw [h] at this; cases this
 · rw [setTK_get] at hv
   cases hv
   rcases q with ⟨rfl,q5⟩ | ⟨e,rfl,q5⟩
   · exact .inl ⟨_,rfl,q5⟩
   · exact .inr ⟨e,_,rfl,q5⟩
end
section
variable {w:World} {s:Shared} {d:Nat} {X:QX} {Q:QE} {σ:Hp}
set_option tactic.hygienic true in
theorem fn_takes (TO:TopOk (T08 w s)) {p:Pt} {c:Nat} (hp:p.isLf = true) (q:Q (.bool (p.takesC c)) σ):CallOk (T08 w s) (d + 2) X (.glob "takes") [p.v,.str ⟨#[c]⟩] Q σ:=by
 refine CallOk.go TO rfl rfl ?_
 cases p <;> first | cases hp | skip
 · simp only [Pt.takesC2] at q
   rw [← beq_ch] at q
   exact q
 · rename_i a b
   refine Cal.ord <| Cal.ord <| Br.mk (fun h1 => Cal.ord ?_) fun h1 => ?_
   · simp only [Pt.takesC3] at q
     have:a ≤ c:=by simpa using h1
     rw [Zmb this,Bool.true_and] at q
     show Q (.bool (decide ((c:Int) ≤ (b:Int)))) σ
     rw [show decide ((c:Int) ≤ (b:Int)) = decide (c ≤ b) by simp]; exact q
   · simp only [Pt.takesC3] at q
     have:¬ a ≤ c:=by simpa using h1
     rw [decide_eq_false this] at q
     exact q
 · exact q
theorem Itm.strN {cs:List Nat} {j c:Nat} (hj:cs[j]? = some c) (hb:cs.length < 100000) (q:Q (.str ⟨#[c]⟩) σ):Itm (.str (S cs)) (.int j) Q σ:=by
 have hl:=(Zb.mp hj).1
 refine ⟨_,.str _ _ c ?_ ⟨by exact Int.NonNeg.mk (j + Nat.succ 9223372036854775807),by lia⟩,q⟩
 have e:seqIndex? (j:Int) (S cs).length = some j:=by
   unfold seqIndex?
   simp only [show ¬ ((j:Int) < 0) by lia,if_false]
   rw [if_pos (by simp only [Zob,decide_eq_true_eq]; have:(S cs).length = cs.length:=by simp [S,Str.length]
                  lia)]
   simp
 rw [e]
 show (cs.toArray)[j]? = some c
 simpa using hj
theorem hand_v (p:Pt):handV p.v = true:=by cases p <;> rfl
theorem lt_of {i n:Nat} (h:decide ((i:Int) < n) = true):i < n:=Zfb.mp (Zgb h)
theorem ge_of {i n:Nat} (h:decide ((i:Int) < n) = false):n ≤ i:=Nat.le_of_not_lt fun g => of_decide_eq_false h (Zfb.mpr g)
theorem sign_go (TO:TopOk (T08 w s)) {ok:Prop} {f:V} {σ₁:Hp} {p:Pt} {i t h l k m:Nat} {cs:List Nat} (hp:p.isLf = true) (hM:∀ {K:V → Prop},K f → MethOk (T08 w s) (.ref m) "look" σ K) (hlook:∀ {Q':QE},(ok → Q' .none σ₁) → CallOk (T08 w s) (d + 2) X f [.ref m] Q' σ) (h1:ok → σ₁[l]? = some (.inst "Frame" (frF p.v i t h k))) (hc:cs.length < 100000)
   (q1:ok → ∀ c,cs[i]? = some c → p.takesC c = true → Q (.tup [.none,.tup [.int (i + 1:Nat),.ref σ₁.length]]) (σ₁ ++ [.list []]))
   (q2:ok → (∀ c,cs[i]? = some c → p.takesC c = false) → Q (.tup [.none,.tup [.none,.ref σ₁.length]]) (σ₁ ++ [.list []])) :
   CallOk (T08 w s) (d + 3) X (.glob "of_sign") [.ref l,.str (S cs),.ref m] Q σ:=by
 obtain ⟨C,hC⟩:=fr_cls (w:=w) (s:=s)
 refine CallOk.go TO rfl rfl ?_
 refine hM <| Cal.mk <| hlook fun ho => AttrOk.of (h1 ho) rfl rfl hC.cls hC.place <| Cal.len (n:=cs.length) (len_str_ (S_length cs)) (Nat.lt_trans hc (by decide)) <| Br.mk (fun h2 => ?_) fun h2 => q2 ho fun c hc' => ?_
 · have hg:=Zp (lt_of h2)
   exact AttrOk.of (h1 ho) rfl (hand_v p) hC.cls hC.piece <| Itm.strN hg hc <| Cal.mk <| fn_takes TO hp <| Br.mk (fun h3 => q1 ho _ hg h3) fun h3 => q2 ho fun c hc' => Zab (hg.symm.trans hc') ▸ h3
 · exact absurd (Zb.mp hc').1 (Zo.mpr (ge_of h2))
inductive GrT (rs:List (Str × Pt)) (g b:Nat) (σ:Hp):Prop where
 | mk (a c e:Nat) (h1:σ[g]? = some (.inst "Grammar" [("pairs",.ref a),("table",.ref b),("bare",.ref c),("leads",.ref e)])) (h2:σ[b]? = some (.sdict (tabKV rs))):GrT rs g b σ
theorem GrAt.t {rs:List (Str × Pt)} {bs:List Str} {g:Nat} (h:GrAt rs bs g σ):∃ b,GrT rs g b σ:=by
 obtain ⟨a,b,c,e,kl,h1,h2,h3,h4,h5,h6,h7,h8,h9,h10⟩:=h
 exact ⟨b,a,c,e,h5,h7⟩
theorem GrT.keep {rs:List (Str × Pt)} {g b:Nat} {σ':Hp} {A A':List Nat} (h:GrT rs g b σ) (o:On σ A σ' A') (hg:g ∉ A) (hb:b ∉ A):GrT rs g b σ':=by
 obtain ⟨a,c,e,h1,h2⟩:=h
 exact ⟨a,c,e,o.keep _ _ h1 hg,o.keep _ _ h2 hb⟩
variable {rs:List (Str × Pt)} {g gb:Nat}
theorem fn_needT (TO:TopOk (T08 w s)) (hG:GrT rs g gb σ) {x:Str} (q:x ∈ rs.map (·.1) → Q .none σ) (qx:x ∉ rs.map (·.1) → False):CallOk (T08 w s) (d + 1) X (.mth "Grammar" "need") [.ref g,.str x] Q σ:=by
 obtain ⟨C,hC⟩:=gr_cls (w:=w) (s:=s)
 obtain ⟨a,c,e,h5,h7⟩:=hG
 refine CallOk.goM TO rfl rfl ?_
 refine AttrOk.of h5 rfl rfl hC.cls hC.table <| Cmp.ninD h7 tabKV_any ?_
 refine Br.mk (fun h => False.elim (qx (by simpa using h))) fun h => q (by simpa using h)
theorem fn_partT (TO:TopOk (T08 w s)) (hn:(rs.map (·.1)).Nodup) (hG:GrT rs g gb σ) {x:Str} (q:∀ r ∈ rs,r.1 = x → Q r.2.v σ) (qx:x ∉ rs.map (·.1) → False):CallOk (T08 w s) (d + 2) X (.mth "Grammar" "part") [.ref g,.str x] Q σ:=by
 obtain ⟨C,hC⟩:=gr_cls (w:=w) (s:=s)
 have hG':=hG
 obtain ⟨a,c,e,h5,h7⟩:=hG
 refine CallOk.goM TO rfl rfl ?_
 refine MethOk.own h5 rfl hC.cls hC.need <| Cal.mk <| fn_needT TO hG' (fun hx => ?_) qx
 obtain ⟨r,hr,rfl⟩:=Zsb.mp hx
 exact AttrOk.of h5 rfl rfl hC.cls hC.table <| Itm.dict h7 (tabKV_get hn hr) (q r hr rfl)
theorem rule_ans (TO:TopOk (T08 w s)) {n:Str} {i t h l k m a b la:Nat} {gv:V} {kvs:List ((Str × Int) × V)} {ev:V} {us:List V} (h0:σ[l]? = some (.inst "Frame" (frF (Pt.rule n).v i t h k))) (h1:σ[m]? = some (.inst "Memory" (mmF a b))) (h2:σ[a]? = some (.tdict kvs)) (h3:σ[la]? = some (.list us)) (hm:m ≠ a) (hz:kvs.length ≤ sizeLine) (hu:us.length ≤ sizeLine)
   (q:∀ σ₁,σ₁ = (σ ++ [MObj.list us]).set a (.tdict (setTK kvs (n,i) (.tup [ev,.ref σ.length]))) → (ev = .none ∧ Q (.tup [.none,.tup [.none,.ref σ₁.length]]) (σ₁ ++ [.list []])) ∨ ∃ e,ev = .int e ∧ Q (.tup [.none,.tup [.int e,.ref σ₁.length]]) (σ₁ ++ [.list [prV n i]])) :
   CallOk (T08 w s) (d + 4) X (.glob "of_rule") [.ref l,.tup [ev,.ref la],gv,.ref m] Q σ:=by
 obtain ⟨C,hC⟩:=fr_cls (w:=w) (s:=s)
 obtain ⟨M,hM⟩:=mm_cls (w:=w) (s:=s)
 refine CallOk.go TO rfl rfl ?_
 exact AttrOk.of h0 rfl rfl hC.cls hC.piece <| Cmp.notN (r:=false) rfl <| MethOk.own h1 rfl hM.cls hM.ended <| AttrOk.of h0 rfl rfl hC.cls hC.place <| Cal.mk <| fn_ended (d:=d) TO h1 h2 h3 hm hz hu q
theorem rule_none (TO:TopOk (T08 w s)) (hn:(rs.map (·.1)).Nodup) {n:Str} {i t h l k m a b:Nat} {kvs:List ((Str × Int) × V)} {os:List V} (h0:σ[l]? = some (.inst "Frame" (frF (Pt.rule n).v i t h k))) (h1:σ[m]? = some (.inst "Memory" (mmF a b))) (h2:σ[a]? = some (.tdict kvs)) (h3:σ[b]? = some (.list os)) (hz:os.length ≤ sizeLine)
   (hG:GrT rs g gb (σ.set b (.list (os ++ [prV n i])))) (hb:b ≠ l)
   (q0:kvs.find? (fun kv => kv.1 = (n,(i:Int))) = none → ∀ r ∈ rs,r.1 = n → Q (.tup [.tup [r.2.v,.int i],.none]) (σ.set b (.list (os ++ [prV n i]))))
   (qx:n ∈ rs.map (·.1))
   (q1:∀ v,(kvs.find? fun kv => kv.1 = (n,(i:Int))).map (·.2) = some v → (∃ l,v = .tup [.none,.ref l] ∧ Q (.tup [.none,.tup [.none,.ref σ.length]]) (σ ++ [.list []])) ∨ ∃ e l,v = .tup [.int e,.ref l] ∧ Q (.tup [.none,.tup [.int e,.ref σ.length]]) (σ ++ [.list [prV n i]])) :
   CallOk (T08 w s) (d + 4) X (.glob "of_rule") [.ref l,.none,.ref g,.ref m] Q σ:=by
 obtain ⟨C,hC⟩:=fr_cls (w:=w) (s:=s)
 obtain ⟨M,hM⟩:=mm_cls (w:=w) (s:=s)
 obtain ⟨G,hGc⟩:=gr_cls (w:=w) (s:=s)
 refine CallOk.go TO rfl rfl ?_
 refine AttrOk.of h0 rfl rfl hC.cls hC.piece <| Cmp.notN (r:=true) rfl <| MethOk.own h1 rfl hM.cls hM.known <| AttrOk.of h0 rfl rfl hC.cls hC.place <| Cal.mk <| fn_known (d:=d + 1) TO h1 h2 (fun hf => ?_) fun v hv => ?_
 · have g0:(σ.set b (.list (os ++ [prV n i])))[l]? = some (.inst "Frame" (frF (Pt.rule n).v i t h k)):=by rw [Zi hb]; exact h0
   refine Cmp.notN (r:=true) rfl <| MethOk.own h1 rfl hM.cls hM.begun <| AttrOk.of h0 rfl rfl hC.cls hC.place <| Cal.mk <| fn_begin (d:=d + 1) TO h1 h3 hz ?_
   have hG2:=hG
   obtain ⟨ga,gc,ge,h5,h7⟩:=hG
   refine MethOk.own h5 rfl hGc.cls hGc.part <| Cal.mk <| fn_partT (d:=d + 1) TO hn hG2 (fun r hr e => ?_) fun h => absurd qx h
   exact AttrOk.of g0 rfl rfl hC.cls hC.place <| q0 hf r hr e
 · rcases q1 v hv with ⟨l',e,q⟩ | ⟨x,l',e,q⟩
   · exact .inl ⟨l',e,Cmp.notN (r:=false) rfl q⟩
   · exact .inr ⟨x,l',e,Cmp.notN (r:=false) rfl q⟩
end
section
variable {w:World} {s:Shared} {d:Nat} {X:QX} {Q:QE} {σ:Hp} {β κ:Type} {B:Bk β κ} {R:BRep β κ} {G:Str → Pt}
noncomputable def PcOk (ns:List Str) (p:Pt):Prop:=Pt.All Pt.few p ∧ ∀ n,p.Asks n → n ∈ ns
theorem PcOk.kid {ns:List Str} {p q:Pt} (h:PcOk ns p) (hq:q ∈ p.kids):PcOk ns q:=by
 obtain ⟨⟨zz,h1⟩,h2⟩:=h
 exact ⟨h1 q hq,fun n hn => h2 n (.deep hq hn)⟩
noncomputable def partOf (rs:List (Str × Pt)) (n:Str):Pt:=((rs.find? fun r => r.1 = n).map (·.2)).getD .any
theorem partOf_eq {rs:List (Str × Pt)} (hn:(rs.map (·.1)).Nodup) {r:Str × Pt} (hr:r ∈ rs):partOf rs r.1 = r.2:=by
 unfold partOf
 induction rs with
 | nil => cases hr
 | cons x xs ih =>
   rw [List.map_cons,List.nodup_cons] at hn
   rw [List.find?_cons]
   by_cases hx:x.1 = r.1
   · rcases Zg.mp hr with rfl | hr
     · simp
     · exact absurd (Zsb.mpr ⟨r,hr,hx.symm⟩) hn.1
   · rcases Zg.mp hr with rfl | hr
     · exact absurd rfl hx
     · rw [decide_eq_false hx]; exact ih hn.2 hr
noncomputable def Fr.wait (f:Fr κ):Prop:=match f.piece with
 | .row ps | .alt ps => f.turn < ps.length
 | z1 => True
theorem On.put2 {A:List Nat} {k l:Nat} {x y:MObj} (hk:k ∈ A) (hl:l ∈ A):On σ A ((σ.set k x).set l y) A:=(On.put hk).trans (On.put hl) (by simp)
theorem less_on {τ:Hp} {A:List Nat} {l k:Nat}:On τ (l :: k :: A) τ A:=.less fun x hx => Zd _ (Zd _ hx)
inductive StepR (R:BRep β κ) (σ':Hp) (A:List Nat) (l k:Nat):Out β κ → V → Prop where
 | push {f:Fr κ} {p:Pt} {i:Nat} {b':β} (h1:FrAt R.K σ' (l :: k :: A) f l k) (h2:R.is σ' (l :: k :: A) b'):StepR R σ' A l k (.push f p i b') (.tup [.tup [p.v,.int i],.none])
 | pop {an:An κ} {b':β} {av:V} (h1:AnAt R.K σ' A an av) (h2:R.is σ' A b'):StepR R σ' A l k (.pop an b') (.tup [.none,av])
structure Rdy (B:Bk β κ) (R:BRep β κ) (σ:Hp) (A:List Nat) (l k:Nat) (f:Fr κ) (b:β) (an:Option (An κ)) (av:V):Prop where
 fr:FrAt R.K σ (l :: k :: A) f l k
 bk:R.is σ (l :: k :: A) b
 ans:AnO R.K σ (l :: k :: A) an av
 few:FewS B f an b
 hk:k ∉ A
 hl:l ∉ A
 own:∀ x ∈ R.own,x ∈ A
 hA:∀ x ∈ A,x < σ.length
structure StepQ (B:Bk β κ) (R:BRep β κ) (G:Str → Pt) (cs:List Nat) (σ:Hp) (A:List Nat) (l k:Nat) (f:Fr κ) (b:β) (an:Option (An κ)) (Q:QE) (X:QX):Prop where
 q:∀ v σ',On σ (l :: k :: R.own) σ' (l :: k :: R.own) → σ.length ≤ σ'.length → StepR R σ' A l k (stepOf G cs B f an b) v → Q v σ'
 x:∀ σ',On σ (l :: k :: R.own) σ' (l :: k :: R.own) → σ.length ≤ σ'.length → stepOf G cs B f an b = .stop → X "TooLong" σ'
variable {cs:List Nat} {A:List Nat} {i t h l k:Nat} {ks:List κ} {b:β} {an:Option (An κ)} {av:V}
theorem StepQ.to {f:Fr κ} {o:Out β κ} {v:V} {σ':Hp} (q:StepQ B R G cs σ A l k f b an Q X) (e:stepOf G cs B f an b = o) (on:On σ (l :: k :: R.own) σ' (l :: k :: R.own)) (hl:σ.length ≤ σ'.length) (h:StepR R σ' A l k o v):Q v σ':=q.q v σ' on hl (e ▸ h)
theorem Rdy.fresh {f:Fr κ} (r:Rdy B R σ A l k f b an av) {e:Option Nat}:AnAt R.K (σ ++ [.list []]) A (e,[]) (.tup [endV e,.ref σ.length]):=⟨σ.length,[],rfl,fun hx => Zub _ (r.hA _ hx),get_new,rfl⟩
theorem Rdy.lk {f:Fr κ} (r:Rdy B R σ A l k f b an av):l ≠ k:=by
 obtain ⟨vs,f1,f2,f3⟩:=r.fr
 exact fun e => by rw [e,f2] at f1; cases f1
theorem Rdy.bkU {f:Fr κ} (r:Rdy B R σ A l k f b an av) {x:MObj}:R.is (σ ++ [x]) A b:=(R.keep r.bk .up fun x hx => Zbb (r.hA x (r.own x hx))) |> fun h => R.keep h less_on fun zz zz => rfl
theorem Rdy.bkA {f:Fr κ} (r:Rdy B R σ A l k f b an av):R.is σ A b:=R.keep r.bk less_on fun zz zz => rfl
theorem Rdy.bkP {f:Fr κ} (r:Rdy B R σ A l k f b an av) {x y:MObj}:R.is ((σ.set k x).set l y) (l :: k :: A) b:=R.keep r.bk (.put2 (by simp) (by simp)) fun z hz => by
 have h1:=r.own z hz
 rw [Zi (fun e:l = z => r.hl (e ▸ h1)),Zi (fun e:k = z => r.hk (e ▸ h1))]
theorem Rdy.sz {f:Fr κ} {e:Option Nat} {us:List κ} {la:Nat} {vs us':List V} (r:Rdy B R σ A l k f b (some (e,us)) av) (h1:KRs R.K σ (l :: k :: A) f.kids vs) (h2:KRs R.K σ (l :: k :: A) us us'):vs.length + us'.length ≤ sizeLine:=by
 have e1:=r.few.1
 have e2:us.length ≤ 5000000:=r.few.2.1 _ rfl
 rw [h1.length,h2.length]
 exact szo (by lia)
theorem fn_row (TO:TopOk (T08 w s)) {ps:List Pt} (r:Rdy B R σ A l k ⟨.row ps,i,t,h,ks⟩ b an av) (hp:ps.length < 1000) (hw:an ≠ none → t < ps.length) (hw0:t ≤ ps.length) (q:StepQ B R G cs σ A l k ⟨.row ps,i,t,h,ks⟩ b an Q X) :
   CallOk (T08 w s) (d + 2) X (.glob "of_row") [.ref l,av] Q σ:=by
 obtain ⟨vs,f1,f2,f3⟩:=r.fr
 have han:=r.ans
 rcases an with zz | ⟨zz | e,us⟩
 · cases han
   refine row_none TO f1 hp (fun hn => ?_) (fun p hp' => ?_) hw0
   · refine q.to (o:=.pop (some h,ks) b) ?_ .refl (Zl _) (.pop ⟨k,vs,rfl,r.hk,f2,f3.keep less_on⟩ r.bkA)
     simp only [stepOf,rowOut,hn]
   · refine q.to (o:=.push ⟨.row ps,i,t,h,ks⟩ p h b) ?_ .refl (Zl _) (.push r.fr r.bk)
     simp only [stepOf,rowOut,hp']
 · obtain ⟨la,us',rfl,h1,h2,h3⟩:=han
   exact row_no TO (q.to (o:=.pop (none,[]) b) rfl .up (by simp) (.pop r.fresh r.bkU))
 · obtain ⟨la,us',rfl,h1,h2,h3⟩:=han
   have on:∀ {x y:MObj},On σ (l :: k :: R.own) ((σ.set k x).set l y) (l :: k :: R.own):=.put2 (by simp) (by simp)
   have fr:∀ {x:Nat},FrAt R.K ((σ.set k (.list (vs ++ us'))).set l (.inst "Frame" (frF (Pt.row ps).v i (x:Nat) e k))) (l :: k :: A) ⟨.row ps,i,x,e,ks ++ us⟩ l k:=fun {x} => by
     refine ⟨vs ++ us',Zw (by simp; exact (Zb.mp f1).1),?_,(f3.append h3).keep (.put2 (by simp) (by simp))⟩
     rw [Zi r.lk,Zw (Zb.mp f2).1]
   refine row_yes TO f1 f2 h2 r.lk (fun e => h1 (by simp [e])) hp (r.sz (la:=la) f3 h3) (fun σ' e' hn => ?_) (fun σ' e' p hp' => ?_) (hw (by simp))
   · subst e'
     obtain ⟨vs',g1,g2,g3⟩:=fr (x:=t + 1)
     refine q.to (o:=.pop (some e,ks ++ us) b) ?_ on (by simp) (.pop ⟨k,vs',rfl,r.hk,g2,g3.keep less_on⟩ (R.keep r.bkP less_on fun zz zz => rfl))
     simp only [stepOf,rowOut,Fr.on,Fr.nxt,hn]
   · subst e'
     refine q.to (o:=.push ⟨.row ps,i,t + 1,e,ks ++ us⟩ p e b) ?_ on (by simp) (.push fr r.bkP)
     simp only [stepOf,rowOut,Fr.on,Fr.nxt,hp']
theorem fn_alt (TO:TopOk (T08 w s)) {ps:List Pt} (r:Rdy B R σ A l k ⟨.alt ps,i,t,h,ks⟩ b an av) (hp:ps.length < 1000) (hw:an ≠ none → t < ps.length) (hw0:t ≤ ps.length) (q:StepQ B R G cs σ A l k ⟨.alt ps,i,t,h,ks⟩ b an Q X) :
   CallOk (T08 w s) (d + 2) X (.glob "of_choice") [.ref l,av] Q σ:=by
 obtain ⟨vs,f1,f2,f3⟩:=r.fr
 have han:=r.ans
 rcases an with zz | ⟨zz | e,us⟩
 · cases han
   refine alt_none TO f1 hp (fun hn => ?_) (fun p hp' => ?_) hw0
   · refine q.to (o:=.pop (none,[]) b) ?_ .up (by simp) (.pop r.fresh r.bkU)
     simp only [stepOf,altOut,hn]
   · refine q.to (o:=.push ⟨.alt ps,i,t,h,ks⟩ p i b) ?_ .refl (Zl _) (.push r.fr r.bk)
     simp only [stepOf,altOut,hp']
 rotate_left
 · obtain ⟨la,us',rfl,h1,h2,h3⟩:=han
   exact alt_yes TO (q.to (o:=.pop (some e,us) b) rfl .refl (Zl _) (.pop (AnAt.keep less_on ⟨la,us',rfl,h1,h2,h3⟩) r.bkA))
 · obtain ⟨la,us',rfl,h1,h2,h3⟩:=han
   have e0:∀ {o:MObj},σ.set l o = (σ.set k (.list vs)).set l o:=fun {o} => by
     congr 1
     apply List.ext_getElem?
     intro j
     by_cases hj:k = j
     · subst hj; rw [Zw (Zb.mp f2).1]; exact f2
     · rw [Zi hj]
   have on:∀ {y:MObj},On σ (l :: k :: R.own) (σ.set l y) (l :: k :: R.own):=.put (by simp)
   have fr:FrAt R.K (σ.set l (.inst "Frame" (frF (Pt.alt ps).v i (t + 1:Nat) h k))) (l :: k :: A) ⟨.alt ps,i,t + 1,h,ks⟩ l k :=
     ⟨vs,Zw (Zb.mp f1).1,by rw [Zi r.lk]; exact f2,f3.keep (.put (by simp))⟩
   have bk2:∀ {y:MObj},R.is (σ.set l y) (l :: k :: A) b:=fun {y} => by rw [e0]; exact r.bkP
   refine alt_no TO f1 hp (fun σ' e hn => ?_) (fun σ' e p hp' => ?_) (hw (by simp))
   · subst e
     refine q.to (o:=.pop (none,[]) b) ?_ (on.trans .up (by simp)) (by simp) (.pop ⟨_,[],rfl,fun hx => by have:=r.hA _ hx; simp at this,get_new,rfl⟩ (R.keep (R.keep bk2 .up fun x hx => Zbb (by rw [List.length_set]; exact r.hA x (r.own x hx))) less_on fun zz zz => rfl))
     simp only [stepOf,altOut,Fr.nxt,hn]
   · subst e
     refine q.to (o:=.push ⟨.alt ps,i,t + 1,h,ks⟩ p i b) ?_ on (by simp) (.push fr bk2)
     simp only [stepOf,altOut,Fr.nxt,hp']
theorem fn_nt (TO:TopOk (T08 w s)) {p:Pt} (r:Rdy B R σ A l k ⟨.nt p,i,t,h,ks⟩ b an av) (q:StepQ B R G cs σ A l k ⟨.nt p,i,t,h,ks⟩ b an Q X):CallOk (T08 w s) (d + 2) X (.glob "of_not") [.ref l,av] Q σ:=by
 obtain ⟨vs,f1,f2,f3⟩:=r.fr
 have han:=r.ans
 rcases an with zz | ⟨zz | e,us⟩
 · cases han
   exact nt_none TO f1 (q.to rfl .refl (Zl _) (.push r.fr r.bk))
 rotate_left
 · obtain ⟨la,us',rfl,h1,h2,h3⟩:=han
   exact nt_yes TO (q.to rfl .up (by simp) (.pop r.fresh r.bkU))
 · obtain ⟨la,us',rfl,h1,h2,h3⟩:=han
   exact nt_no TO f1 (q.to rfl .up (by simp) (.pop r.fresh r.bkU))
theorem fn_many (TO:TopOk (T08 w s)) {p:Pt} (r:Rdy B R σ A l k ⟨.many p,i,t,h,ks⟩ b an av) (q:StepQ B R G cs σ A l k ⟨.many p,i,t,h,ks⟩ b an Q X):CallOk (T08 w s) (d + 2) X (.glob "of_many") [.ref l,av] Q σ:=by
 obtain ⟨vs,f1,f2,f3⟩:=r.fr
 have han:=r.ans
 rcases an with zz | ⟨zz | e,us⟩
 · cases han
   exact many_none TO f1 (q.to rfl .refl (Zl _) (.push r.fr r.bk))
 · obtain ⟨la,us',rfl,h1,h2,h3⟩:=han
   exact many_no TO f1 (q.to rfl .refl (Zl _) (.pop ⟨k,vs,rfl,r.hk,f2,f3.keep less_on⟩ r.bkA))
 · obtain ⟨la,us',rfl,h1,h2,h3⟩:=han
   by_cases he:e = h
   · subst he
     refine many_same TO f1 (q.to (o:=.pop (some e,ks) b) ?_ .refl (Zl _) (.pop ⟨k,vs,rfl,r.hk,f2,f3.keep less_on⟩ r.bkA))
     simp only [stepOf,if_true]
   · refine many_yes TO f1 f2 h2 r.lk (fun e => h1 (by simp [e])) (r.sz (la:=la) f3 h3) he fun σ' e' => ?_
     subst e'
     refine q.to (o:=.push ⟨.many p,i,t,e,ks ++ us⟩ p e b) ?_ (.put2 (by simp) (by simp)) (by simp) (.push ⟨vs ++ us',Zw (by simp; exact (Zb.mp f1).1),?_,(f3.append h3).keep (.put2 (by simp) (by simp))⟩ r.bkP)
     · simp only [stepOf,he,if_false,Fr.on]
     · rw [Zi r.lk,Zw (Zb.mp f2).1]
end
section
variable {w:World} {s:Shared} {d:Nat} {X:QX} {Q:QE} {σ:Hp} {rs:List (Str × Pt)} {g gb:Nat}
variable {cs:List Nat} {A:List Nat} {i t h l k m a b:Nat} {ks:List Kid} {mem:Mm} {an:Option (An Kid)} {av:V}
inductive MmAt (σ:Hp) (A:List Nat) (m a b:Nat) (mem:Mm):Prop where
 | mk (kvs:List ((Str × Int) × V)) (h1:σ[m]? = some (.inst "Memory" (mmF a b))) (h2:σ[a]? = some (.tdict kvs)) (h3:σ[b]? = some (.list (mem.order.map pV'))) (h4:KeptR σ A mem.kept kvs):MmAt σ A m a b mem
theorem MmAt.use {P:Prop} {σ:Hp} {A:List Nat} {m a b:Nat} {mem:Mm} (h:MmAt σ A m a b mem) (c:∀ (kvs:List ((Str × Int) × V)),σ[m]? = some (.inst "Memory" (mmF a b)) → σ[a]? = some (.tdict kvs) → σ[b]? = some (.list (mem.order.map pV')) → KeptR σ A mem.kept kvs → P):P:=by
 obtain ⟨kvs,h1,h2,h3,h4⟩:=h
 exact c kvs h1 h2 h3 h4
theorem KeptR.got {P:Prop} {σ:Hp} {A:List Nat} {k:Kid} {e:Nat} {ks:List Kid} {xs:List (Kid × An Kid)} {kvs:List ((Str × Int) × V)} (h:KeptR σ A xs kvs) (hk:getM xs k = some (some e,ks)) (c:∀ la,(kvs.find? fun kv => kv.1 = (k.1,(k.2:Int))).map (·.2) = some (.tup [endV (some e),.ref la]) → la ∉ A → σ[la]? = some (.list (ks.map pV')) → P):P:=by
 rcases h.get (k:=k) with ⟨x1,zz⟩ | ⟨an2,v,x1,x2,la,vs,rfl,x3,x4,x5⟩
 · rw [hk] at x1; cases x1
 rw [hk] at x1; cases x1
 obtain rfl:=memKid_eq x5
 exact c la x2 x3 x4
noncomputable def memRep (m a b:Nat):BRep Mm Kid where
 K:=memKid
 own:=[m,a,b]
 is:=fun σ A mem => MmAt σ A m a b mem
 keep:=fun h o e => by
   obtain ⟨kvs,h1,h2,h3,h4⟩:=h
   exact ⟨kvs,(e m (by simp)).trans h1,(e a (by simp)).trans h2,(e b (by simp)).trans h3,h4.keep o⟩
theorem fn_sgn (TO:TopOk (T08 w s)) {p:Pt} (hp:p.isLf = true) (hc:cs.length < 100000) (r:Rdy memBk (memRep m a b) σ A l k ⟨p,i,t,h,ks⟩ mem an av) (q:StepQ memBk (memRep m a b) (partOf rs) cs σ A l k ⟨p,i,t,h,ks⟩ mem an Q X) :
   CallOk (T08 w s) (d + 3) X (.glob "of_sign") [.ref l,.str (S cs),.ref m] Q σ:=by
 obtain ⟨vs,f1,f2,f3⟩:=r.fr
 refine MmAt.use r.bk fun kvs h1 h2 h3 h4 => ?_
 obtain ⟨M,hM⟩:=mm_cls (w:=w) (s:=s)
 exact sign_go (ok:=True) (f:=.mth "Memory" "look") (σ₁:=σ) TO hp (fun k => MethOk.own h1 rfl hM.cls hM.look k) (fun q => fn_look (d:=d + 1) TO (q trivial)) (fun zz => f1) hc (fun zz c hc' ht => q.to (leaf_yes hp rfl hc' ht) .up (Zf ▸ Zy ..) (.pop r.fresh r.bkU)) fun zz hn => q.to (leaf_no hp rfl hn) .up (Zf ▸ Zy ..) (.pop r.fresh r.bkU)
structure MmNe (σ:Hp) (A:List Nat) (l k m a b:Nat):Prop where
 ma:m ≠ a
 ab:a ≠ b
 bm:b ≠ m
 bA:b ∈ A
 aA:a ∈ A
 bl:b ≠ l
 bk:b ≠ k
theorem Rdy.ne {f:Fr Kid} (r:Rdy memBk (memRep m a b) σ A l k f mem an av):MmNe σ A l k m a b:=MmAt.use r.bk fun kvs h1 h2 h3 h4 =>
 have bA:=r.own b (Zd _ (Zd _ (Zt ..)))
 ⟨(fun e => by rw [e,h2] at h1; cases h1),(fun e => by rw [e,h3] at h2; cases h2),(fun e => by rw [e,h1] at h3; cases h3),bA,r.own a (Zd _ (Zt ..)),fun e => r.hl (e ▸ bA),fun e => r.hk (e ▸ bA)⟩
theorem own_b:b ∈ l :: k :: (memRep m a b).own:=Zd _ (Zd _ (Zd _ (Zd _ (Zt ..))))
theorem own_a:a ∈ l :: k :: (memRep m a b).own:=Zd _ (Zd _ (Zd _ (Zt ..)))
theorem rul_new {n:Str} (r:Rdy memBk (memRep m a b) σ A l k ⟨.rule n,i,t,h,ks⟩ mem none av) (q:StepQ memBk (memRep m a b) (partOf rs) cs σ A l k ⟨.rule n,i,t,h,ks⟩ mem none Q X) (hn:(rs.map (·.1)).Nodup) {x:Str × Pt} (hx:x ∈ rs) (hxn:x.1 = n) (k0:getM mem.kept (n,i) = none):Q (.tup [.tup [x.2.v,.int i],.none]) (σ.set b (.list (mem.order.map pV' ++ [prV n i]))):=by
 subst hxn
 obtain ⟨vs,f1,f2,f3⟩:=r.fr
 refine MmAt.use r.bk fun kvs h1 h2 h3 h4 => ?_
 have ne:=r.ne
 have o:On σ (l :: k :: A) (σ.set b (.list (mem.order.map pV' ++ [prV x.1 i]))) (l :: k :: A):=.put (Zd _ (Zd _ ne.bA))
 refine q.to (o:=.push ⟨.rule x.1,i,t,h,ks⟩ x.2 i ⟨mem.kept,mem.order ++ [(x.1,i)]⟩) ((rule_new (Option.map_eq_none_iff.mpr k0) rfl).trans (by rw [partOf_eq hn hx])) (.put own_b) (Zr List.length_set.symm) ?_
 exact .push ⟨vs,by rw [Zi ne.bl]; exact f1,by rw [Zi ne.bk]; exact f2,f3.keep o⟩ ⟨kvs,by rw [Zi ne.bm]; exact h1,by rw [Zi (Ne.symm ne.ab)]; exact h2,by rw [Zw (Zb.mp h3).1,List.map_append]; rfl,h4.keep o⟩
theorem rul_none (TO:TopOk (T08 w s)) (hn:(rs.map (·.1)).Nodup) {n:Str} (hG:GrT rs g gb σ) (hg:g ∉ A) (hgb:gb ∉ A) (hin:n ∈ rs.map (·.1)) (r:Rdy memBk (memRep m a b) σ A l k ⟨.rule n,i,t,h,ks⟩ mem none av) (q:StepQ memBk (memRep m a b) (partOf rs) cs σ A l k ⟨.rule n,i,t,h,ks⟩ mem none Q X) :
   CallOk (T08 w s) (d + 4) X (.glob "of_rule") [.ref l,av,.ref g,.ref m] Q σ:=by
 obtain ⟨vs,f1,zz,zz⟩:=r.fr
 refine MmAt.use r.bk fun kvs h1 h2 h3 h4 => ?_
 have ne:=r.ne
 have up:σ.length ≤ (σ ++ [MObj.list []]).length:=Zf ▸ Zy ..
 rw [show av = .none from r.ans]
 refine rule_none TO hn f1 h1 h2 h3 (by rw [Zc]; exact szo (Za r.few.2.2.2 (by decide))) (hG.keep (A':=A) (.put ne.bA) hg hgb) ne.bl (fun hf x hx hxn => ?_) hin fun v hv => ?_
 · rcases h4.get (k:=(n,i)) with ⟨k0,zz⟩ | ⟨zz,zz,zz,k1,zz⟩
   · exact rul_new r q hn hx hxn k0
   · rw [hf] at k1; cases k1
 · rcases h4.get (k:=(n,i)) with ⟨zz,k0⟩ | ⟨x,u,k0,k1,la,us',rfl,k2,k3,k4⟩
   · rw [k0] at hv; cases hv
   · rw [k1] at hv
     have hv:=Zab hv
     have e:stepOf (partOf rs) cs memBk ⟨.rule n,i,t,h,ks⟩ none mem = .pop (tell (n,i) x) mem:=rule_known (congrArg (Option.map (tell (n,i))) k0)
     obtain ⟨x1,x2⟩:=x
     cases x1 with
     | none => exact .inl ⟨la,hv.symm,q.to e .up up (.pop r.fresh r.bkU)⟩
     | some y => exact .inr ⟨y,la,hv.symm,q.to e .up (Zf ▸ Zy ..) (.pop ⟨σ.length,_,rfl,fun hx => Zub _ (r.hA _ hx),get_new,memKid_krs⟩ r.bkU)⟩
theorem rul_some (TO:TopOk (T08 w s)) {n:Str} {x:An Kid} (r:Rdy memBk (memRep m a b) σ A l k ⟨.rule n,i,t,h,ks⟩ mem (some x) av) (q:StepQ memBk (memRep m a b) (partOf rs) cs σ A l k ⟨.rule n,i,t,h,ks⟩ mem (some x) Q X) :
   CallOk (T08 w s) (d + 4) X (.glob "of_rule") [.ref l,av,.ref g,.ref m] Q σ:=by
 obtain ⟨vs,f1,zz,zz⟩:=r.fr
 refine MmAt.use r.bk fun kvs h1 h2 h3 h4 => ?_
 have ne:=r.ne
 obtain ⟨la,us',e0,k1,k2,k3⟩:=r.ans
 have e:stepOf (partOf rs) cs memBk ⟨.rule n,i,t,h,ks⟩ (some x) mem = .pop (tell (n,i) x) ⟨setM mem.kept (n,i) x,mem.order⟩:=rfl
 rw [e0]
 refine rule_ans TO f1 h1 h2 k2 ne.ma (by rw [h4.length]; exact szo (Za r.few.2.2.1 (by decide))) (by rw [k3.length]; exact szo (Za (r.few.2.1 _ rfl) (by decide))) fun σ₁ e1 => ?_
 have len1:σ₁.length = σ.length + 1:=by rw [e1,List.length_set,Zf]; rfl
 have l0:σ.length ≤ σ₁.length:=len1 ▸ Nat.le_succ _
 have o0:On σ (l :: k :: A) σ₁ A:=(show On σ (l :: k :: A) σ₁ (l :: k :: A) by rw [e1]; exact On.trans .up (.put (Zd _ (Zd _ ne.aA))) (Zf ▸ Zy ..)).trans less_on l0
 have oq:On σ (l :: k :: (memRep m a b).own) σ₁ (l :: k :: (memRep m a b).own):=by rw [e1]; exact On.trans .up (.put own_a) (Zf ▸ Zy ..)
 have la1:a ≠ σ.length:=fun e => Zub _ (e ▸ r.hA _ ne.aA)
 have mm1:MmAt σ₁ A m a b ⟨setM mem.kept (n,i) x,mem.order⟩:=by
   refine ⟨_,?_,?_,?_,(h4.keep o0).set (k:=(n,i)) (v:=.tup [endV x.1,.ref σ.length]) ⟨σ.length,us',rfl,fun hx => Zub _ (r.hA _ hx),?_,k3.keep o0⟩⟩
   · rw [e1,Zi (Ne.symm ne.ma)]; exact get_up h1
   · rw [e1,Zw (by rw [Zf]; exact Nat.lt_succ_of_lt (r.hA _ ne.aA))]
   · rw [e1,Zi ne.ab]; exact get_up h3
   · rw [e1,Zi la1]; exact get_new
 have mm2:∀ {x:MObj},(memRep m a b).is (σ₁ ++ [x]) A _:=fun {x} => (memRep m a b).keep (b:=⟨setM mem.kept _ _,mem.order⟩) mm1 .up fun y hy => Zbb (Zz (r.hA y (r.own y hy)) l0)
 have nf:σ₁.length ∉ A:=fun hx => Zo.mpr l0 (r.hA _ hx)
 have up:∀ {x:MObj},σ.length ≤ (σ₁ ++ [x]).length:=Za l0 (Zf ▸ Zy ..)
 obtain ⟨x1,x2⟩:=x
 cases x1 with
 | none => exact .inl ⟨rfl,q.to e (oq.trans .up l0) up (.pop ⟨σ₁.length,[],rfl,nf,get_new,rfl⟩ mm2)⟩
 | some y => exact .inr ⟨y,rfl,q.to e (oq.trans .up l0) up (.pop ⟨σ₁.length,_,rfl,nf,get_new,memKid_krs⟩ mm2)⟩
theorem fn_rul (TO:TopOk (T08 w s)) (hn:(rs.map (·.1)).Nodup) {n:Str} (hG:GrT rs g gb σ) (hg:g ∉ A) (hgb:gb ∉ A) (hin:n ∈ rs.map (·.1)) (r:Rdy memBk (memRep m a b) σ A l k ⟨.rule n,i,t,h,ks⟩ mem an av) (q:StepQ memBk (memRep m a b) (partOf rs) cs σ A l k ⟨.rule n,i,t,h,ks⟩ mem an Q X) :
   CallOk (T08 w s) (d + 4) X (.glob "of_rule") [.ref l,av,.ref g,.ref m] Q σ:=by
 cases an with
 | none => exact rul_none TO hn hG hg hgb hin r q
 | some x => exact rul_some TO r q
end
section
variable {w:World} {s:Shared} {d:Nat} {X:QX} {Q:QE} {σ:Hp} {rs:List (Str × Pt)} {g gb m:Nat} {β κ:Type} {B:Bk β κ} {R:BRep β κ}
variable {cs:List Nat} {A:List Nat} {l k:Nat} {b:β} {an:Option (An κ)} {av:V} {f:Fr κ}
structure BookOk (T:Tp) (B:Bk β κ) (R:BRep β κ) (rs:List (Str × Pt)) (g gb m:Nat):Prop where
 sgn:∀ {d X Q σ cs A p i t h l k ks b an av},p.isLf = true → cs.length < 100000 → Rdy B R σ A l k ⟨p,i,t,h,ks⟩ b an av → StepQ B R (partOf rs) cs σ A l k ⟨p,i,t,h,ks⟩ b an Q X → CallOk T (d + 3) X (.glob "of_sign") [.ref l,.str (S cs),.ref m] Q σ
 rul:∀ {d X Q σ cs A n i t h l k ks b an av},GrT rs g gb σ → g ∉ A → gb ∉ A → n ∈ rs.map (·.1) → Rdy B R σ A l k ⟨.rule n,i,t,h,ks⟩ b an av → StepQ B R (partOf rs) cs σ A l k ⟨.rule n,i,t,h,ks⟩ b an Q X → CallOk T (d + 4) X (.glob "of_rule") [.ref l,av,.ref g,.ref m] Q σ
theorem fn_stepped (TO:TopOk (T08 w s)) (hB:BookOk (T08 w s) B R rs g gb m) (hG:GrT rs g gb σ) (hg:g ∉ A) (hgb:gb ∉ A) (hc:cs.length < 100000) (hpc:PcOk (rs.map (·.1)) f.piece) (hw:an ≠ none → f.wait) (hw0:an = none → f.turn = 0) (r:Rdy B R σ A l k f b an av) (q:StepQ B R (partOf rs) cs σ A l k f b an Q X) :
   CallOk (T08 w s) (d + 5) X (.glob "stepped") [.ref l,av,.ref g,.str (S cs),.ref m] Q σ:=by
 obtain ⟨C,hC⟩:=fr_cls (w:=w) (s:=s)
 obtain ⟨vs,f1,f2,f3⟩:=r.fr
 refine CallOk.go TO rfl rfl ?_
 obtain ⟨p,i,t,h,ks⟩:=f
 obtain ⟨⟨few,zz⟩,asks⟩:=hpc
 have w0:an ≠ none → (∀ ps,(p = .row ps ∨ p = .alt ps) → t < ps.length):=fun e ps hp => by
   have:=hw e
   rcases hp with rfl | rfl <;> exact this
 have w1:∀ ps,(p = .row ps ∨ p = .alt ps) → t ≤ ps.length:=fun ps hp => by
   cases an with
   | none => rw [show t = 0 from hw0 rfl]; exact Zkb _
   | some x => exact Zq (w0 (by simp) ps hp)
 cases p with
 | row ps => exact AttrOk.of f1 rfl rfl hC.cls hC.piece <| Cal.mk <| fn_row (d:=d + 2) TO r few (fun e => w0 e ps (.inl rfl)) (w1 ps (.inl rfl)) q
 | alt ps => exact AttrOk.of f1 rfl rfl hC.cls hC.piece <| Cal.mk <| fn_alt (d:=d + 2) TO r few (fun e => w0 e ps (.inr rfl)) (w1 ps (.inr rfl)) q
 | many p => exact AttrOk.of f1 rfl rfl hC.cls hC.piece <| Cal.mk <| fn_many (d:=d + 2) TO r q
 | nt p => exact AttrOk.of f1 rfl rfl hC.cls hC.piece <| Cal.mk <| fn_nt (d:=d + 2) TO r q
 | rule n => exact AttrOk.of f1 rfl rfl hC.cls hC.piece <| Cal.mk <| hB.rul (d:=d) hG hg hgb (asks n .here) r q
 | sign c => exact AttrOk.of f1 rfl rfl hC.cls hC.piece <| Cal.mk <| hB.sgn (d:=d + 1) rfl hc r q
 | span c e => exact AttrOk.of f1 rfl rfl hC.cls hC.piece <| Cal.mk <| hB.sgn (d:=d + 1) rfl hc r q
 | any => exact AttrOk.of f1 rfl rfl hC.cls hC.piece <| Cal.mk <| hB.sgn (d:=d + 1) rfl hc r q
end
section
variable {w:World} {s:Shared} {d:Nat} {X:QX} {Q:QE} {σ:Hp} {rs:List (Str × Pt)} {g gb:Nat} {β κ:Type} {B:Bk β κ} {R:BRep β κ}
noncomputable def FrsAt (K:KRep κ) (σ:Hp) (A:List Nat):List (Nat × Nat) → List (Fr κ) → Prop
 | [],fs => fs = []
 | p :: ls,fs => ∃ f r,fs = f :: r ∧ FrAt K σ A f p.1 p.2 ∧ FrsAt K σ A ls r
noncomputable def locsOf (ls:List (Nat × Nat)):List Nat:=ls.flatMap fun p => [p.1,p.2]
noncomputable def Waits (an:Option (An κ)) (fr:List (Fr κ)):Prop:=match an with
 | some z1 => ∀ f ∈ fr,f.wait
 | none => match fr with
   | [] => True
   | f :: r => f.turn = 0 ∧ ∀ f ∈ r,f.wait
theorem FrsAt.length {K:KRep κ} {σ:Hp} {A:List Nat}:∀ {ls:List (Nat × Nat)} {fs:List (Fr κ)},FrsAt K σ A ls fs → fs.length = ls.length
 | [],z1,h => by cases h; rfl
 | z1 :: z2,z3,h => by
   obtain ⟨f,r,rfl,zz,h2⟩:=h
   simp [FrsAt.length h2]
theorem FrsAt.keep {K:KRep κ} {σ σ':Hp} {A A':List Nat} (o:On σ A σ' A'):∀ {ls:List (Nat × Nat)} {fs:List (Fr κ)},FrsAt K σ A ls fs → (∀ x ∈ locsOf ls,σ'[x]? = σ[x]?) → FrsAt K σ' A' ls fs
 | [],z1,h,z2 => h
 | p :: ls,z1,h,e => by
   obtain ⟨f,r,rfl,h1,h2⟩:=h
   exact ⟨f,r,rfl,h1.keep o (e _ (by simp [locsOf])) (e _ (by simp [locsOf])),FrsAt.keep o h2 fun x hx => e x (by simp only [locsOf,List.flatMap_cons]; exact List.mem_append_right _ hx)⟩
theorem seq_last {n:Nat}:seqIndex? (-1) (n + [V.none].length) = some n:=by
 unfold seqIndex?
 simp
 lia
noncomputable def OutW (ns:List Str) (q:Pt):Out β κ → Prop
 | .push f p z1 z2 => f.wait ∧ f.piece = q ∧ PcOk ns p
 | z1 => True
theorem step_push {cs:List Nat} {f:Fr κ} {an:Option (An κ)} {b:β} (hp:PcOk (rs.map (·.1)) f.piece) (hr:∀ n ∈ rs.map (·.1),PcOk (rs.map (·.1)) (partOf rs n)):OutW (rs.map (·.1)) f.piece (stepOf (partOf rs) cs B f an b):=by
 obtain ⟨q,j,t,e,ks⟩:=f
 have row:∀ {ps:List Pt} {F:Fr κ},F.piece = .row ps → PcOk (rs.map (·.1)) (.row ps) → OutW (rs.map (·.1)) (.row ps) (rowOut ps F b):=fun {ps F} hF h => by
   unfold rowOut
   cases hg:ps[F.turn]? with
   | some p => exact ⟨by unfold Fr.wait; rw [hF]; exact (Zb.mp hg).1,hF,h.kid (Zn hg)⟩
   | none => exact trivial
 have alt:∀ {ps:List Pt} {F:Fr κ},F.piece = .alt ps → PcOk (rs.map (·.1)) (.alt ps) → OutW (rs.map (·.1)) (.alt ps) (altOut ps F b):=fun {ps F} hF h => by
   unfold altOut
   cases hg:ps[F.turn]? with
   | some p => exact ⟨by unfold Fr.wait; rw [hF]; exact (Zb.mp hg).1,hF,h.kid (Zn hg)⟩
   | none => exact trivial
 have leaf:∀ {p q:Pt} {F:Fr κ},OutW (rs.map (·.1)) p (leafOut cs B q F b):=fun {p q F} => by
   unfold leafOut
   cases B.look b with
   | none => exact trivial
   | some b' =>
     dsimp only
     cases cs[F.place]? with
     | none => exact trivial
     | some c =>
       dsimp only
       cases q.takesC c with
       | false => exact trivial
       | true => exact trivial
 cases q with
 | row ps =>
   rcases an with zz | ⟨zz | e',us⟩
   · exact row rfl hp
   · exact trivial
   · exact row rfl hp
 | alt ps =>
   rcases an with zz | ⟨zz | e',us⟩
   · exact alt rfl hp
   · exact alt rfl hp
   · exact trivial
 | many x =>
   have hx:=hp.kid (Zj.mpr rfl)
   rcases an with zz | ⟨zz | e',us⟩
   · exact ⟨trivial,rfl,hx⟩
   · exact trivial
   · show OutW _ _ (if e' = e then _ else _)
     by_cases he:e' = e
     · rw [if_pos he]; exact trivial
     · rw [if_neg he]; exact ⟨trivial,rfl,hx⟩
 | nt x =>
   rcases an with zz | ⟨zz | e',us⟩
   · exact ⟨trivial,rfl,hp.kid (Zj.mpr rfl)⟩
   · exact trivial
   · exact trivial
 | rule n =>
   cases an with
   | some x => exact trivial
   | none =>
     simp only [stepOf]
     cases B.known b n j with
     | some x => exact trivial
     | none =>
       dsimp only
       cases B.begun b n j with
       | none => exact trivial
       | some b' => exact ⟨trivial,rfl,hr n (hp.2 n .here)⟩
 | sign c => exact leaf
 | span c e => exact leaf
 | any => exact leaf
theorem loc_cons {l k lf:Nat} {ls:List (Nat × Nat)} {o:List Nat}:locsOf ((l,k) :: ls) ++ lf :: o = l :: k :: (locsOf ls ++ lf :: o):=by simp [locsOf]
structure Wk (R:BRep β κ) (rs:List (Str × Pt)) (lf:Nat) (σ:Hp) (st:Ms β κ) (ls:List (Nat × Nat)) (av:V) (σ':Hp):Prop where
 fl:σ'[lf]? = some (.list (ls.map fun p => V.ref p.1).reverse)
 frs:FrsAt R.K σ' (locsOf ls ++ lf :: R.own) ls st.fr
 an:AnO R.K σ' (locsOf ls ++ lf :: R.own) st.an av
 bk:R.is σ' (locsOf ls ++ lf :: R.own) st.bk
 nd:(locsOf ls ++ lf :: R.own).Nodup
 lt:∀ x ∈ locsOf ls ++ lf :: R.own,x < σ'.length
 pc:∀ f ∈ st.fr,PcOk (rs.map (·.1)) f.piece
 wt:Waits st.an st.fr
 on:On σ R.own σ' (locsOf ls ++ lf :: R.own)
 len:σ.length ≤ σ'.length
section
variable {lf l k:Nat} {f:Fr κ} {r:List (Fr κ)} {an:Option (An κ)} {b:β} {ls:List (Nat × Nat)} {av:V} {σ' σ₂:Hp}
theorem Wk.init {name:Str} {i:Nat} (hnd:R.own.Nodup) (hlt:∀ x ∈ R.own,x < σ.length) (hm:R.is σ R.own b) (hin:name ∈ rs.map (·.1)):Wk R rs (σ.length + 2) σ ⟨[.new (.rule name) i],none,b⟩ [(σ.length,σ.length + 1)] .none (σ ++ [.inst "Frame" (frF (Pt.rule name).v i 0 i (σ.length + 1)),.list []] ++ [.list [.ref σ.length]]):=by
 have new2:∀ {x:Nat},x ∈ R.own → x ≠ σ.length ∧ x ≠ σ.length + 1 ∧ x ≠ σ.length + 2:=fun hx => by have:=hlt _ hx; lia
 have on0:∀ {x y z:MObj},On σ R.own (σ ++ [x,y] ++ [z]) (locsOf [(σ.length,σ.length + 1)] ++ (σ.length + 2) :: R.own):=⟨fun zz zz e zz => get_up (get_up e),fun x hx hl => by
   rcases Zg.mp hx with rfl | hx
   · exact absurd hl (Zub _)
   · rcases Zg.mp hx with rfl | hx
     · exact absurd hl (Zo.mpr (Nat.le_succ _))
     · rcases Zg.mp hx with rfl | hx
       · exact absurd hl (Zo.mpr (Zy _ _))
       · exact hx⟩
 refine ⟨by simp,⟨_,_,rfl,⟨[],?_,by simp,rfl⟩,rfl⟩,rfl,R.keep hm on0 fun x hx => by rw [Ze]; exact Zbb (hlt x hx),?_,fun x hx => ?_,fun f hf => ?_,⟨rfl,(by intros; contradiction)⟩,on0,by simp⟩
 · simp [frF]; exact ⟨rfl,rfl,rfl,rfl⟩
 · show (σ.length :: (σ.length + 1) :: (σ.length + 2) :: R.own).Nodup
   refine List.nodup_cons.mpr ⟨fun h => ?_,List.nodup_cons.mpr ⟨fun h => ?_,List.nodup_cons.mpr ⟨fun h => (new2 h).2.2 rfl,hnd⟩⟩⟩
   · rcases Zg.mp h with h | h
     · exact Nat.ne_of_lt (Zs _) h
     · rcases Zg.mp h with h | h
       · exact Nat.ne_of_lt (Nat.lt_add_of_pos_right (by decide)) h
       · exact (new2 h).1 rfl
   · rcases Zg.mp h with h | h
     · exact Nat.ne_of_lt (Zs _) h
     · exact (new2 h).2.1 rfl
 · have hx:x ∈ σ.length :: (σ.length + 1) :: (σ.length + 2) :: R.own:=hx
   have e:∀ {a b c:MObj},(σ ++ [a,b] ++ [c]).length = σ.length + 3:=by simp
   rw [e]
   rcases Zg.mp hx with rfl | hx
   · exact Nat.lt_add_of_pos_right (by decide)
   · rcases Zg.mp hx with rfl | hx
     · exact Nat.add_lt_add_left (by decide) _
     · rcases Zg.mp hx with rfl | hx
       · exact Zs _
       · exact Nat.lt_add_right _ (hlt x hx)
 · cases Zj.mp hf
   exact ⟨⟨by simp [Pt.few,Fr.new,Pt.kids8],fun q hq => by simp [Fr.new,Pt.kids8] at hq⟩,fun n hn => by
     cases hn with
     | here => exact hin
     | deep hq z1 => simp [Fr.new,Pt.kids8] at hq⟩
theorem Wk.done {a:An κ} (W:Wk R rs lf σ ⟨[],some a,b⟩ [] av σ'):AnAt R.K σ' R.own a av ∧ R.is σ' R.own b ∧ On σ R.own σ' R.own:=by
 have lo:On σ' (locsOf [] ++ lf :: R.own) σ' R.own:=.less fun y hy => Zd _ hy
 exact ⟨AnAt.keep lo W.an,R.keep W.bk lo fun zz zz => rfl,W.on.trans lo W.len⟩
variable (W:Wk R rs lf σ ⟨f :: r,an,b⟩ ((l,k) :: ls) av σ')
include W
theorem Wk.rdy (few:FewS B f an b):Rdy B R σ' (locsOf ls ++ lf :: R.own) l k f b an av:=by
 have nd:=W.nd
 have lt:=W.lt
 obtain ⟨zz,zz,e,hf,zz⟩:=W.frs
 cases e
 have han:=W.an
 have bk:=W.bk
 rw [loc_cons] at nd lt hf han bk
 have nd2:=List.nodup_cons.mp nd
 exact ⟨hf,bk,han,few,(List.nodup_cons.mp nd2.2).1,fun h => nd2.1 (Zd _ h),fun x hx => List.mem_append_right _ (Zd _ hx),fun x hx => lt x (Zd _ (Zd _ hx))⟩
theorem Wk.out {g:Nat} (hg:g ∉ R.own) (hl:g < σ.length):g ∉ locsOf ls ++ lf :: R.own:=fun h => hg (W.on.live g (by rw [loc_cons]; exact Zd _ (Zd _ h)) hl)
theorem Wk.waits:(an ≠ none → f.wait) ∧ (an = none → f.turn = 0) ∧ ∀ x ∈ r,x.wait:=by
 have wt:=W.wt
 cases an with
 | none => exact ⟨fun e => absurd rfl e,fun zz => wt.1,wt.2⟩
 | some x => exact ⟨fun zz => wt f (Zt ..),(by intros; contradiction),fun y hy => wt y (Zd _ hy)⟩
theorem Wk.kept (o:On σ' (l :: k :: R.own) σ₂ (l :: k :: R.own)):On σ' (l :: k :: (locsOf ls ++ lf :: R.own)) σ₂ (l :: k :: (locsOf ls ++ lf :: R.own)) ∧ (∀ x ∈ locsOf ls,σ₂[x]? = σ'[x]?) ∧ σ₂[lf]? = σ'[lf]? ∧ (∀ x ∈ locsOf ls,lf ≠ x) ∧ (∀ x ∈ R.own,lf ≠ x) ∧ lf ≠ l ∧ lf ≠ k:=by
 have nd:=W.nd
 have lt:=W.lt
 rw [loc_cons] at nd lt
 have nd2:=List.nodup_cons.mp nd
 have nd3:=List.nodup_cons.mp nd2.2
 have nd4:=List.nodup_append.mp nd3.2
 have hln:l ∉ locsOf ls ++ lf :: R.own:=fun h => nd2.1 (Zd _ h)
 have same:∀ x ∈ locsOf ls ++ [lf],σ₂[x]? = σ'[x]?:=fun x hx => by
   have hA:x ∈ locsOf ls ++ lf :: R.own:=by
     rcases Zm.mp hx with h | h
     · exact List.mem_append_left _ h
     · exact List.mem_append_right _ (Zj.mp h ▸ Zt ..)
   have hx':x ∉ l :: k :: R.own:=fun h => by
     rcases Zg.mp h with h | h
     · exact hln (h ▸ hA)
     · rcases Zg.mp h with h | h
       · exact nd3.1 (h ▸ hA)
       · rcases Zm.mp hx with q | q
         · exact nd4.2.2 x q x (Zd _ h) rfl
         · exact (List.nodup_cons.mp nd4.2.1).1 (Zj.mp q ▸ h)
   have hl:=lt x (Zd _ (Zd _ hA))
   rw [Zp hl]
   exact o.keep _ _ (Zp hl) hx'
 refine ⟨⟨fun x y e h => o.keep x y e fun hq => h ?_,fun zz h zz => h⟩,fun x hx => same x (List.mem_append_left _ hx),same lf (List.mem_append_right _ (Zj.mpr rfl)),fun x hx e => nd4.2.2 x hx lf (Zt ..) e.symm,fun x hx e => (List.nodup_cons.mp nd4.2.1).1 (e ▸ hx),fun e => hln (e ▸ List.mem_append_right _ (Zt ..)),fun e => nd3.1 (e ▸ List.mem_append_right _ (Zt ..))⟩
 rcases Zg.mp hq with rfl | hq
 · exact Zt ..
 · rcases Zg.mp hq with rfl | hq
   · exact Zd _ (Zt ..)
   · exact Zd _ (Zd _ (List.mem_append_right _ (Zd _ hq)))
theorem Wk.pop {a':An κ} {b':β} {av':V} (o:On σ' (l :: k :: R.own) σ₂ (l :: k :: R.own)) (hl:σ'.length ≤ σ₂.length) (h1:AnAt R.K σ₂ (locsOf ls ++ lf :: R.own) a' av') (h2:R.is σ₂ (locsOf ls ++ lf :: R.own) b'):Wk R rs lf σ ⟨r,some a',b'⟩ ls av' (σ₂.set lf (.list (ls.map fun p => V.ref p.1).reverse)):=by
 obtain ⟨k1,k2,k3,k4,k5,k6,k7⟩:=W.kept o
 have nd:=W.nd
 have lt:=W.lt
 have on:=W.on
 obtain ⟨zz,zz,e,zz,hrs⟩:=W.frs
 cases e
 rw [loc_cons] at nd lt on hrs
 have hlA:lf ∈ locsOf ls ++ lf :: R.own:=List.mem_append_right _ (Zt ..)
 have o2:On σ' (l :: k :: (locsOf ls ++ lf :: R.own)) (σ₂.set lf (.list (ls.map fun p => V.ref p.1).reverse)) (locsOf ls ++ lf :: R.own):=(k1.trans less_on hl).trans (.put hlA) hl
 refine ⟨Zw (Zz (lt lf (Zd _ (Zd _ hlA))) hl),hrs.keep o2 fun x hx => ?_,AnAt.keep (.put hlA) h1,R.keep h2 (.put hlA) fun x hx => Zi (k5 x hx),(List.nodup_cons.mp (List.nodup_cons.mp nd).2).2,fun x hx => ?_,fun y hy => W.pc y (Zd _ hy),W.waits.2.2,on.trans o2 W.len,by rw [List.length_set]; exact Za W.len hl⟩
 · rw [Zi (k4 x hx)]; exact k2 x hx
 · rw [List.length_set]; exact Zz (lt x (Zd _ (Zd _ hx))) hl
theorem Wk.push {f':Fr κ} {p:Pt} {i:Nat} {b':β} (o:On σ' (l :: k :: R.own) σ₂ (l :: k :: R.own)) (hl:σ'.length ≤ σ₂.length) (h1:FrAt R.K σ₂ (l :: k :: (locsOf ls ++ lf :: R.own)) f' l k) (h2:R.is σ₂ (l :: k :: (locsOf ls ++ lf :: R.own)) b') (sp1:f'.wait) (sp2:f'.piece = f.piece) (sp3:PcOk (rs.map (·.1)) p) :
   Wk R rs lf σ ⟨.new p i :: f' :: r,none,b'⟩ ((σ₂.length,σ₂.length + 1) :: (l,k) :: ls) .none ((σ₂ ++ [MObj.inst "Frame" (frF p.v i 0 i (σ₂.length + 1)),.list []]).set lf (.list ((((l,k) :: ls).map fun p => V.ref p.1).reverse ++ [V.ref σ₂.length]))):=by
 obtain ⟨k1,k2,k3,k4,k5,k6,k7⟩:=W.kept o
 have nd:=W.nd
 have lt:=W.lt
 have on:=W.on
 obtain ⟨zz,zz,e,zz,hrs⟩:=W.frs
 cases e
 rw [loc_cons] at nd lt on hrs
 have hlA:lf ∈ locsOf ls ++ lf :: R.own:=List.mem_append_right _ (Zt ..)
 have lt2:∀ x ∈ l :: k :: (locsOf ls ++ lf :: R.own),x < σ₂.length:=fun x hx => Zz (lt x hx) hl
 have hlf:=lt2 lf (Zd _ (Zd _ hlA))
 have up:∀ {u v y:MObj} x,x < σ₂.length → lf ≠ x → ((σ₂ ++ [u,v]).set lf y)[x]? = σ₂[x]?:=fun {u v y} x hx hne => by
   rw [Zi hne]; exact Zbb hx
 have o2:∀ {u v y:MObj},On σ₂ (l :: k :: (locsOf ls ++ lf :: R.own)) ((σ₂ ++ [u,v]).set lf y) (σ₂.length :: (σ₂.length + 1) :: l :: k :: (locsOf ls ++ lf :: R.own)):=fun {u v y} => ⟨fun x o e hx => by
     rw [up x (Zb.mp e).1 (fun q => hx (q ▸ Zd _ (Zd _ hlA)))]; exact e,fun x hx hl => by
     rcases Zg.mp hx with rfl | hx
     · exact absurd hl (Zub _)
     · rcases Zg.mp hx with rfl | hx
       · exact absurd hl (Zo.mpr (Nat.le_succ _))
       · exact hx⟩
 have e2:locsOf ((σ₂.length,σ₂.length + 1) :: (l,k) :: ls) ++ lf :: R.own = σ₂.length :: (σ₂.length + 1) :: l :: k :: (locsOf ls ++ lf :: R.own):=by rw [loc_cons,loc_cons]
 refine ⟨?_,?_,rfl,?_,?_,?_,fun y hy => ?_,⟨rfl,fun y hy => ?_⟩,?_,?_⟩
 · rw [Zw (by simp; exact Nat.lt_add_right _ hlf)]; simp
 · rw [e2]
   refine ⟨_,_,rfl,⟨[],?_,?_,rfl⟩,⟨_,_,rfl,h1.keep o2 (up l (lt2 l (Zt ..)) k6) (up k (lt2 k (Zd _ (Zt ..))) k7),hrs.keep (k1.trans o2 hl) fun x hx => ?_⟩⟩
   · rw [Zi (Nat.ne_of_lt hlf)]; simp [frF]; exact ⟨rfl,rfl,rfl,rfl⟩
   · rw [Zi (Nat.ne_of_lt (Nat.lt_succ_of_lt hlf))]; simp
   · rw [up x (lt2 x (Zd _ (Zd _ (List.mem_append_left _ hx)))) (k4 x hx)]; exact k2 x hx
 · rw [e2]
   exact R.keep h2 o2 fun x hx => up x (lt2 x (Zd _ (Zd _ (List.mem_append_right _ (Zd _ hx))))) (k5 x hx)
 · rw [e2]
   refine List.nodup_cons.mpr ⟨fun hx => ?_,List.nodup_cons.mpr ⟨fun hx => ?_,nd⟩⟩
   · rcases Zg.mp hx with e | hx
     · exact absurd e (Nat.ne_of_lt (Zs _))
     · exact Zub _ (lt2 _ hx)
   · exact absurd (lt2 _ hx) (Zo.mpr (Nat.le_succ _))
 · rw [e2]
   intro x hx
   rw [List.length_set,Zf]
   rcases Zg.mp hx with rfl | hx
   · exact Nat.lt_add_of_pos_right (by simp)
   · rcases Zg.mp hx with rfl | hx
     · exact Nat.add_lt_add_left (by simp) _
     · exact Nat.lt_add_right _ (lt2 x hx)
 · rcases Zg.mp hy with rfl | hy
   · exact sp3
   · rcases Zg.mp hy with rfl | hy
     · rw [sp2]; exact W.pc f (Zt ..)
     · exact W.pc y (Zd _ hy)
 · rcases Zg.mp hy with rfl | hy
   · exact sp1
   · exact W.waits.2.2 y hy
 · rw [e2]; exact on.trans (k1.trans o2 hl) W.len
 · rw [List.length_set,Zf]; exact Za W.len (Nat.le_add_right_of_le hl)
end
inductive Jw (B:Bk β κ) (R:BRep β κ) (P:Option (An κ × β) → Prop) (rs:List (Str × Pt)) (cs:List Nat) (g m lf:Nat) (σ:Hp) (n:Nat) (ρ:Loc) (σ':Hp):Prop where
 | mk (st:Ms β κ) (ls:List (Nat × Nat)) (av:V) (fin:Fin (partOf rs) cs B P n st) (has:Has ρ [("grammar",.ref g),("text",.str (S cs)),("book",.ref m),("frames",.ref lf),("answer",av)]) (w:Wk R rs lf σ st ls av σ'):Jw B R P rs cs g m lf σ n ρ σ'
inductive Trn (B:Bk β κ) (R:BRep β κ) (P:Option (An κ × β) → Prop) (rs:List (Str × Pt)) (cs:List Nat) (lf l:Nat) (σ:Hp) (n:Nat) (σ₂:Hp):V → Prop where
 | push (p:Pt) (i:Nat) (st:Ms β κ) (ls:List (Nat × Nat)) (us:List V) (m:Nat) (hm:m < n) (fin:Fin (partOf rs) cs B P m st) (hf:σ₂[lf]? = some (.list us)) (hz:us.length ≤ 5000001) (w:Wk R rs lf σ st ls .none ((σ₂ ++ [MObj.inst "Frame" (frF p.v i 0 i (σ₂.length + 1)),.list []]).set lf (.list (us ++ [V.ref σ₂.length])))):Trn B R P rs cs lf l σ n σ₂ (.tup [.tup [p.v,.int i],.none])
 | pop (st:Ms β κ) (ls:List (Nat × Nat)) (us:List V) (m:Nat) (av:V) (hm:m < n) (fin:Fin (partOf rs) cs B P m st) (hf:σ₂[lf]? = some (.list (us ++ [.ref l]))) (hz:us.length ≤ 5000000) (w:Wk R rs lf σ st ls av (σ₂.set lf (.list us))):Trn B R P rs cs lf l σ n σ₂ (.tup [.none,av])
theorem Wk.turn {cs:List Nat} {P:Option (An κ × β) → Prop} {lf l k n:Nat} {f:Fr κ} {r:List (Fr κ)} {an:Option (An κ)} {b:β} {ls:List (Nat × Nat)} {av v:V} {σ' σ₂:Hp} (hg:GoodRules rs) (W:Wk R rs lf σ ⟨f :: r,an,b⟩ ((l,k) :: ls) av σ') (fin:Fin (partOf rs) cs B P n ⟨f :: r,an,b⟩) (o:On σ' (l :: k :: R.own) σ₂ (l :: k :: R.own)) (hl:σ'.length ≤ σ₂.length) (sr:StepR R σ₂ (locsOf ls ++ lf :: R.own) l k (stepOf (partOf rs) cs B f an b) v):Trn B R P rs cs lf l σ n σ₂ v:=by
 obtain ⟨hr,zz,hfin⟩:=fin.inv
 have hz:ls.length ≤ 5000000:=by
   obtain ⟨zz,zz,e,zz,hrs⟩:=W.frs
   cases e
   exact hrs.length ▸ hr
 have fl:σ₂[lf]? = some (.list ((ls.map fun p => V.ref p.1).reverse ++ [.ref l])):=by rw [(W.kept o).2.2.1,W.fl]; simp
 have sp:=step_push (B:=B) (cs:=cs) (an:=an) (b:=b) (W.pc f (Zt ..)) fun n hn => by
   obtain ⟨y,hy,rfl⟩:=Zsb.mp hn
   rw [partOf_eq hg.nodup hy]
   exact ⟨(hg.all y hy).few,(hg.all y hy).asks⟩
 have hfin:FinO (partOf rs) cs B P n r (stepOf (partOf rs) cs B f an b):=hfin
 clear fin
 generalize stepOf (partOf rs) cs B f an b = out at sr sp hfin
 cases sr with
 | push h1 h2 =>
   obtain ⟨m,hm,hf⟩:=hfin
   refine .push _ _ _ _ ((((l,k) :: ls).map fun p => V.ref p.1).reverse) m hm hf (fl.trans (by simp)) ?_ (W.push o hl h1 h2 sp.1 sp.2.1 sp.2.2)
   simp; exact hz
 | pop h1 h2 =>
   obtain ⟨m,hm,hf⟩:=hfin
   exact .pop _ _ _ m _ hm hf fl (by simp; exact hz) (W.pop o hl h1 h2)
theorem fn_worked (TO:TopOk (T08 w s)) {cs:List Nat} {m i:Nat} {b:β} {name:Str} {P:Option (An κ × β) → Prop} (hB:BookOk (T08 w s) B R rs g gb m) (hg:GoodRules rs) (hG:GrT rs g gb σ) (hga:g ∉ R.own) (hgb:gb ∉ R.own) (hnd:R.own.Nodup) (hlt:∀ x ∈ R.own,x < σ.length) (hc:cs.length < 100000) (hm:R.is σ R.own b) (hin:name ∈ rs.map (·.1))
   (hfin:∃ n,Fin (partOf rs) cs B P n ⟨[.new (.rule name) i],none,b⟩) (hX:∀ σ',P none → On σ R.own σ' R.own → σ.length ≤ σ'.length → X "TooLong" σ')
   (q:∀ an b' av σ',P (some (an,b')) → AnAt R.K σ' R.own an av → R.is σ' R.own b' → On σ R.own σ' R.own → σ.length ≤ σ'.length → Q av σ') :
   CallOk (T08 w s) (d + 7) X (.glob "worked") [.ref g,.str (S cs),.ref m,.str name,.int i] Q σ:=by
 refine CallOk.go TO rfl rfl ?_
 obtain ⟨n,hfin⟩:=hfin
 refine Cal.mk <| fn_frame (d:=d + 3) (pv:=(Pt.rule name).v) TO ?_
 refine Stx.mk <| StOk.while (Jw B R P rs cs g m (σ.length + 2) σ) n ⟨_,_,_,hfin,⟨rfl,rfl,rfl,congrArg (fun n => some (V.ref n)) (by simp),rfl,trivial⟩,Wk.init hnd hlt hm hin⟩ ?_
 rintro n ρ' σ' ⟨⟨fr,an,bk⟩,ls,av,fin,has,W⟩
 rw [← Has.eq has]
 generalize σ.length + 2 = lf at W
 have hfl:=W.fl
 cases ls with
 | nil =>
   refine vT_ok TO rfl 40 10 _ _ _ <| tvc.of (b:=false) (truth_list hfl (by decide)) ?_
   refine ite_no (by simp) ?_
   cases W.frs
   refine Zh fin.inv fun a h => ?_
   have ha:=h.1
   have hp:=h.2
   clear h
   cases ha
   exact q _ _ _ _ hp W.done.1 W.done.2.1 W.done.2.2 W.len
 | cons p ls =>
   obtain ⟨l,k⟩:=p
   refine Zh W.frs fun f h => h.elim fun r h' => ?_
   have e:=h'.1
   have hrs:=h'.2.2
   clear h h'
   cases e
   have rl:=fin.inv.1
   have fw:=fin.inv.2.1
   have hstop:=fin.inv.2.2
   have ll:ls.length ≤ 5000000:=hrs.length ▸ rl
   refine vT_ok TO rfl 40 10 _ _ _ <| tvc.of (b:=true) (truth_cons hfl (by simp; lia) (by simp)) ?_
   refine ite_yes rfl ?_
   refine vB_ok TO rfl 60 _ _ _ _ ?_
   have fl':σ'[lf]? = some (.list ((ls.map fun p => V.ref p.1).reverse ++ [.ref l])):=by rw [hfl]; simp
   refine Itm.list (j:=ls.length) (v:=.ref l) fl' (by rw [Zf,List.length_reverse,Zc]; exact seq_last) (by simp) ⟨by decide,by decide⟩ ?_
   have gl:g < σ.length ∧ gb < σ.length:=by
     obtain ⟨zz,zz,zz,h1,h2⟩:=hG
     exact ⟨(Zb.mp h1).1,(Zb.mp h2).1⟩
   refine Cal.mk <| fn_stepped (d:=d + 1) TO hB (hG.keep W.on hga hgb) (W.out hga gl.1) (W.out hgb gl.2) hc (W.pc f (Zt ..)) W.waits.1 W.waits.2.1 (W.rdy fw) ⟨fun v σ₂ o hl₂ sr => ?_,fun σ₂ o hl₂ hs => ?_⟩
   rotate_left
   · have on:=W.on
     rw [loc_cons] at on
     exact hX _ (by have hq:=hstop; rw [show stepOf (partOf rs) cs B f an bk = .stop from hs] at hq; exact hq) (on.trans ((W.kept o).1.trans (.less fun x hx => Zd _ (Zd _ (List.mem_append_right _ (Zd _ hx)))) hl₂) W.len) (Za W.len hl₂)
   cases W.turn hg fin o hl₂ sr with
   | push p i st ls us mm hmm fin' hf hz w' => exact Cmp.isN (r:=false) rfl <| MethOk.append hf <| Cal.mk <| fn_frame (d:=d + 3) TO <| Cal.mk <| CallOk.append (get_up hf) (szo (Za hz (by decide))) ⟨mm,hmm,⟨st,ls,.none,fin',⟨rfl,rfl,rfl,rfl,rfl,trivial⟩,w'⟩⟩
   | pop st ls us mm av' hmm fin' hf hz w' => exact Cmp.isN (r:=true) rfl <| MethOk.pop hf <| Cal.mk <| CallOk.pop hf (by rw [sizeLine_eq]; exact Zk hz (by decide)) ⟨mm,hmm,⟨st,ls,av',fin',⟨rfl,rfl,rfl,rfl,rfl,trivial⟩,w'⟩⟩
end
section
variable {w:World} {s:Shared} {d:Nat} {X:QX} {Q:QE} {σ:Hp} {rs:List (Str × Pt)} {g gb:Nat}
theorem fn_need_place (TO:TopOk (T08 w s)) (hn:(rs.map (·.1)).Nodup) (hG:GrT rs g gb σ) {cs:List Nat} {x:Str} {i:Int} (hc:cs.length < 100000) (q:x ∈ rs.map (·.1) → 0 ≤ i → i ≤ cs.length → Q .none σ) (qx:x ∉ rs.map (·.1) → False) (qy:x ∈ rs.map (·.1) → (i < 0 ∨ cs.length < i) → False) :
   CallOk (T08 w s) (d + 3) X (.glob "need_place") [.ref g,.str (S cs),.str x,.int i] Q σ:=by
 obtain ⟨C,hC⟩:=gr_cls (w:=w) (s:=s)
 refine CallOk.go TO rfl rfl ?_
 have hG':=hG
 obtain ⟨a,c,e,h5,h7⟩:=hG
 refine MethOk.own h5 rfl hC.cls hC.part <| Cal.mk <| fn_partT TO hn hG' (fun r hr hx => ?_) qx
 have hin:x ∈ rs.map (·.1):=Zsb.mpr ⟨r,hr,hx⟩
 have hS:(S cs).length = cs.length:=by simp [S,Str.length]
 refine Br.mk (fun h0 => Cal.len (n:=cs.length) (len_str_ hS) (by exact Za (by assumption) (by decide)) <| Br.mk (fun h1 => ?_) fun h1 => ?_) fun h0 => ?_
 · exact False.elim (qy hin (.inr (by simpa using h1)))
 · exact q hin (by simpa using h0) (by simpa using h1)
 · exact False.elim (qy hin (.inl (by simpa using h0)))
structure RdCls (T:Tp) (C:Addr):Prop where
 cls:ClsAt T "Reading" C
 grammar:FldAt T C "grammar"
 signs:FldAt T C "signs"
 memory:FldAt T C "memory"
 read:MetAt T C "read"
 tree:MetAt T C "tree"
 begun:MetAt T C "begun"
theorem rd_cls:∃ C,RdCls (T08 w s) C:=⟨_,⟨rfl,rfl,rfl,rfl,rfl,rfl⟩,⟨rfl,rfl⟩,⟨rfl,rfl⟩,⟨rfl,rfl⟩,⟨_,rfl,rfl,rfl⟩,⟨_,rfl,rfl,rfl⟩,⟨_,rfl,rfl,rfl⟩⟩
noncomputable def rdF (g:Nat) (cs:List Nat) (m:Nat):List (Str × V):=[("grammar",.ref g),("signs",.str (S cs)),("memory",.ref m)]
theorem fn_reading (TO:TopOk (T08 w s)) {cs:List Nat} (q:Q (.ref σ.length) (σ ++ [.inst "Reading" (rdF g cs (σ.length + 1)),.inst "Memory" (mmF (σ.length + 2) (σ.length + 3)),.tdict [],.list []])):CallOk (T08 w s) (d + 5) X (.glob "Reading") [.ref g,.str (S cs)] Q σ:=by
 obtain ⟨C,hC⟩:=rd_cls (w:=w) (s:=s)
 refine CallOk.make TO rfl rfl rfl rfl <| CodeOk.goM TO rfl rfl ?_
 refine SetAttrOk.to [("grammar",.ref g)] get_new hC.cls hC.grammar (by decide) rfl set_end ?_
 refine SetAttrOk.to [("grammar",.ref g),("signs",.str (S cs))] get_new hC.cls hC.signs (by simp) rfl set_end ?_
 refine Cal.mk <| fn_memory TO ?_
 exact SetAttrOk.to (rdF g cs (σ.length + 1)) (gs:=[("grammar",.ref g),("signs",.str (S cs))]) (get_up get_new) hC.cls hC.memory (by simp) (by simp [setKV,rdF]; decide) (σ':=σ ++ [.inst "Reading" (rdF g cs (σ.length + 1)),.inst "Memory" (mmF (σ.length + 2) (σ.length + 3)),.tdict [],.list []]) (by rw [Ze,Zf]; exact set0) ⟨rfl,q⟩
theorem fn_begun (TO:TopOk (T08 w s)) {l m a b:Nat} {cs:List Nat} {os:List V} (h0:σ[l]? = some (.inst "Reading" (rdF g cs m))) (h1:σ[m]? = some (.inst "Memory" (mmF a b))) (h2:σ[b]? = some (.list os)) (hz:os.length ≤ sizeLine) (q:Q (.ref σ.length) (σ ++ [.list os])):CallOk (T08 w s) (d + 2) X (.mth "Reading" "begun") [.ref l] Q σ:=by
 obtain ⟨C,hC⟩:=rd_cls (w:=w) (s:=s)
 obtain ⟨M,hM⟩:=mm_cls (w:=w) (s:=s)
 refine CallOk.goM TO rfl rfl ?_
 exact AttrOk.of h0 rfl rfl hC.cls hC.memory <| AttrOk.of h1 rfl rfl hM.cls hM.order <| Cal.list (vs:=os) (seq_list h2) hz q
theorem mem_book (TO:TopOk (T08 w s)) (hn:(rs.map (·.1)).Nodup) {m a b:Nat}:BookOk (T08 w s) memBk (memRep m a b) rs g gb m where
 sgn:=fun hp hc r q => fn_sgn TO hp hc r q
 rul:=fun hG hg hgb hin r q => fn_rul TO hn hG hg hgb hin r q
theorem MmAt.nodup {A:List Nat} {m a b:Nat} {mem:Mm} (h:MmAt σ A m a b mem):(memRep m a b).own.Nodup ∧ ∀ x ∈ (memRep m a b).own,x < σ.length:=by
 obtain ⟨kvs,h1,h2,h3,h4⟩:=h
 have n1:m ≠ a:=fun e => by rw [e,h2] at h1; cases h1
 have n2:a ≠ b:=fun e => by rw [e,h3] at h2; cases h2
 have n3:m ≠ b:=fun e => by rw [e,h3] at h1; cases h1
 refine ⟨by simp [memRep,n1,n2,n3],fun x hx => ?_⟩
 simp only [memRep,Zg,List.not_mem_nil,or_false] at hx
 rcases hx with rfl | rfl | rfl
 · exact (Zb.mp h1).1
 · exact (Zb.mp h2).1
 · exact (Zb.mp h3).1
theorem fn_read (TO:TopOk (T08 w s)) {cs:List Nat} {l m a b:Nat} {i:Int} {mem:Mm} {name:Str} {P:Option (An Kid × Mm) → Prop} (hg:GoodRules rs) (hG:GrT rs g gb σ) (hga:g ∉ [m,a,b]) (hgb:gb ∉ [m,a,b]) (hc:cs.length < 100000) (h0:σ[l]? = some (.inst "Reading" (rdF g cs m))) (hm:MmAt σ [m,a,b] m a b mem)
   (qx:name ∉ rs.map (·.1) → False) (qy:name ∈ rs.map (·.1) → (i < 0 ∨ cs.length < i) → False)
   (hfin:name ∈ rs.map (·.1) → ∀ j:Nat,i = j → j ≤ cs.length → ∃ n,Fin (partOf rs) cs memBk P n ⟨[.new (.rule name) j],none,mem⟩) (hP:¬ P none)
   (q:∀ an mem' σ',P (some (an,mem')) → MmAt σ' [m,a,b] m a b mem' → On σ [m,a,b] σ' [m,a,b] → σ.length ≤ σ'.length → Q (endV an.1) σ') :
   CallOk (T08 w s) (d + 8) X (.mth "Reading" "read") [.ref l,.str name,.int i] Q σ:=by
 obtain ⟨C,hC⟩:=rd_cls (w:=w) (s:=s)
 refine CallOk.goM TO rfl rfl ?_
 refine AttrOk.of h0 rfl rfl hC.cls hC.grammar <| AttrOk.of h0 rfl rfl hC.cls hC.signs <| Cal.mk <| fn_need_place (d:=d + 4) TO hg.nodup hG hc (fun hin hi0 hi1 => ?_) qx qy
 obtain ⟨j,rfl⟩:=Int.eq_ofNat_of_zero_le hi0
 refine AttrOk.of h0 rfl rfl hC.cls hC.grammar <| AttrOk.of h0 rfl rfl hC.cls hC.signs <| AttrOk.of h0 rfl rfl hC.cls hC.memory <| Cal.mk <| fn_worked (d:=d) (P:=P) (R:=memRep m a b) TO (mem_book TO hg.nodup) hg hG hga hgb hm.nodup.1 hm.nodup.2 hc hm hin (hfin hin j rfl (by lia)) (fun zz h => absurd h hP) fun an mem' av σ' hp ha hm' ho hl => ?_
 obtain ⟨la,vs,rfl,zz⟩:=ha
 exact q an mem' σ' hp hm' ho hl
end
section
variable {w:World} {s:Shared} {d:Nat} {X:QX} {Q:QE} {σ:Hp} {rs:List (Str × Pt)} {g gb:Nat}
noncomputable def rowV (r:Row):V:=.tup [.int r.1,.str r.2.1.1,.int r.2.1.2,.int r.2.2]
noncomputable def wtV (x:Nat × Kid):V:=.tup [.int x.1,.str x.2.1,.int x.2.2]
inductive Jt (K:Kid → Option (An Kid)) (tot:List Row) (σ:Hp) (a l k:Nat) (n:Nat) (ρ:Loc) (σ':Hp):Prop where
 | mk (done t:List Row) (st:List (Nat × Kid)) (h1:Walk K st t) (h2:done ++ t = tot) (h3:n = t.length) (h4:Has ρ [("kept",.ref a),("rows",.ref l),("waiting",.ref k)]) (h5:σ' = σ ++ [.list (done.map rowV),.list ((st.map wtV).reverse)]):Jt K tot σ a l k n ρ σ'
inductive Ju (σ:Hp) (a l k d:Nat) (ts:List V) (st:List (Nat × Kid)) (ks:List Kid) (one:V) (i:Nat) (ρ:Loc) (σ':Hp):Prop where
 | mk (h4:Has ρ [("kept",.ref a),("rows",.ref l),("waiting",.ref k),("one",one)]) (h5:σ' = σ ++ [.list ts,.list ((st.map wtV).reverse ++ (ks.reverse.take i).map fun x => wtV (d + 1,x))]):Ju σ a l k d ts st ks one i ρ σ'
theorem two_set {x y z:MObj}:(σ ++ [x,y]).set (σ.length + 1) z = σ ++ [x,z]:=set1
theorem two_set0 {x y z:MObj}:(σ ++ [x,y]).set σ.length z = σ ++ [z,y]:=set0
theorem two_get {x y:MObj}:(σ ++ [x,y])[σ.length + 1]? = some y:=get1
theorem two_get0 {x y:MObj}:(σ ++ [x,y])[σ.length]? = some x:=get0
theorem Cal.pop2 {T:Tp} {d:Nat} {X:QX} {Q:QE} {σ:Hp} {o:MObj} {L vs:List V} {v:V} (e:L = vs ++ [v]) (hn:vs.length ≤ 12000000) (q:Q v (σ ++ [o,.list vs])):Cal T d X (.bi "list.pop") [.ref (σ.length + 1)] Q (σ ++ [o,.list L]):=by
 subst e
 exact Cal.mk (CallOk.pop two_get (by rw [sizeLine_eq]; exact Zk hn (by decide)) (by rw [two_set]; exact q))
theorem Cal.app2 {T:Tp} {d:Nat} {X:QX} {Q:QE} {σ:Hp} {o:MObj} {vs:List V} {v:V} (hn:vs.length ≤ 12000000) (q:Q .none (σ ++ [o,.list (vs ++ [v])])):Cal T d X (.bi "list.append") [.ref (σ.length + 1),v] Q (σ ++ [o,.list vs]) :=
 Cal.mk (CallOk.append two_get (szo (Za hn (by decide))) (by rw [two_set]; exact q))
theorem Cal.app0 {T:Tp} {d:Nat} {X:QX} {Q:QE} {σ:Hp} {o:MObj} {vs:List V} {v:V} (hn:vs.length ≤ 12000000) (q:Q .none (σ ++ [.list (vs ++ [v]),o])):Cal T d X (.bi "list.append") [.ref σ.length,v] Q (σ ++ [.list vs,o]) :=
 Cal.mk (CallOk.append two_get0 (szo (Za hn (by decide))) (by rw [two_set0]; exact q))
theorem tree_loop {body:List Stmt} {test:Expr} {pos:Pos} {sc:Scope} {XX:XS} {QQ:QS} {ρ:Loc} {mem:Mm} {m a b:Nat} {t:List Row} {k0:Kid} (hm:MmAt σ [m,a,b] m a b mem) (ht:Tr (getM mem.kept) 0 [k0] t) (hz:t.length ≤ 12000000)
   (h0:Has ρ [("kept",.ref a),("rows",.ref σ.length),("waiting",.ref (σ.length + 1))])
   (turn:∀ n ρ σ',Jt (getM mem.kept) t σ a σ.length (σ.length + 1) n ρ σ' → TsOk (T08 w s) d sc ρ XX test (fun b σ₁ => if b then ExOk (T08 w s) d sc ρ XX body (loopQ QQ fun ρ₂ σ₂ => ∃ m,m < n ∧ Jt (getM mem.kept) t σ a σ.length (σ.length + 1) m ρ₂ σ₂) σ₁ else QQ .next ρ σ₁) σ') :
   StOk (T08 w s) d sc ρ XX (.While test body [] pos) QQ (σ ++ [.list [],.list [wtV (0,k0)]]) :=
 StOk.while (Jt (getM mem.kept) t σ a σ.length (σ.length + 1)) t.length ⟨[],t,[(0,k0)],by simpa using ht.walk .nil,rfl,rfl,h0,rfl⟩ turn
theorem fn_tree (TO:TopOk (T08 w s)) {cs:List Nat} {l m a b:Nat} {i:Int} {mem:Mm} {name:Str} {P:Option (An Kid × Mm) → Prop} (hg:GoodRules rs) (hG:GrT rs g gb σ) (hga:g ∉ [m,a,b]) (hgb:gb ∉ [m,a,b]) (hc:cs.length < 100000) (h0:σ[l]? = some (.inst "Reading" (rdF g cs m))) (hl0:l ∉ [m,a,b]) (hm:MmAt σ [m,a,b] m a b mem)
   (qx:name ∉ rs.map (·.1) → False) (qy:name ∈ rs.map (·.1) → (i < 0 ∨ cs.length < i) → False)
   (hfin:name ∈ rs.map (·.1) → ∀ j:Nat,i = j → j ≤ cs.length → ∃ n,Fin (partOf rs) cs memBk P n ⟨[.new (.rule name) j],none,mem⟩) (hP:¬ P none)
   (htr:∀ an mem' e,P (some (an,mem')) → an.1 = some e → ∀ j:Nat,i = j → j ≤ cs.length → ∃ t,Tr (getM mem'.kept) 0 [(name,j)] t ∧ t.length ≤ 12000000)
   (q0:∀ an mem' σ',P (some (an,mem')) → an.1 = none → MmAt σ' [m,a,b] m a b mem' → On σ [m,a,b] σ' [m,a,b] → σ.length ≤ σ'.length → Q .none σ')
   (q1:∀ an mem' e σ' t (j:Nat),P (some (an,mem')) → an.1 = some e → i = j → MmAt σ' [m,a,b] m a b mem' → On σ [m,a,b] σ' [m,a,b] → σ.length ≤ σ'.length → Tr (getM mem'.kept) 0 [(name,j)] t → Q (.ref σ'.length) (σ' ++ [.list (t.map rowV),.list []])) :
   CallOk (T08 w s) (d + 9) X (.mth "Reading" "tree") [.ref l,.str name,.int i] Q σ:=by
 obtain ⟨C,hC⟩:=rd_cls (w:=w) (s:=s)
 obtain ⟨M,hM⟩:=mm_cls (w:=w) (s:=s)
 refine CallOk.goM TO rfl rfl ?_
 refine MethOk.own h0 rfl hC.cls hC.read <| Cal.mk <| fn_read (d:=d) (P:=fun o => P o ∧ ∃ j:Nat,i = j ∧ j ≤ cs.length) TO hg hG hga hgb hc h0 hm qx qy (fun hin j hj hjl => ?_) (fun h => hP h.1) fun an mem' σ' hp0 hm' ho hl => ?_
 · obtain ⟨n,hn⟩:=hfin hin j hj hjl
   exact ⟨n,hn.mono fun o ho => ⟨ho,j,hj,hjl⟩⟩
 refine hp0.elim fun hp h => h.elim fun j h => h.elim fun hj hjl => ?_
 clear hp0
 subst hj
 obtain ⟨x,us⟩:=an
 cases x with
 | none => exact Cmp.isN (r:=true) rfl <| q0 _ mem' σ' hp rfl hm' ho hl
 | some e =>
   refine (htr _ mem' e hp rfl j rfl hjl).elim fun t h => h.elim fun ht hz => ?_
   have h0':σ'[l]? = some (.inst "Reading" (rdF g cs m)):=ho.keep _ _ h0 hl0
   refine MmAt.use hm' fun kvs m1 m2 m3 m4 => ?_
   refine Cmp.isN (r:=false) rfl <| AttrOk.of h0' rfl rfl hC.cls hC.memory <| AttrOk.of m1 rfl rfl hM.cls hM.kept ?_
   have e1:σ' ++ [MObj.list []] ++ [.list [.tup [.int 0,.str name,.int j]]] = σ' ++ [.list [],.list [wtV (0,(name,j))]]:=by simp [wtV]
   show Stx _ _ _ _ _ _ _ (σ' ++ [MObj.list []] ++ [.list [.tup [.int 0,.str name,.int j]]])
   rw [e1]
   refine Stx.mk <| tree_loop (t:=t) (k0:=(name,j)) hm' ht hz ⟨rfl,rfl,congrArg (fun n => some (V.ref n)) (by simp),trivial⟩ ?_
   rintro n ρ' σ₂ ⟨done,t',st,k1,k2,k3,k4,rfl⟩
   rw [← Has.eq k4]
   have zt:t'.length ≤ 12000000:=by rw [← k2,Zf] at hz; exact Za (Ztb _ _) hz
   have zs:st.length ≤ 12000000:=Za k1.len zt
   have zd:done.length ≤ 12000000:=by rw [← k2,Zf] at hz; exact Za (Zy _ _) hz
   cases k1 with
   | nil =>
     refine vT_ok TO rfl 40 10 _ _ _ <| tvc.of (b:=false) (truth_list two_get (by decide)) ?_
     refine ite_no (by simp) ?_
     rw [List.append_nil] at k2
     subst k2
     exact q1 _ mem' e σ' done j hp rfl rfl hm' ho hl ht
   | @cons dp e2 k ks r t2 hk hw =>
     refine vT_ok TO rfl 40 10 _ _ _ <| tvc.of (b:=true) (truth_cons two_get (by rw [List.length_reverse,Zc]; exact Zk zs (by decide)) (by simp)) ?_
     refine ite_yes rfl ?_
     refine vB_ok TO rfl 60 _ _ _ _ ?_
     have w1:(((dp,k) :: r).map wtV).reverse = (r.map wtV).reverse ++ [wtV (dp,k)]:=by simp
     have zr:r.length ≤ 12000000:=Nat.le_of_succ_le zs
     refine MethOk.pop two_get <| Cal.pop2 w1 (by rw [List.length_reverse,Zc]; exact zr) ?_
     refine m4.got hk fun la x2 x3 x4 => ?_
     refine Itm.pair (k:=(k.1,(k.2:Int))) (get_up m2) x2 <| MethOk.append two_get0 <| Cal.app0 (by rw [Zc]; exact zd) ?_
     have zk:ks.length + r.length ≤ 12000000:=by have:=hw.len; simp at this zt; exact Za (Za (by assumption) (by assumption)) (by decide)
     refine gd.of (by rfl) ?_
     refine RevOk.mk la (ks.map pV') rfl (get_up x4) ?_
     refine ForOk.mk (ks.map pV').reverse (Ju σ' a σ'.length (σ'.length + 1) dp (done.map rowV ++ [.tup [.int dp,.str k.1,.int k.2,.int e2]]) r ks (wtV (dp,k))) ⟨⟨rfl,rfl,rfl,rfl,trivial⟩,by rw [List.take_zero,List.map_nil,List.append_nil]; rfl⟩ (fun n ρ₂ σ₂ hJ => ?_) (fun ρ₂ σ₂ hJ => ?_) fun n x ρ₂ σ₂ hJ hx => ?_
     · obtain ⟨zz,rfl⟩:=hJ
       exact iter_rev (get_up x4)
     · obtain ⟨h4,rfl⟩:=hJ
       rw [← Has.eq h4]
       refine ⟨t2.length,by simp [k3],done ++ [(dp,k,e2)],t2,ks.map (dp + 1,·) ++ r,hw,by rw [← k2]; simp,rfl,⟨rfl,rfl,rfl,trivial⟩,?_⟩
       simp only [List.length_reverse,Zc,List.map_append,List.map_cons,List.map_nil,rowV,List.reverse_append]
       rw [show ks.reverse.take ks.length = ks.reverse from List.take_of_length_le (by simp)]
       simp only [List.map_map,List.map_reverse]; rfl
     · obtain ⟨h4,rfl⟩:=hJ
       rw [← Has.eq h4]
       rw [← List.map_reverse] at hx
       obtain ⟨kid,hkid,rfl⟩:=map_at hx
       have hlt:=(Zb.mp hkid).1
       rw [List.length_reverse] at hlt
       refine ⟨_,rfl,vB_ok TO rfl 60 _ _ _ _ ?_⟩
       refine MethOk.append two_get <| Cal.app2 (by rw [Zf,List.length_reverse,Zc,Zc,List.length_take,List.length_reverse,Nat.add_comm]; exact Za (Nat.add_le_add_right (Nat.min_le_right ..) _) zk) ?_
       refine ⟨⟨rfl,rfl,rfl,rfl,trivial⟩,?_⟩
       rw [take_next hkid]; simp [wtV]
end
section
variable {w:World} {s:Shared} {d:Nat} {X:QX} {Q:QE} {σ:Hp} {rs:List (Str × Pt)} {g gb:Nat}
theorem rd_ent:∃ C,RdCls (T08 w s) C ∧ MetAt (T08 w s) C "entries":=⟨_,⟨⟨rfl,rfl,rfl,rfl,rfl,rfl⟩,⟨rfl,rfl⟩,⟨rfl,rfl⟩,⟨rfl,rfl⟩,⟨_,rfl,rfl,rfl⟩,⟨_,rfl,rfl,rfl⟩,⟨_,rfl,rfl,rfl⟩⟩,⟨_,rfl,rfl,rfl⟩⟩
inductive J08en (mem:Mm) (σ:Hp) (l:Nat) (i:Nat) (ρ':Loc) (σ':Hp):Prop where
 | mk (vs:List V) (jk:Hp) (h1:EnR (σ.length + 1) σ' ((tl mem).take i) vs) (h2:Has ρ' [("self",.ref l),("found",.ref σ.length)]) (h3:σ' = σ ++ .list vs :: jk):J08en mem σ l i ρ' σ'
theorem keep_new {σ:Hp} {x y:MObj} {jk jk':Hp} (l:Nat) (o:MObj) (hl:σ.length + 1 ≤ l) (h:(σ ++ x :: jk)[l]? = some o):(σ ++ y :: (jk ++ jk'))[l]? = some o:=by
 obtain ⟨j,rfl⟩:=Nat.exists_eq_add_of_le hl
 rw [List.getElem?_append_right (Nat.le_of_succ_le hl),Nat.add_assoc,Nat.add_sub_cancel_left,Nat.add_comm 1 j,List.getElem?_cons_succ] at h ⊢
 exact get_up h
theorem set_app {x y:MObj} {jk r:Hp}:((σ ++ x :: jk) ++ r).set σ.length y = σ ++ y :: (jk ++ r):=by rw [Ze,List.cons_append]; exact set0
theorem set_app2 {x y a b:MObj} {jk:Hp}:((σ ++ x :: jk) ++ [a] ++ [b]).set σ.length y = σ ++ y :: (jk ++ [a,b]):=by rw [Ze (σ ++ x :: jk)]; exact set_app
theorem get_nx {x y z:MObj} {jk:Hp}:(σ ++ y :: (jk ++ [z]))[(σ ++ x :: jk).length]? = some z:=by
 rw [show σ ++ y :: (jk ++ [z]) = (σ ++ y :: jk) ++ [z] by simp,show (σ ++ x :: jk).length = (σ ++ y :: jk).length by simp]; exact get_new
theorem len_nx {x:MObj} {jk:Hp}:σ.length + 1 ≤ (σ ++ x :: jk).length:=by rw [Zf]; exact Nat.add_le_add_left (Nat.succ_le_succ (Zkb _)) _
theorem len_nx2 {x y:MObj} {jk:Hp}:σ.length + 1 ≤ (σ ++ x :: jk ++ [y]).length:=Za len_nx (Zf ▸ Zy ..)
theorem get_nx2 {x y z u:MObj} {jk:Hp}:(σ ++ y :: (jk ++ [z,u]))[(σ ++ x :: jk ++ [z]).length]? = some u:=by
 rw [Ze,show jk ++ [z,u] = (jk ++ [z]) ++ [u] by rw [Ze]; rfl]; exact get_nx
theorem nrm_no {a:An Kid} (h:a.1 = none):nrm (some a) = (none,[]):=by
 obtain ⟨x,us⟩:=a
 cases h; rfl
theorem nrm_yes {a:An Kid} {e:Nat} (h:a.1 = some e):nrm (some a) = (some e,a.2):=by
 obtain ⟨x,us⟩:=a
 cases h; rfl
theorem fn_entries (TO:TopOk (T08 w s)) {cs:List Nat} {l m a b:Nat} {mem:Mm} {A:List Nat} (h0:σ[l]? = some (.inst "Reading" (rdF g cs m))) (hm:MmAt σ A m a b mem) (ho:mem.order.length ≤ 5000000) (hd:∀ k ∈ mem.order,∃ a,getM mem.kept k = some a) (hz:∀ k a,getM mem.kept k = some a → a.2.length ≤ 5000000)
   (q:∀ vs jk,EnR (σ.length + 1) (σ ++ .list vs :: jk) (tl mem) vs → Q (.ref σ.length) (σ ++ .list vs :: jk)):CallOk (T08 w s) (d + 2) X (.mth "Reading" "entries") [.ref l] Q σ:=by
 obtain ⟨C,hC,zz⟩:=rd_ent (w:=w) (s:=s)
 obtain ⟨M,hM⟩:=mm_cls (w:=w) (s:=s)
 refine CallOk.goM TO rfl rfl ?_
 refine MmAt.use hm fun kvs h1 h2 h3 h4 => ?_
 refine AttrOk.of (get_up h0) rfl rfl hC.cls hC.memory <| AttrOk.of (get_up h1) rfl rfl hM.cls hM.order <| ForOk.mk (mem.order.map pV') (J08en mem σ l) ⟨[],[],.nil,⟨rfl,rfl,trivial⟩,rfl⟩ (fun i ρ' σ' hJ => ?_) (fun ρ' σ' hJ => ?_) fun i x ρ' σ' hJ hx => ?_
 · obtain ⟨vs,jk,zz,zz,rfl⟩:=hJ
   exact iter_list (get_up h3)
 · obtain ⟨vs,jk,e1,e2,rfl⟩:=hJ
   obtain ⟨r,rfl⟩:=e2.use
   rw [Zc,List.take_of_length_le (by unfold tl; rw [Zc]; exact Zl _)] at e1
   exact q vs jk e1
 · obtain ⟨vs,jk,e1,e2,rfl⟩:=hJ
   obtain ⟨r,rfl⟩:=e2.use
   obtain ⟨k,hk,rfl⟩:=map_at hx
   have hkm:=Zn hk
   obtain ⟨an,hga⟩:=hd k hkm
   have hnx:(tl mem)[i]? = some (k,nrm (some an)):=by unfold tl; rw [Zdb,hk,← hga]; rfl
   have hvl:vs.length ≤ 5000000:=by rw [e1.length]; exact Za (List.length_take_le' ..) (by unfold tl; rw [Zc]; exact ho)
   refine h4.has hga fun la x2 x4 => ?_
   have hl5:=hz k an hga
   refine ⟨_,rfl,vB_ok TO rfl 60 _ _ _ _ ?_⟩
   refine AttrOk.of (get_up h0) rfl rfl hC.cls hC.memory <| AttrOk.of (get_up h1) rfl rfl hM.cls hM.kept <| Itm.pair (k:=(k.1,(k.2:Int))) (get_up h2) x2 <| Cal.list (vs:=an.2.map pV') (seq_list (get_up x4)) (by rw [Zc]; exact szo (Za hl5 (by decide))) ?_
   have nx:∀ {a':An Kid} {jk':Hp} {l':Nat},nrm (some an) = a' → (σ ++ .list (vs ++ [entV k a' l']) :: (jk ++ jk'))[l']? = some (.list (a'.2.map pV')) → σ.length + 1 ≤ l' → ∀ {ρ:Loc},Has ρ [("self",.ref l),("found",.ref σ.length)] → J08en mem σ l (i + 1) ρ (σ ++ .list (vs ++ [entV k a' l']) :: (jk ++ jk')):=fun {a' jk' l'} e g gl {ρ} has =>
     ⟨_,_,by rw [take_next hnx,e]; exact (e1.up keep_new).snoc g gl,has,rfl⟩
   generalize hx:an.1 = x
   cases x with
   | none =>
     refine Cmp.isN (r:=true) rfl <| MethOk.append (vs:=vs) (get_up (get_up get0)) <| Cal.mk <| CallOk.append (get_up (get_up get0)) (szo (Za hvl (by decide))) ?_
     rw [set_app2]
     exact nx (a':=(none,[])) (jk':=[MObj.list (an.2.map pV'),.list []]) (nrm_no hx) get_nx2 len_nx2 ⟨rfl,rfl,trivial⟩
   | some e =>
     refine Cmp.isN (r:=false) rfl <| MethOk.append (vs:=vs) (get_up get0) <| Cal.mk <| CallOk.append (get_up get0) (szo (Za hvl (by decide))) ?_
     rw [set_app]
     exact nx (a':=(some e,an.2)) (nrm_yes hx) get_nx len_nx ⟨rfl,rfl,trivial⟩
end
section
variable {w:World} {s:Shared} {d:Nat} {X:QX} {Q:QE} {σ:Hp}
theorem fn_text_sign (TO:TopOk (T08 w s)) {cell:Int} {sg x y z:Nat} (hs:Sg x y z) (hsg:σ[sg]? = some (.list [.str (S [x]),.str (S [y]),.str (S [z])])) (q:∀ c,isSignC c = true → Q (.str (S [c])) σ):CallOk (T08 w s) (d + 2) X (.glob "_law_text_sign") [.int cell,.ref sg] Q σ:=by
 refine CallOk.go TO rfl rfl ?_
 exact Br.mk (fun zz => item_sg hs hsg (fmod_range (by decide)).1 (fmod_range (by decide)).2 fun c hc zz => q c hc) fun zz => Cal.mk <| fn_sign_by TO q
theorem text_len (cell:Int):∃ n:Nat,n ≤ 149 ∧ ((cell.fdiv 13).fmod 8 == 1 → 20 + (cell.fdiv 104).fmod 130 = n) ∧ (¬ (cell.fdiv 13).fmod 8 == 1 → cell.fmod 13 = n):=by
 obtain ⟨a,ea,la⟩:=nat_lt (n:=13) (fmod_range (a:=cell) (b:=13) (by decide))
 obtain ⟨b,eb,lb⟩:=nat_lt (n:=130) (fmod_range (a:=cell.fdiv 104) (b:=130) (by decide))
 by_cases h:(cell.fdiv 13).fmod 8 == 1
 · exact ⟨20 + b,by omega,fun zz => by rw [eb]; rfl,fun g => absurd h g⟩
 · exact ⟨a,by omega,fun g => absurd g h,fun zz => ea⟩
inductive J08t (σ:Hp) (n:Nat) (i:Nat) (acc:List V) (σ':Hp):Prop where
 | mk (cs:List Nat) (q0:cs.length = i) (q1:∀ c ∈ cs,isSignC c = true) (q2:acc = cs.map fun c => V.str (S [c])) (q3:i ≤ n) (q4:σ' = σ):J08t σ n i acc σ'
theorem ix_ok {n i:Nat} (hn:n ≤ 40) (hi:i ≤ 149):0 ≤ (3:Int) + n + i ∧ (3:Int) + n + i < 2 ^ 62:=⟨Int.natCast_nonneg (3 + n + i),Zfb.mpr (Zk (Zcb (Nat.add_le_add_left hn 3) hi) (by decide))⟩
theorem snoc_all {cs:List Nat} {c:Nat} (h:∀ c ∈ cs,isSignC c = true) (hc:isSignC c = true):∀ x ∈ cs ++ [c],isSignC x = true:=fun x hx => (Zm.mp hx).elim (h x) fun e => Zj.mp e ▸ hc
theorem join_S {T:Tp} {cs:List Nat} {l:Nat} (hl:σ[l]? = some (.list (cs.map fun c => V.str (S [c])))) (hn:cs.length ≤ 149) (q:Q (.str (S cs)) σ):Cal T d X (.bi "str.join") [.str (Str.ofString ""),.ref l] Q σ :=
 ⟨CallOk.join (allS_map cs ▸ hl) (by rw [sum_len,Zc]; clear q hl; omega) (by decide +kernel) (by rw [str_nil,S_join]; exact q)⟩
theorem text_comp (TO:TopOk (T08 w s)) {sc scope:Scope} {ρ:Loc} {v:Str} {elt:Expr} {m:Int} {n:Nat} (hm:m = n) (hn:n ≤ 149) (q:∀ cs:List Nat,cs.length ≤ 149 → (∀ c ∈ cs,isSignC c = true) → Q (.str (S cs)) (σ ++ [.list (cs.map fun c => V.str (S [c]))]))
   (h:∀ i:Nat,i < n → EvOk (T08 w s) d (relab scope sc) (upd (compLoc scope ρ) v (some (.int i))) X elt (fun v σ' => ∃ c,isSignC c = true ∧ v = .str (S [c]) ∧ σ' = σ) σ):CompOk (T08 w s) d sc ρ X scope v [] elt (fun u σ' => Cal (T08 w s) d X (.bi "str.join") [.str (Str.ofString ""),u] Q σ') (.rng m) σ:=by
 subst hm
 have h62:(n:Int) < 2 ^ 62:=Int.lt_of_le_of_lt (Int.ofNat_le.mpr hn) (show (149:Int) < 2 ^ 62 by decide)
 refine ⟨_,J08t σ n,⟨[],rfl,fun c hc => absurd hc List.not_mem_nil,rfl,Zkb _,rfl⟩,fun i acc σ' hJ => ⟨rng_iter (Int.natCast_nonneg n) h62,?_⟩,fun acc σ' hJ => ?_,fun i y acc σ' hJ hy => ?_⟩
 · obtain ⟨cs,h1,h2,rfl,h3,zz⟩:=hJ
   rw [Zc,h1]; exact szo (Za (Za h3 hn) (by decide))
 · obtain ⟨cs,h1,h2,rfl,h3,rfl⟩:=hJ
   have l9:cs.length ≤ 149:=h1 ▸ Za h3 hn
   exact join_S get_new l9 (q cs l9 h2)
 · obtain ⟨cs,h1,h2,rfl,h3,rfl⟩:=hJ
   obtain ⟨hi,rfl⟩:=rng_at hy
   rw [Int.toNat_natCast] at hi
   refine (h i hi).mono (fun v σ' hv => ?_) fun zz zz h => h
   obtain ⟨c,hc,rfl,rfl⟩:=hv
   exact ⟨cs ++ [c],Zf.trans (congrArg Nat.succ h1),snoc_all h2 hc,by rw [List.map_append]; rfl,hi,rfl⟩
theorem fn_text_by (TO:TopOk (T08 w s)) {xs:List Int} (hx:xs.length < 2 ^ 62) {n sg x y z:Nat} (hn:n ≤ 40) (hs:Sg x y z) (hsg:σ[sg]? = some (.list [.str (S [x]),.str (S [y]),.str (S [z])]))
   (q:∀ cs:List Nat,cs.length ≤ 149 → (∀ c ∈ cs,isSignC c = true) → ∀ o,Q (.str (S cs)) (σ ++ [o])):CallOk (T08 w s) (d + 3) X (.glob "_law_text_by") [.scr xs,.int n,.ref sg] Q σ:=by
 refine CallOk.go TO rfl rfl ?_
 refine Cal.mk <| fn_cell_at TO (by decide) (by decide) hx ?_
 obtain ⟨m,hm,e1,e2⟩:=text_len (xs.getD (1:Int).toNat 0)
 refine Br.mk (fun h => ?_) fun h => ?_
 · refine MethOk.join <| Cal.range <| text_comp TO (e1 h) hm (fun cs h1 h2 => q cs h1 h2 _) fun i hi => vE_ok TO rfl 40 _ _ _ ?_
   have r:=ix_ok hn (Za (Zq hi) hm)
   exact Cal.mk <| fn_cell_at TO r.1 r.2 hx <| Bin.mull rfl <| Cal.mk <| fn_text_sign TO hs hsg fun c hc => ⟨c,hc,rfl,rfl⟩
 · refine MethOk.join <| Cal.range <| text_comp TO (e2 (by rw [h]; decide)) hm (fun cs h1 h2 => q cs h1 h2 _) fun i hi => vE_ok TO rfl 40 _ _ _ ?_
   have r:=ix_ok hn (Za (Zq hi) hm)
   exact Cal.mk <| fn_cell_at TO r.1 r.2 hx <| Bin.mull rfl <| Cal.mk <| fn_text_sign TO hs hsg fun c hc => ⟨c,hc,rfl,rfl⟩
theorem ne0 {n:Nat} (h:1 ≤ n):((n:Int) != 0) = true:=bne_iff_ne.mpr (by lia)
theorem place3 {c:Int} {sz:Nat} (i:Nat) (h:i < 3):∃ j:Nat,j ≤ sz ∧ [V.int 0,.int 0,.int (c.fmod ((sz:Int) + 1))][i]? = some (.int j):=by
 obtain ⟨p,e,l⟩:=nat_lt (n:=sz + 1) (fmod_range (a:=c) (b:=(sz:Int) + 1) (by lia))
 rw [e]
 exact lt3 (P:=fun i => ∃ j:Nat,j ≤ sz ∧ [V.int 0,.int 0,.int p][i]? = some (.int j)) ⟨0,Zkb _,rfl⟩ ⟨0,Zkb _,rfl⟩ ⟨p,Nat.le_of_lt_succ l,rfl⟩ i h
theorem fn_start_by (TO:TopOk (T08 w s)) {xs:List Int} (hx:xs.length < 2 ^ 62) {rs:List (Str × Pt)} {l sz:Nat} {t:Int} (h1:1 ≤ rs.length) (h40:rs.length ≤ 40) (hl:σ[l]? = some (.list (rs.map ruleV)))
   (q:∀ n j,n ∈ rs.map (·.1) → j ≤ sz → ∀ o,Q (.tup [.str n,.int (j:Nat)]) (σ ++ [o])):CallOk (T08 w s) (d + 2) X (.glob "_law_start_by") [.scr xs,.ref l,.int sz,.int t] Q σ:=by
 refine CallOk.go TO rfl rfl ?_
 have cell:∀ {k:Int} {K:QE} {τ:Hp},decide (0 ≤ k ∧ k < 2 ^ 62) = true → K (.int (xs.getD k.toNat 0)) τ → Cal (T08 w s) (d + 1) X (.glob "_law_cell_at") [.scr xs,.int k] K τ:=fun hk h => ⟨fn_cell_at TO (Zgb hk).1 (Zgb hk).2 hx h⟩
 refine cell rfl <| Bin.mull rfl <| cell rfl <| Bin.mull rfl <| cell rfl ?_
 obtain ⟨i3,e3,h3⟩:=nat_lt (n:=3) (fmod_range (a:=xs.getD (0:Int).toNat 0 + 3 * t + t) (b:=3) (by decide))
 obtain ⟨j,hj,ej⟩:=place3 (c:=xs.getD (1:Int).toNat 0 + 7 * t + xs.getD (2:Int).toNat 0) (sz:=sz) i3 h3
 refine Itm.mk <| item_at (j:=i3) get_new e3 ej (show 3 < 2 ^ 62 by decide) ?_
 obtain ⟨k,e1,lk⟩:=nat_lt (n:=rs.length) (fmod_range (a:=(xs.getD (0:Int).toNat 0 + 3 * t).fdiv 3 + (xs.getD (1:Int).toNat 0 + 7 * t)) (b:=(rs.length:Int)) (by lia))
 have g1:(rs.map ruleV)[k]? = some (ruleV rs[k]):=by rw [Zdb,Zp lk]; rfl
 refine Cal.len (n:=rs.length) (len_at (get_up hl) (Zc _)) (Zk h40 (by decide)) <| gd.of (ne0 h1) <| Itm.mk <| item_at (j:=k) (get_up hl) e1 g1 (by rw [Zc]; exact Zk h40 (by decide)) ?_
 exact q _ j (Zsb.mpr ⟨_,List.getElem_mem lk,rfl⟩) hj _
end
section
variable {w:World} {s:Shared} {d:Nat} {X:QX} {Q:QE} {σ:Hp}
section
variable {st l:Nat} {a b:MObj} {jk jk':Hp}
theorem st_get (h:st < σ.length):(σ.set st a ++ jk)[st]? = some a:=by rw [Zbb (by rw [List.length_set]; exact h),Zw h]
theorem st_ot {o:MObj} (hl:l ≠ st) (h:σ[l]? = some o):(σ.set st a ++ jk)[l]? = some o:=by rw [Zbb (by rw [List.length_set]; exact (Zb.mp h).1),Zi (Ne.symm hl)]; exact h
theorem st_on (h:st < σ.length):(σ.set st a ++ jk).set st b ++ jk' = σ.set st b ++ (jk ++ jk'):=by rw [List.set_append_left _ _ (by rw [List.length_set]; exact h),List.set_set,Ze]
theorem st_on0 (h:st < σ.length):(σ.set st a ++ jk).set st b = σ.set st b ++ jk:=by rw [List.set_append_left _ _ (by rw [List.length_set]; exact h),List.set_set]
theorem st_self (h:σ[st]? = some a):σ.set st a = σ:=by
 obtain ⟨h1,h2⟩:=Zb.mp h
 subst h2; exact List.set_getElem_self h1
end
theorem Cmp.isB {a:V} {c r:Bool} (h:isBoolV c a = some r) (q:Q (.bool r) σ):Cmp .Is a (.bool c) Q σ:=⟨r,.isB _ _ _ h,q⟩
theorem Cmp.notB {a:V} {c r:Bool} (h:isBoolV c a = some r) (q:Q (.bool (!r)) σ):Cmp .IsNot a (.bool c) Q σ:=⟨_,.notB _ _ _ h,q⟩
inductive CmS (xs:List (Kid × An Kid)) (lt la:Nat) (us:List V) (σ:Hp):Prop where
 | mk (kvs:List ((Str × Int) × V)) (h1:σ[la]? = some (.list us)) (h2:σ[lt]? = some (.tdict kvs)) (h3:KeptR σ [la] xs kvs):CmS xs lt la us σ
section
variable {xs:List (Kid × An Kid)} {lt la:Nat} {us us':List V} {jk:Hp}
theorem CmS.at_ (h:CmS xs lt la us σ):σ[la]? = some (.list us):=h.rec fun zz h zz zz => h
theorem CmS.lth (h:CmS xs lt la us σ):la < σ.length:=(Zb.mp h.at_).1
theorem on_la {x:MObj}:On σ [la] (σ.set la x ++ jk) [la]:=On.trans (.put (Zj.mpr rfl)) .up (Zr List.length_set.symm)
theorem CmS.on (h:CmS xs lt la us σ):CmS xs lt la us' (σ.set la (.list us') ++ jk):=h.rec fun kvs h1 h2 h3 => ⟨kvs,st_get h.lth,st_ot (fun e => by rw [e,h1] at h2; cases h2) h2,h3.keep on_la⟩
theorem CmS.self (h:CmS xs lt la us σ):σ.set la (.list us) ++ jk = σ ++ jk:=by rw [st_self h.at_]
end
structure CmQ (la:Nat) (us:List V) (as:List Kid) (i:Nat) (o:Rs) (Q:QE) (σ:Hp):Prop where
 no:o = none → ∀ l jk,(σ.set la (.list (us ++ as.map pV')) ++ jk)[l]? = some (.list []) → Q (.tup [.bool false,.int i,.ref l]) (σ.set la (.list (us ++ as.map pV')) ++ jk)
 yes:∀ e ks,o = some (e,ks) → ∀ l jk,(σ.set la (.list (us ++ as.map pV')) ++ jk)[l]? = some (.list (ks.map pV')) → Q (.tup [.bool true,.int (e:Nat),.ref l]) (σ.set la (.list (us ++ as.map pV')) ++ jk)
noncomputable def ComeAt (w:World) (s:Shared) (xs:List (Kid × An Kid)) (cs:List Nat) (lt la d n:Nat):Prop:=∀ (p:Pt) (i:Nat) (o:Rs) (as:List Kid) (us:List V) (X:QX) (Q:QE) (σ:Hp),
 p.deep ≤ n → Rv cs (getM xs) p i o as → i ≤ cs.length → p.wt ≤ 20000 → CmS xs lt la us σ → us.length + as.length ≤ 16000000 → CmQ la us as i o Q σ → CallOk (T08 w s) (d + 2 * n + 3) X (.glob "_law_come") [p.v,.str (S cs),.int i,.ref lt,.ref la] Q σ
section
variable {xs:List (Kid × An Kid)} {cs:List Nat} {lt la n:Nat} {us:List V} {o:Rs} {as:List Kid}
theorem come_sub (ih:ComeAt w s xs cs lt la d n) {p:Pt} {h:Nat} {us1:List V} {jk:Hp} (hp:p.deep ≤ n) (r:Rv cs (getM xs) p h o as) (hh:h ≤ cs.length) (hw:p.wt ≤ 20000) (hS:CmS xs lt la us σ) (hz:us1.length + as.length ≤ 16000000)
   (kN:o = none → ∀ l jk',(σ.set la (.list (us1 ++ as.map pV')) ++ (jk ++ jk'))[l]? = some (.list []) → Q (.tup [.bool false,.int h,.ref l]) (σ.set la (.list (us1 ++ as.map pV')) ++ (jk ++ jk')))
   (kY:∀ e ks,o = some (e,ks) → ∀ l jk',(σ.set la (.list (us1 ++ as.map pV')) ++ (jk ++ jk'))[l]? = some (.list (ks.map pV')) → Q (.tup [.bool true,.int (e:Nat),.ref l]) (σ.set la (.list (us1 ++ as.map pV')) ++ (jk ++ jk'))) :
   CallOk (T08 w s) (d + 2 * n + 3) X (.glob "_law_come") [p.v,.str (S cs),.int h,.ref lt,.ref la] Q (σ.set la (.list us1) ++ jk) :=
 ih p h o as us1 X Q _ hp r hh hw hS.on hz ⟨fun e l jk' hl => by rw [st_on hS.lth] at hl ⊢; exact kN e l jk' hl,fun e ks ho l jk' hl => by rw [st_on hS.lth] at hl ⊢; exact kY e ks ho l jk' hl⟩
theorem come_no (ih:ComeAt w s xs cs lt la d n) {p:Pt} {h:Nat} {us1:List V} {jk:Hp} (hp:p.deep ≤ n) (r:Rv cs (getM xs) p h none as) (hh:h ≤ cs.length) (hw:p.wt ≤ 20000) (hS:CmS xs lt la us σ) (hz:us1.length + as.length ≤ 16000000)
   (k:∀ l jk',(σ.set la (.list (us1 ++ as.map pV')) ++ (jk ++ jk'))[l]? = some (.list []) → Q (.tup [.bool false,.int h,.ref l]) (σ.set la (.list (us1 ++ as.map pV')) ++ (jk ++ jk'))) :
   CallOk (T08 w s) (d + 2 * n + 3) X (.glob "_law_come") [p.v,.str (S cs),.int h,.ref lt,.ref la] Q (σ.set la (.list us1) ++ jk) :=
 come_sub ih hp r hh hw hS hz (fun zz => k) fun e ks e2 => (no_some e2).elim
theorem come_yes (ih:ComeAt w s xs cs lt la d n) {p:Pt} {h e:Nat} {ks:List Kid} {us1:List V} {jk:Hp} (hp:p.deep ≤ n) (r:Rv cs (getM xs) p h (some (e,ks)) as) (hh:h ≤ cs.length) (hw:p.wt ≤ 20000) (hS:CmS xs lt la us σ) (hz:us1.length + as.length ≤ 16000000)
   (k:∀ l jk',(σ.set la (.list (us1 ++ as.map pV')) ++ (jk ++ jk'))[l]? = some (.list (ks.map pV')) → Q (.tup [.bool true,.int (e:Nat),.ref l]) (σ.set la (.list (us1 ++ as.map pV')) ++ (jk ++ jk'))) :
   CallOk (T08 w s) (d + 2 * n + 3) X (.glob "_law_come") [p.v,.str (S cs),.int h,.ref lt,.ref la] Q (σ.set la (.list us1) ++ jk) :=
 come_sub ih hp r hh hw hS hz (fun e2 => (no_some e2.symm).elim) fun e' ks' e2 => by
   have e2:=Prod.mk.inj (Zab e2)
   rw [← e2.1,← e2.2]; exact k
theorem st_keep {us1 us2:List V} {l:Nat} {vs:List V} {jk jk':Hp} (h:la < σ.length) (hn:l ≠ la) (hl:(σ.set la (.list us1) ++ jk)[l]? = some (.list vs)):(σ.set la (.list us2) ++ (jk ++ jk'))[l]? = some (.list vs):=by
 rw [← Ze]
 refine get_up ?_
 rw [← st_on0 (a:=.list us1) h,Zi (Ne.symm hn)]; exact hl
inductive Jr (xs:List (Kid × An Kid)) (cs:List Nat) (lt la:Nat) (us:List V) (ps:List Pt) (i:Nat) (o:Rs) (as:List Kid) (σ:Hp) (t:Nat) (ρ':Loc) (σ':Hp):Prop where
 | mk (h lr:Nat) (ks as1 as2:List Kid) (o2:Rs) (jk:Hp) (e:σ' = σ.set la (.list (us ++ as1.map pV')) ++ jk) (r:Rv cs (getM xs) (.row (ps.drop t)) h o2 as2) (ho:o = onO ks o2) (ha:as = as1 ++ as2) (hh:h ≤ cs.length) (hr:lr ≠ la) (hl:σ'[lr]? = some (.list (ks.map pV'))) (hk:ks.length ≤ Pt.wts (ps.take t) * (cs.length + 1))
     (has:Has ρ' [("_law_place",.int h),("_law_kids",.ref lr),("_law_signs",.str (S cs)),("_law_told_here",.ref lt),("_law_asked",.ref la),("_law_at",.int i)]):Jr xs cs lt la us ps i o as σ t ρ' σ'
theorem wt_few {a m:Nat} (ha:a ≤ 20000) (hm:m ≤ 149):a * (m + 1) ≤ 3000000:=Za (Nat.mul_le_mul ha (Nat.succ_le_succ hm)) (by decide)
theorem ne_la {us1:List V} {jk:Hp} {l:Nat} {vs:List V} (hlt:la < σ.length) (hs:σ.length ≤ l):l ≠ la:=fun e => absurd hlt (Zo.mpr (e ▸ hs))
theorem fn_law_row (TO:TopOk (T08 w s)) (w0:KW cs (getM xs)) (h149:cs.length ≤ 149) (ih:ComeAt w s xs cs lt la d n) {ps:List Pt} {i:Nat} (hd:Pt.deeps ps ≤ n) (r:Rv cs (getM xs) (.row ps) i o as) (hi:i ≤ cs.length) (hw:Pt.wts ps ≤ 20000) (hS:CmS xs lt la us σ) (hz:us.length + as.length ≤ 16000000) (q:CmQ la us as i o Q σ) :
   CallOk (T08 w s) (d + 2 * n + 4) X (.glob "_law_row") [(Pt.row ps).v,.str (S cs),.int i,.ref lt,.ref la] Q σ:=by
 refine CallOk.go TO rfl rfl ?_
 have hit:∀ {σ:Hp},iterV σ (.tup (Pt.vs ps)) = some (Pt.vs ps):=rfl
 have hvl:(Pt.vs ps).length = ps.length:=by rw [Pt.vs_map,Zc]
 have hlt:=hS.lth
 refine ForOk.mk (Pt.vs ps) (Jr xs cs lt la us ps i o as σ) ⟨i,σ.length,[],[],as,o,[.list []],by rw [List.map_nil,List.append_nil]; exact hS.self.symm,r,(onO_nil o).symm,rfl,hi,fun e => absurd hlt (e ▸ Zub _),get_new,Zkb _,⟨rfl,rfl,rfl,rfl,rfl,rfl,trivial⟩⟩ (fun zz zz zz zz => hit) (fun ρ' σ' hJ => ?_) fun t x ρ' σ' hJ hx => ?_
 · obtain ⟨h,lr,ks,as1,as2,o2,jk,e,r,ho,ha,hh,hr,hl,hk,has⟩:=hJ
   rw [hvl,List.drop_eq_nil_of_le (Zl _)] at r
   obtain ⟨e2,e3⟩:=r.inv
   rw [← has.eq,e]
   rw [e] at hl
   rw [e2] at ho
   rw [e3,List.append_nil] at ha
   subst ha
   exact q.yes h ks (by rw [ho]; exact congrArg (fun x => some (h,x)) (List.append_nil ks)) lr jk hl
 · obtain ⟨h,lr,ks,as1,as2,o2,jk,e,r,ho,ha,hh,hr,hl,hk,has⟩:=hJ
   refine (vs_at hx).elim fun p hpx => ?_
   have hpt:=hpx.1
   have hpm:=Zn hpt
   rw [hpx.2,← has.eq]
   clear has hpx hx
   subst e
   refine ⟨_,rfl,vB_ok TO rfl 60 _ _ _ _ ?_⟩
   rw [drop_hd hpt] at r
   have hpw:p.wt ≤ 20000:=Za (Pt.wts_mem hpm) hw
   have len:∀ {x:List Kid},(us ++ (as1 ++ x).map pV') = (us ++ as1.map pV') ++ x.map pV':=fun {x} => by rw [List.map_append,Ze]
   rcases r.inv with ⟨e2,r1⟩ | ⟨h',ks',o',b1,b2,r1,r2,e2,e3⟩
   · subst e2 ha
     have hz':(us ++ as1.map pV').length + as2.length ≤ 16000000:=by rw [Zf,Zc,Nat.add_assoc,← Zf]; exact hz
     refine Cal.mk <| come_no ih (Za (Pt.deeps_mem hpm) hd) r1 hh hpw hS hz' fun l jk' hl' => Cmp.notB (r:=false) rfl ?_
     have:=q.no ho (σ.set la (.list (us ++ (as1 ++ as2).map pV')) ++ (jk ++ jk')).length (jk ++ jk' ++ [.list []])
     rw [← Ze (List.set ..)] at this
     rw [← len]; exact this get_new
   · have hz':(us ++ as1.map pV').length + b1.length ≤ 16000000:=by rw [Zf,Zc]; rw [ha,e3,Zf,Zf] at hz; lia
     have g:=r1.len w0 hh _ rfl
     have g2:=g.2.1
     have g3:=g.2.2
     have g3:ks'.length ≤ p.wt * (cs.length + 1):=Za g3 (Znb _ (Za (Nat.sub_le ..) (Nat.succ_le_succ g2)))
     have hk2:(ks ++ ks').length ≤ Pt.wts (ps.take (t + 1)) * (cs.length + 1):=by rw [Pt.wts_next hpt,Nat.add_mul,Zf]; exact Zcb hk g3
     have hk3:(ks.map pV').length + (ks'.map pV').length ≤ sizeLine:=by rw [Zc,Zc,← Zf]; exact szo (Za hk2 (Za (wt_few (Za (Pt.wts_take _) hw) h149) (by decide)))
     refine Cal.mk <| come_yes ih (Za (Pt.deeps_mem hpm) hd) r1 hh hpw hS hz' fun l jk' hl' => Cmp.notB (r:=true) rfl <| Bin.lists (st_keep hlt hr hl) hl' hk3 ?_
     exact ⟨h',_,ks ++ ks',as1 ++ b1,b2,o',jk ++ jk' ++ [.list (ks.map pV' ++ ks'.map pV')],by rw [len]; exact Ze ..,r2,by rw [ho,e2,onO_on],by rw [ha,e3,Ze],g2,ne_la (us1:=[]) (jk:=[]) (vs:=[]) hlt (by rw [Zf,List.length_set]; exact Zy ..),by rw [List.map_append]; exact get_new,hk2,⟨rfl,rfl,rfl,rfl,rfl,rfl,trivial⟩⟩
end
end
section
variable {w:World} {s:Shared} {d:Nat} {X:QX} {Q:QE} {σ:Hp}
section
variable {xs:List (Kid × An Kid)} {cs:List Nat} {lt la n:Nat} {us:List V} {o:Rs} {as:List Kid}
inductive Jf (xs:List (Kid × An Kid)) (cs:List Nat) (lt la:Nat) (us:List V) (ps:List Pt) (i:Nat) (o:Rs) (as:List Kid) (σ:Hp) (t:Nat) (ρ':Loc) (σ':Hp):Prop where
 | mk (as1 as2:List Kid) (jk:Hp) (e:σ' = σ.set la (.list (us ++ as1.map pV')) ++ jk) (r:Rv cs (getM xs) (.alt (ps.drop t)) i o as2) (ha:as = as1 ++ as2)
     (has:Has ρ' [("_law_signs",.str (S cs)),("_law_told_here",.ref lt),("_law_asked",.ref la),("_law_at",.int i)]):Jf xs cs lt la us ps i o as σ t ρ' σ'
theorem us_app {as1 x:List Kid}:(us ++ (as1 ++ x).map pV') = (us ++ as1.map pV') ++ x.map pV':=by rw [List.map_append,Ze]
theorem us_few {as1 as2:List Kid} (hz:us.length + (as1 ++ as2).length ≤ 16000000):(us ++ as1.map pV').length + as2.length ≤ 16000000:=by rw [Zf,Zc,Nat.add_assoc,← Zf]; exact hz
theorem us_few2 {as1 b1 b2:List Kid} (hz:us.length + (as1 ++ (b1 ++ b2)).length ≤ 16000000):(us ++ as1.map pV').length + b1.length ≤ 16000000:=Za (Nat.add_le_add_left (Zf ▸ Zy b1.length b2.length) _) (us_few hz)
theorem fn_law_first (TO:TopOk (T08 w s)) (ih:ComeAt w s xs cs lt la d n) {ps:List Pt} {i:Nat} (hd:Pt.deeps ps ≤ n) (r:Rv cs (getM xs) (.alt ps) i o as) (hi:i ≤ cs.length) (hw:Pt.wts ps ≤ 20000) (hS:CmS xs lt la us σ) (hz:us.length + as.length ≤ 16000000) (q:CmQ la us as i o Q σ) :
   CallOk (T08 w s) (d + 2 * n + 4) X (.glob "_law_first") [(Pt.alt ps).v,.str (S cs),.int i,.ref lt,.ref la] Q σ:=by
 refine CallOk.go TO rfl rfl ?_
 have hit:∀ {σ:Hp},iterV σ (.tup (Pt.vs ps)) = some (Pt.vs ps):=rfl
 have hvl:(Pt.vs ps).length = ps.length:=by rw [Pt.vs_map,Zc]
 refine ForOk.mk (Pt.vs ps) (Jf xs cs lt la us ps i o as σ) ⟨[],as,[],by rw [List.append_nil,List.map_nil,List.append_nil]; exact (st_self hS.at_).symm,r,rfl,⟨rfl,rfl,rfl,rfl,trivial⟩⟩ (fun zz zz zz zz => hit) (fun ρ' σ' hJ => ?_) fun t x ρ' σ' hJ hx => ?_
 · obtain ⟨as1,as2,jk,e,rr,ha,has⟩:=hJ
   rw [hvl,List.drop_eq_nil_of_le (Zl _)] at rr
   obtain ⟨e2,e3⟩:=rr.inv
   rw [← has.eq,e]
   rw [e3,List.append_nil] at ha
   subst ha
   have:=q.no e2 (σ.set la (.list (us ++ as.map pV')) ++ jk).length (jk ++ [.list []])
   rw [← Ze (List.set ..)] at this
   exact this get_new
 · obtain ⟨as1,as2,jk,e,rr,ha,has⟩:=hJ
   refine (vs_at hx).elim fun p hpx => ?_
   have hpt:=hpx.1
   have hpm:=Zn hpt
   rw [hpx.2]
   refine ⟨_,rfl,vB_ok TO rfl 60 _ _ _ _ ?_⟩
   rw [drop_hd hpt] at rr
   have hpw:p.wt ≤ 20000:=Za (Pt.wts_mem hpm) hw
   rw [← has.eq,e]
   clear e has hpx hx
   subst ha
   rcases rr.inv with ⟨x,e2,r1⟩ | ⟨b1,b2,r1,r2,e3⟩
   · refine Cal.mk <| come_sub ih (Za (Pt.deeps_mem hpm) hd) r1 hi hpw hS (us_few hz) (fun e2 => ((by cases e2))) fun e ks e4 l jk' hl' => ?_
     refine Cmp.notB (r:=false) rfl ?_
     rw [← us_app] at hl' ⊢
     exact q.yes e ks (e2.trans e4) l _ hl'
   · subst e3
     refine Cal.mk <| come_sub ih (Za (Pt.deeps_mem hpm) hd) r1 hi hpw hS (us_few2 hz) (fun zz l jk' hl' => ?_) fun e ks e2 => ((by cases e2))
     refine Cmp.notB (r:=true) rfl ?_
     exact ⟨as1 ++ b1,b2,jk ++ jk',by rw [us_app],r2,(Ze ..).symm,⟨rfl,rfl,rfl,rfl,trivial⟩⟩
inductive Mn (cs:List Nat) (xs:List (Kid × An Kid)) (p:Pt) (h:Nat):Rs → Rs → List Kid → Prop where
 | no:Mn cs xs p h none (some (h,[])) []
 | stay (ks:List Kid):Mn cs xs p h (some (h,ks)) (some (h,[])) []
 | more {e:Nat} {ks:List Kid} {o:Rs} {as:List Kid} (hne:e ≠ h) (r:Rv cs (getM xs) (.many p) e o as):Mn cs xs p h (some (e,ks)) (onO ks o) as
theorem Rv.mn {p:Pt} {i:Nat} (r:Rv cs (getM xs) (.many p) i o as):∃ o1 as1 as2,Rv cs (getM xs) p i o1 as1 ∧ Mn cs xs p i o1 o as2 ∧ as = as1 ++ as2:=by
 rcases r.inv with ⟨e,h | ⟨ks,h⟩⟩ | ⟨h,ks,o',as1,as2,h1,hne,h2,e,ha⟩
 · exact ⟨_,_,[],h,e ▸ .no,(List.append_nil _).symm⟩
 · exact ⟨_,_,[],h,e ▸ .stay ks,(List.append_nil _).symm⟩
 · exact ⟨_,_,_,h1,e ▸ .more hne h2,ha⟩
inductive FvR (h:Nat) (σ':Hp):Rs → V → Prop where
 | no {l:Nat}:FvR h σ' none (.tup [.bool false,.int h,.ref l])
 | yes {e l:Nat} {ks:List Kid} (hl:σ'[l]? = some (.list (ks.map pV'))):FvR h σ' (some (e,ks)) (.tup [.bool true,.int (e:Nat),.ref l])
theorem turn3 {P:V → Prop} {h:Nat} {σ':Hp} {o1 o2:Rs} {as2:List Kid} {fv:V} {p:Pt} (hf:FvR h σ' o1 fv) (m1:Mn cs xs p h o1 o2 as2) (c1:∀ l:Nat,o2 = some (h,[]) → as2 = [] → P (.tup [.bool false,.int h,.ref l])) (c2:∀ l:Nat,o2 = some (h,[]) → as2 = [] → P (.tup [.bool true,.int h,.ref l]))
   (c3:∀ (e l:Nat) ks' o',o1 = some (e,ks') → σ'[l]? = some (.list (ks'.map pV')) → e ≠ h → Rv cs (getM xs) (.many p) e o' as2 → o2 = onO ks' o' → P (.tup [.bool true,.int e,.ref l])):P fv:=by
 cases hf with
 | no => cases m1 with | no => exact c1 _ rfl rfl
 | yes hl =>
   cases m1 with
   | stay => exact c2 _ rfl rfl
   | more hne r => exact c3 _ _ _ _ rfl hl hne r rfl
inductive Jm (xs:List (Kid × An Kid)) (cs:List Nat) (lt la:Nat) (us:List V) (p:Pt) (i:Nat) (o:Rs) (as:List Kid) (σ:Hp) (m:Nat) (ρ':Loc) (σ':Hp):Prop where
 | mk (h lr:Nat) (ks as1 as2:List Kid) (o1 o2:Rs) (fv:V) (jk:Hp) (e:σ' = σ.set la (.list (us ++ as1.map pV')) ++ jk) (em:m = cs.length - h) (r:Mn cs xs p h o1 o2 as2) (ho:o = onO ks o2) (ha:as = as1 ++ as2) (hi:i ≤ h) (hh:h ≤ cs.length) (hr:lr ≠ la) (hl:σ'[lr]? = some (.list (ks.map pV'))) (hk:ks.length ≤ 2 * p.wt * (h - i)) (h1:∀ e us,o1 = some (e,us) → h ≤ e ∧ e ≤ cs.length ∧ us.length ≤ p.wt * (e + 1 - h)) (hf:FvR h σ' o1 fv)
     (has:Has ρ' [("_law_part",(Pt.many p).v),("_law_place",.int h),("_law_kids",.ref lr),("_law_found",fv),("_law_signs",.str (S cs)),("_law_told_here",.ref lt),("_law_asked",.ref la)]):Jm xs cs lt la us p i o as σ m ρ' σ'
theorem many_go (ih:ComeAt w s xs cs lt la d n) (w0:KW cs (getM xs)) {p:Pt} {i h lr:Nat} {ks as1 as2:List Kid} {o2:Rs} {jk:Hp} (hd:p.deep ≤ n) (hw:p.wt ≤ 20000) (hS:CmS xs lt la us σ) (r:Rv cs (getM xs) (.many p) h o2 as2) (ho:o = onO ks o2) (ha:as = as1 ++ as2) (hz:us.length + as.length ≤ 16000000) (hi:i ≤ h) (hh:h ≤ cs.length) (hr:lr ≠ la) (hl:(σ.set la (.list (us ++ as1.map pV')) ++ jk)[lr]? = some (.list (ks.map pV'))) (hk:ks.length ≤ 2 * p.wt * (h - i))
   (q:∀ v σ',(∀ ρ',Has ρ' [("_law_part",(Pt.many p).v),("_law_place",.int h),("_law_kids",.ref lr),("_law_found",v),("_law_signs",.str (S cs)),("_law_told_here",.ref lt),("_law_asked",.ref la)] → Jm xs cs lt la us p i o as σ (cs.length - h) ρ' σ') → Q v σ') :
   CallOk (T08 w s) (d + 2 * n + 3) X (.glob "_law_come") [p.v,.str (S cs),.int h,.ref lt,.ref la] Q (σ.set la (.list (us ++ as1.map pV')) ++ jk):=by
 obtain ⟨o1,b1,b2,r1,m,e3⟩:=r.mn
 subst e3
 rw [ha] at hz
 have ha2:as = (as1 ++ b1) ++ b2:=ha.trans (Ze ..).symm
 have h1:∀ e us,o1 = some (e,us) → h ≤ e ∧ e ≤ cs.length ∧ us.length ≤ p.wt * (e + 1 - h):=fun e us e1 => r1.len w0 hh _ e1
 exact come_sub ih hd r1 hh hw hS (us_few2 hz) (fun e l jk' hl' => q _ _ fun ρ' has => ⟨h,lr,ks,as1 ++ b1,b2,o1,o2,_,jk ++ jk',by rw [us_app],rfl,m,ho,ha2,hi,hh,hr,st_keep hS.lth hr hl,hk,h1,e ▸ .no,has⟩)
   fun e us e1 l jk' hl' => q _ _ fun ρ' has => ⟨h,lr,ks,as1 ++ b1,b2,o1,o2,_,jk ++ jk',by rw [us_app],rfl,m,ho,ha2,hi,hh,hr,st_keep hS.lth hr hl,hk,h1,e1 ▸ .yes hl',has⟩
theorem al_yes {T:Tp} {d m:Nat} {sc:Scope} {X:QX} {ρ:Loc} {σ:Hp} {A B:Hp → Prop} (q:A σ):gw T d sc X (tsQ fun b σ => if b then A σ else B σ) (m + 2) (.al .And [] [] ρ σ):=q
theorem w_add {a i h e:Nat} (g:i ≤ h) (g2:h < e) {x y:Nat} (hx:x ≤ 2 * a * (h - i)) (hy:y ≤ a * (e + 1 - h)):x + y ≤ 2 * a * (e - i):=by
 have h1:a * (e + 1 - h) ≤ 2 * a * (e - h):=by rw [Nat.mul_comm 2 a,Nat.mul_assoc]; exact Znb a (a_many g2)
 rw [a_split g (Zq g2),Nat.mul_add]
 exact Zcb hx (Za hy h1)
theorem fn_law_turns (TO:TopOk (T08 w s)) (w0:KW cs (getM xs)) (h149:cs.length ≤ 149) (ih:ComeAt w s xs cs lt la d n) {p:Pt} {i:Nat} (hd:p.deep ≤ n) (r:Rv cs (getM xs) (.many p) i o as) (hi:i ≤ cs.length) (hw:2 * p.wt ≤ 20000) (hS:CmS xs lt la us σ) (hz:us.length + as.length ≤ 16000000) (q:CmQ la us as i o Q σ) :
   CallOk (T08 w s) (d + 2 * n + 4) X (.glob "_law_turns") [(Pt.many p).v,.str (S cs),.int i,.ref lt,.ref la] Q σ:=by
 refine CallOk.go TO rfl rfl ?_
 have hlt:=hS.lth
 have hpw:p.wt ≤ 20000:=Za (Nat.le_mul_of_pos_left _ (by decide)) hw
 have e0:σ ++ [MObj.list []] = σ.set la (.list (us ++ ([]:List Kid).map pV')) ++ [.list []]:=by rw [List.map_nil,List.append_nil]; exact hS.self.symm
 refine Cal.mk ?_
 rw [e0]
 refine many_go (i:=i) (ks:=[]) (as1:=[]) (lr:=σ.length) ih w0 hd hpw hS r (onO_nil o).symm rfl hz (Zl _) hi (fun e => absurd hlt (e ▸ Zub _)) (e0 ▸ get_new) (Zkb _) fun v σ' hJ => ?_
 refine Stx.mk <| StOk.while (Jm xs cs lt la us p i o as σ) _ (hJ _ ⟨rfl,rfl,rfl,rfl,rfl,rfl,rfl,trivial⟩) fun m ρ' σ' hJ => ?_
 obtain ⟨h,lr,ks,as1,as2,o1,o2,fv,jk,e,em,m1,ho,ha,hih,hh,hr,hl,hk,h1,hf,has⟩:=hJ
 obtain ⟨r₀,rfl⟩:=has.use
 subst e
 clear has
 have fin:o2 = some (h,[]) → as2 = [] → Q (.tup [.bool true,.int h,.ref lr]) (σ.set la (.list (us ++ as1.map pV')) ++ jk):=fun e1 e2 => by
   rw [e2,List.append_nil] at ha
   rw [← ha] at hl ⊢
   exact q.yes h ks (by rw [ho,e1]; exact congrArg (fun x => some (h,x)) (List.append_nil ks)) lr jk hl
 apply turn3 hf m1
 · exact fun l e1 e2 => vT_ok TO rfl 40 10 _ _ _ <| Cmp.isB (r:=false) rfl <| Cmp.isN (r:=false) rfl (fin e1 e2)
 · exact fun l e1 e2 => vT_ok TO rfl 40 10 _ _ _ <| Cmp.isB (r:=true) rfl <| Br.f (decide_eq_false (Int.lt_irrefl _)) <| Cmp.isN (r:=false) rfl (fin e1 e2)
 intro e' l ks' o' eo hl' hne r2 e2
 refine vT_ok TO rfl 40 10 _ _ _ <| Cmp.isB (r:=true) rfl ?_
 have g:=h1 _ _ eo
 have hlt2:h < e':=Nat.lt_of_le_of_ne g.1 (Ne.symm hne)
 have hk2:(ks ++ ks').length ≤ 2 * p.wt * (e' - i):=by rw [Zf]; exact w_add hih hlt2 hk g.2.2
 have hk3:(ks.map pV').length + (ks'.map pV').length ≤ sizeLine:=by rw [Zc,Zc,← Zf]; exact szo (Za hk2 (Za (Nat.mul_le_mul hw (Za (Nat.sub_le ..) (Za g.2.1 h149))) (by decide)))
 refine Br.t (Zmb (Zfb.mpr hlt2)) <| al_yes (vB_ok TO rfl 60 _ _ _ _ <| Bin.lists hl hl' hk3 ?_)
 refine Cal.mk ?_
 rw [Ze]
 refine many_go (i:=i) (ks:=ks ++ ks') (lr:=(σ.set la (.list (us ++ as1.map pV')) ++ jk).length) ih w0 hd hpw hS r2 (ho.trans ((congrArg (onO ks) e2).trans (onO_on ..))) ha hz (Za hih (Zq hlt2)) g.2.1 (ne_la (us1:=[]) (jk:=[]) (vs:=[]) hlt (by rw [Zf,List.length_set]; exact Zy ..)) (by rw [← Ze,List.map_append]; exact get_new) hk2 fun v σ'' hJ => ?_
 exact ⟨_,by rw [em]; exact Nat.sub_lt_sub_left (Zz hlt2 g.2.1) hlt2,hJ _ ⟨rfl,rfl,rfl,rfl,rfl,rfl,rfl,trivial⟩⟩
end
end
section
variable {w:World} {s:Shared} {d:Nat} {X:QX} {Q:QE} {σ:Hp}
set_option tactic.hygienic true in
theorem fn_law_takes (TO:TopOk (T08 w s)) {p:Pt} {c:Nat} (hp:p.isLf = true) (q:Q (.bool (p.takesC c)) σ):CallOk (T08 w s) (d + 1) X (.glob "_law_takes") [p.v,.str ⟨#[c]⟩] Q σ:=by
 refine CallOk.go TO rfl rfl ?_
 cases p <;> first | cases hp | skip
 · rename_i a
   simp only [Pt.takesC2] at q
   refine Cal.ord <| Cal.ord ?_
   show Q (.bool ((c:Int) == (a:Int))) σ
   rw [show ((c:Int) == (a:Int)) = (a == c) by rw [Bool.eq_iff_iff,beq_iff_eq,beq_iff_eq,Int.ofNat_inj]; exact eq_comm]
   exact q
 · rename_i a b
   refine Cal.ord <| Cal.ord <| Br.mk (fun h1 => Cal.ord <| Cal.ord ?_) fun h1 => ?_
   · simp only [Pt.takesC3] at q
     have:a ≤ c:=by simpa using h1
     rw [Zmb this,Bool.true_and] at q
     show Q (.bool (decide ((c:Int) ≤ (b:Int)))) σ
     rw [show decide ((c:Int) ≤ (b:Int)) = decide (c ≤ b) by simp]; exact q
   · simp only [Pt.takesC3] at q
     have:¬ a ≤ c:=by simpa using h1
     rw [decide_eq_false this] at q
     show Q (.bool (decide ((a:Int) ≤ (c:Int)))) σ
     rw [h1]
     exact q
 · exact q
section
variable {xs:List (Kid × An Kid)} {cs:List Nat} {lt la n:Nat} {us:List V} {o:Rs} {as:List Kid}
theorem come_leaf (TO:TopOk (T08 w s)) {p:Pt} {i:Nat} (hlf:p.isLf = true) (h149:cs.length ≤ 149) (r:Rv cs (getM xs) p i o as) (hS:CmS xs lt la us σ) (q:CmQ la us as i o Q σ) :
   CallOk (T08 w s) (d + 2) X (.glob "_law_come") [p.v,.str (S cs),.int i,.ref lt,.ref la] Q σ:=by
 have hr:o = leafO cs p i ∧ as = []:=by
   have h:=r.inv
   cases p <;> first | exact h | exact (Zv hlf).elim
 obtain ⟨ho,ha⟩:=hr
 subst ha
 have e0:∀ {jk:Hp},σ.set la (.list (us ++ ([]:List Kid).map pV')) ++ jk = σ ++ jk:=by rw [List.map_nil,List.append_nil]; exact hS.self
 have no:(∀ c,cs[i]? = some c → p.takesC c = false) → Q (.tup [.bool false,.int i,.ref σ.length]) (σ ++ [.list []]):=fun hn => by
   have hq:o = none:=by
     rw [ho]; unfold leafO
     cases hc:cs[i]? with
     | none => rfl
     | some c => exact if_neg (by rw [hn c hc]; exact Zv)
   have:=q.no hq σ.length [.list []]
   rw [e0] at this
   exact this get_new
 have yes:∀ c,cs[i]? = some c → p.takesC c = true → Q (.tup [.bool true,.int (i + 1:Nat),.ref σ.length]) (σ ++ [.list []]):=fun c hc ht => by
   have hq:o = some (i + 1,[]):=by rw [ho]; unfold leafO; rw [hc]; exact if_pos ht
   have:=q.yes _ _ hq σ.length [.list []]
   rw [e0] at this
   exact this get_new
 clear q r ho
 have fin:∀ b:Bool,(b = true → ∃ c,cs[i]? = some c ∧ p.takesC c = true) → (b = false → ∀ c,cs[i]? = some c → p.takesC c = false) → Q (.tup [.bool b,.int ((i:Int) + if b = true then 1 else 0),.ref σ.length]) (σ ++ [.list []]):=fun b h1 h2 => by
   cases b with
   | true => exact (h1 rfl).elim fun c h => yes c h.1 h.2
   | false => exact (Int.add_zero (i:Int)).symm ▸ no (h2 rfl)
 clear yes no
 refine CallOk.go TO rfl rfl ?_
 have hl:cs.length < 2 ^ 62:=Zk h149 (by decide)
 cases p <;> first | exact (Zv hlf).elim | skip
 all_goals
   refine Cal.len (n:=cs.length) (len_str_ (S_length cs)) hl <| Br.mk (fun h => ?_) fun h => ?_
   · have hg:=Zp (lt_of h)
     refine Itm.strN hg (Zk h149 (by decide)) <| Cal.mk <| fn_law_takes TO rfl ?_
     exact Cal.intB <| fin _ (fun hb => ⟨_,hg,hb⟩) fun hb c hc => Zab (hg.symm.trans hc) ▸ hb
   · exact Cal.intB <| fin _ (fun e => (Zv (h.symm.trans e)).elim) fun zz c hc => absurd (Zb.mp hc).1 (Zo.mpr (ge_of h))
theorem tellO_no {k:Kid} {a:An Kid} (h:a.1 = none):anO (tell k a) = none:=by
 obtain ⟨x,us⟩:=a
 cases h; rfl
theorem tellO_yes {k:Kid} {a:An Kid} {e:Nat} (h:a.1 = some e):anO (tell k a) = some (e,[k]):=by
 obtain ⟨x,us⟩:=a
 cases h; rfl
theorem CmS.use {P:Prop} (h:CmS xs lt la us σ) (c:∀ kvs,σ[la]? = some (.list us) → σ[lt]? = some (.tdict kvs) → KeptR σ [la] xs kvs → P):P:=by
 obtain ⟨kvs,k1,k2,k3⟩:=h
 exact c kvs k1 k2 k3
theorem Cmp.ninP {k:Str × Int} {l:Nat} {kvs:List ((Str × Int) × V)} (h:σ[l]? = some (.tdict kvs)) (e:(kvs.any fun kv => kv.1 = k) = true) (q:Q (.bool false) σ):Cmp .NotIn (.tup [.str k.1,.int k.2]) (.ref l) Q σ:=Cmp.pairs (neg:=true) h (by rw [e]; exact q)
theorem come_rule (TO:TopOk (T08 w s)) {m:Str} {i:Nat} (r:Rv cs (getM xs) (.rule m) i o as) (hS:CmS xs lt la us σ) (hz:us.length + as.length ≤ 16000000) (q:CmQ la us as i o Q σ) :
   CallOk (T08 w s) (d + 1) X (.glob "_law_come") [(Pt.rule m).v,.str (S cs),.int i,.ref lt,.ref la] Q σ:=by
 obtain ⟨a,hk,ho,ha⟩:=r.inv
 refine CallOk.go TO rfl rfl ?_
 refine MethOk.append hS.at_ <| Cal.mk <| CallOk.append hS.at_ (szo (Za (Zy ..) (Za hz (by decide)))) ?_
 have hS':CmS xs lt la (us ++ [pV' (m,i)]) (σ.set la (.list (us ++ [pV' (m,i)]))):=by have:=hS.on (us':=us ++ [pV' (m,i)]) (jk:=[]); rw [List.append_nil] at this; exact this
 subst ha
 refine hS'.use fun kvs k1 k2 k3 => k3.has (k:=(m,i)) hk fun l2 x2 x4 => ?_
 refine Cmp.ninP (k:=(m,(i:Int))) k2 (any_of x2) <| Itm.pair (k:=(m,(i:Int))) k2 x2 ?_
 generalize hx:a.1 = x
 cases x with
 | none => exact Cmp.isN (r:=true) rfl <| q.no (ho.trans (tellO_no hx)) _ [.list []] get_new
 | some e =>
   rw [hx] at x2
   exact Cmp.isN (r:=false) rfl <| Itm.pair (k:=(m,(i:Int))) k2 x2 <| q.yes e [(m,i)] (ho.trans (tellO_yes hx)) _ [.list [pV' (m,i)]] get_new
theorem come_nt (TO:TopOk (T08 w s)) (ih:ComeAt w s xs cs lt la d n) {p:Pt} {i:Nat} (hd:p.deep ≤ n) (r:Rv cs (getM xs) (.nt p) i o as) (hi:i ≤ cs.length) (hw:p.wt ≤ 20000) (hS:CmS xs lt la us σ) (hz:us.length + as.length ≤ 16000000) (q:CmQ la us as i o Q σ) :
   CallOk (T08 w s) (d + 2 * n + 4) X (.glob "_law_come") [(Pt.nt p).v,.str (S cs),.int i,.ref lt,.ref la] Q σ:=by
 refine CallOk.go TO rfl rfl ?_
 have up:∀ {jk:Hp},(σ.set la (.list (us ++ as.map pV')) ++ jk) ++ [MObj.list []] = σ.set la (.list (us ++ as.map pV')) ++ (jk ++ [.list []]):=Ze ..
 rcases r.inv with ⟨ho,r1⟩ | ⟨x,ho,r1⟩
 · refine Cal.mk <| ih p i _ as us X _ σ hd r1 hi hw hS hz ⟨fun zz l jk hl => ?_,fun e ks e1 => ((by cases e1))⟩
   have:=q.yes i [] ho _ (jk ++ [.list []]) (up ▸ get_new)
   rw [← up] at this
   exact Cmp.isN (r:=false) rfl this
 · refine Cal.mk <| ih p i _ as us X _ σ hd r1 hi hw hS hz ⟨fun e1 => ((by cases e1)),fun e ks e1 l jk hl => ?_⟩
   have:=q.no ho _ (jk ++ [.list []]) (up ▸ get_new)
   rw [← up] at this
   exact Cmp.isN (r:=false) rfl this
theorem come_all (TO:TopOk (T08 w s)) (w0:KW cs (getM xs)) (h149:cs.length ≤ 149):∀ n,ComeAt w s xs cs lt la d n:=by
 intro n
 induction n with
 | zero => exact fun p i o as us X Q σ hd => absurd hd (Nat.not_le.mpr (Pt.deep_pos p))
 | succ n ih =>
   intro p i o as us X Q σ hd r hi hw hS hz q
   cases p with
   | sign c => exact (come_leaf (d:=d) TO rfl h149 r hS q).le (by lia)
   | span c e => exact (come_leaf (d:=d) TO rfl h149 r hS q).le (by lia)
   | any => exact (come_leaf (d:=d) TO rfl h149 r hS q).le (by lia)
   | rule m => exact (come_rule (d:=d) TO r hS hz q).le (by lia)
   | nt p => exact (come_nt TO ih (by rw [Pt.deep4] at hd; exact Nat.le_of_succ_le_succ hd) r hi (by rw [Pt.wt5] at hw; exact hw) hS hz q).le (by lia)
   | row ps =>
     refine CallOk.go TO rfl rfl ?_
     exact Cal.mk <| fn_law_row TO w0 h149 ih (by rw [Pt.deep1] at hd; exact Nat.le_of_succ_le_succ hd) r hi (by rw [Pt.wt2] at hw; exact hw) hS hz q
   | alt ps =>
     refine CallOk.go TO rfl rfl ?_
     exact Cal.mk <| fn_law_first TO ih (by rw [Pt.deep2] at hd; exact Nat.le_of_succ_le_succ hd) r hi (by rw [Pt.wt3] at hw; exact hw) hS hz q
   | many p =>
     refine CallOk.go TO rfl rfl ?_
     exact Cal.mk <| fn_law_turns TO w0 h149 ih (by rw [Pt.deep3] at hd; exact Nat.le_of_succ_le_succ hd) r hi (by rw [Pt.wt4] at hw; exact hw) hS hz q
end
end
section
variable {w:World} {s:Shared} {d:Nat} {X:QX} {Q:QE} {σ:Hp}
inductive J08ct (σ:Hp) (n:Nat) (i:Nat) (acc:List V) (σ':Hp):Prop where
 | mk (jk:Hp) (q0:acc = (List.replicate i true).map V.bool) (q1:σ' = σ ++ jk) (q2:i ≤ n):J08ct σ n i acc σ'
theorem comp_true {T:Tp} {sc scope:Scope} {ρ:Loc} {x:Str} {elt:Expr} {l:Nat} {vs:List V} (hl:σ[l]? = some (.list vs)) (hn:vs.length ≤ 5000000) (q:∀ jk,Q (.ref (σ ++ jk).length) (σ ++ jk ++ [.list ((List.replicate vs.length true).map V.bool)]))
   (he:∀ v ∈ vs,∀ jk,EvOk T d (relab scope sc) (upd (compLoc scope ρ) x (some v)) X elt (fun u σ' => u = .bool true ∧ ∃ jk',σ' = σ ++ (jk ++ jk')) (σ ++ jk)):CompOk T d sc ρ X scope x [] elt Q (.ref l) σ:=by
 refine ⟨vs,J08ct σ vs.length,⟨[],rfl,(List.append_nil σ).symm,Zkb _⟩,fun i acc σ' hJ => ?_,fun acc σ' hJ => ?_,fun i y acc σ' hJ hy => ?_⟩
 · obtain ⟨jk,rfl,rfl,hi⟩:=hJ
   exact ⟨iter_list (get_up hl),by rw [Zc,List.length_replicate]; exact szo (Za hi (Za hn (by decide)))⟩
 · obtain ⟨jk,rfl,rfl,zz⟩:=hJ
   exact q jk
 · obtain ⟨jk,rfl,rfl,zz⟩:=hJ
   refine (he y (Zn hy) jk).mon fun u σ' h => ?_
   obtain ⟨rfl,jk',rfl⟩:=h
   exact ⟨jk ++ jk',by rw [List.replicate_succ',List.map_append]; rfl,rfl,(Zb.mp hy).1⟩
theorem all_true (n:Nat):(List.replicate n true).all id = true:=List.all_eq_true.mpr fun x hx => (List.mem_replicate.mp hx).2
theorem fn_whole (TO:TopOk (T08 w s)) {i:Int} (q:Q (.bool true) σ):CallOk (T08 w s) (d + 1) X (.glob "_law_whole") [.int i] Q σ:=by
 refine CallOk.go TO rfl rfl ?_
 exact Cal.isiInt <| Cal.isiNo q
theorem fn_pair (TO:TopOk (T08 w s)) {k:Kid} {m:Nat} (hk:k.2 ≤ m) (q:Q (.bool true) σ):CallOk (T08 w s) (d + 2) X (.glob "_law_pair") [pV' k,.int m] Q σ:=by
 refine CallOk.go TO rfl rfl ?_
 refine Cal.isi (b:=true) rfl <| Cal.lenT rfl <| Cal.isi (b:=true) rfl <| Cal.mk <| fn_whole TO ?_
 show Q (.bool (decide ((k.2:Int) ≤ m))) σ
 rw [Zmb (Int.ofNat_le.mpr hk)]; exact q
structure EnOk (m:Nat) (k:Kid) (a:An Kid):Prop where
 at_:k.2 ≤ m
 en:∀ e,a.1 = some e → k.2 ≤ e ∧ e ≤ m
 kids:∀ x ∈ a.2,x.2 ≤ m
 few:a.2.length ≤ 5000000
theorem fn_entry (TO:TopOk (T08 w s)) {k:Kid} {a:An Kid} {l m:Nat} (ok:EnOk m k a) (hl:σ[l]? = some (.list (a.2.map pV'))) (q:∀ jk,Q (.bool true) (σ ++ jk)):CallOk (T08 w s) (d + 3) X (.glob "_law_entry") [entV k a l,.int m] Q σ:=by
 refine CallOk.go TO rfl rfl ?_
 refine Cal.isi (b:=true) rfl <| Cal.lenT rfl <| Evx.mk <| EvOk.tupTo (EvOk.nm rfl rfl rfl (EvOk.int ⟨_,2,rfl,rfl,by decide,(show 2 < 4 by decide),sz 4 rfl,?_⟩))
 refine Cal.mk <| fn_pair (k:=k) TO ok.at_ ?_
 have kids:∀ {sc scope:Scope} {ρ:Loc} {x:Str} {elt:Expr},(∀ {v:V} {Z:QE} {σ':Hp},Cal (T08 w s) (d + 2) X (.glob "_law_pair") [v,.int m] Z σ' → EvOk (T08 w s) (d + 2) (relab scope sc) (upd (compLoc scope ρ) x (some v)) X elt Z σ') → CompOk (T08 w s) (d + 2) sc ρ X scope x [] elt (fun v σ' => Cal (T08 w s) (d + 2) X (.bi "all") [v] Q σ') (.ref l) σ:=fun {sc scope ρ x elt} he =>
   comp_true hl (by rw [Zc]; exact ok.few) (fun jk => Cal.mk <| CallOk.all (bs:=List.replicate (a.2.map pV').length true) get_new (by rw [all_true,Ze]; exact q _)) fun v hv jk => he <| by
     obtain ⟨x,hx,rfl⟩:=Zsb.mp hv
     exact Cal.mk <| fn_pair TO (ok.kids x hx) ⟨rfl,[],by rw [List.append_nil]⟩
 have hi:isiV σ (.ref l) "list" = some true:=isi_list hl
 clear hl q
 obtain ⟨x,us⟩:=a
 cases x with
 | none => exact Cmp.notN (r:=true) rfl <| Cmp.notN (r:=true) rfl <| Cal.isi (b:=true) hi <| kids fun h => vE_ok TO rfl 40 _ _ _ h
 | some e =>
   obtain ⟨g1,g2⟩:=ok.en e rfl
   exact Cmp.notN (r:=false) rfl <| Cal.mk <| fn_whole TO <| Cmp.notN (r:=false) rfl <| Br.f (decide_eq_false (Int.not_lt.mpr (Int.ofNat_le.mpr g1))) <| Br.f (decide_eq_false (Int.not_lt.mpr (Int.ofNat_le.mpr g2))) <| Cal.isi (b:=true) hi <| kids fun h => vE_ok TO rfl 40 _ _ _ h
inductive J08to (xs:List (Kid × An Kid)) (σ:Hp) (m:Nat) (i:Nat) (ρ':Loc) (σ':Hp):Prop where
 | mk (kvs:List ((Str × Int) × V)) (jk:Hp) (e:σ' = σ ++ .tdict kvs :: jk) (hk:KeptR σ' [] (xs.take i) kvs) (has:Has ρ' [("_law_size",.int m),("_law_told_here",.ref σ.length)]):J08to xs σ m i ρ' σ'
theorem td_keep {a b:List ((Str × Int) × V)} {r:Hp} {l:Nat} {vs:List V} (h:(σ ++ .tdict a :: r)[l]? = some (.list vs)):(σ ++ .tdict b :: r)[l]? = some (.list vs):=by
 by_cases e:l = σ.length
 · subst e; rw [get0] at h; cases h
 · rw [← set0 (σ:=σ) (a:=.tdict a) (a':=.tdict b),Zi (Ne.symm e)]; exact h
theorem KeptR.up {jk:Hp} {xs:List (Kid × An Kid)} {kvs:List ((Str × Int) × V)} (h:KeptR σ [] xs kvs):KeptR (σ ++ jk) [] xs kvs:=h.keep .up
theorem fn_told (TO:TopOk (T08 w s)) {xs:List (Kid × An Kid)} {vs:List V} {le lo m:Nat} (hl:σ[le]? = some (.list vs)) (hE:EnR lo σ xs vs) (hz:xs.length ≤ 5000000) (ok:∀ x ∈ xs,EnOk m x.1 x.2) (hn:∀ i k a,xs[i]? = some (k,a) → getM (xs.take i) k = none)
   (q:∀ kvs jk,KeptR (σ ++ .tdict kvs :: jk) [] xs kvs → Q (.ref σ.length) (σ ++ .tdict kvs :: jk)):CallOk (T08 w s) (d + 4) X (.glob "_law_told") [.ref le,.int m] Q σ:=by
 refine CallOk.goX TO rfl rfl ?_
 refine ExOk.cutAt 2 (fun ρ' σ' => Has ρ' [("_law_entries",.ref le),("_law_size",.int m),("_law_told_here",.ref σ.length)] ∧ σ' = σ ++ [.sdict []]) (vB_ok TO rfl 60 _ _ _ _ ?_) fun ρ₁ σ₁ hJ => ?_
 · exact Cal.isi (b:=true) (isi_list hl) ⟨⟨rfl,rfl,rfl,trivial⟩,rfl⟩
 · obtain ⟨has,rfl⟩:=hJ
   obtain ⟨r,rfl⟩:=has.use
   refine ExOk.retag (k:=σ.length) get_new ?_
   rw [set_end]
   refine vB_ok TO rfl 60 _ _ _ _ <| ForOk.mk vs (J08to xs σ m) ⟨[],[],rfl,rfl,⟨rfl,rfl,trivial⟩⟩ (fun i ρ' σ' hJ => ?_) (fun ρ' σ' hJ => ?_) fun i y ρ' σ' hJ hy => ?_
   · obtain ⟨kvs,jk,rfl,zz,zz⟩:=hJ
     exact iter_list (get_up hl)
   · obtain ⟨kvs,jk,rfl,hk,has⟩:=hJ
     obtain ⟨r,rfl⟩:=has.use
     rw [List.take_of_length_le (Zr hE.length.symm)] at hk
     exact q kvs jk hk
   · obtain ⟨kvs,jk,rfl,hk,has⟩:=hJ
     obtain ⟨r,rfl⟩:=has.use
     obtain ⟨ky,ay,ly,y1,rfl,y3,y4⟩:=hE.at hy
     have hfew:kvs.length ≤ sizeLine:=by rw [hk.length]; exact szo (Za (List.length_take_le' ..) (Za hz (by decide)))
     refine ⟨_,rfl,vB_ok TO rfl 60 _ _ _ _ ?_⟩
     refine Cal.mk <| fn_entry TO (ok _ (Zn y1)) (get_up y3) fun jk2 => ?_
     rw [Ze,List.cons_append]
     refine Evx.mk <| EvOk.tupTo (EvOk.nm rfl rfl rfl (EvOk.int ⟨_,2,rfl,rfl,by decide,(show 2 < 4 by decide),sz 4 rfl,?_⟩))
     have no:(kvs.any fun kv => kv.1 = (ky.1,(ky.2:Int))) = false:=by
       rw [hk.any (k:=ky)]
       have:=getM_none.mp (hn i ky ay y1)
       rw [List.any_eq_false]
       exact fun p hp => by simp only [decide_eq_true_eq]; exact fun e => this (Zsb.mpr ⟨p,hp,e⟩)
     refine Cmp.pairs (neg:=false) (k:=(ky.1,(ky.2:Int))) get0 ?_
     rw [no]
     refine Evx.mk <| EvOk.tupFrom (EvOk.nm rfl rfl rfl (EvOk.int ⟨_,2,rfl,rfl,by decide,(show 2 < 4 by decide),sz 4 rfl,?_⟩))
     refine Evx.mk <| EvOk.tupTo (EvOk.nm rfl rfl rfl (EvOk.int ⟨_,2,rfl,rfl,by decide,(show 2 < 4 by decide),sz 4 rfl,?_⟩))
     refine SetItemOk.pair (k:=(ky.1,(ky.2:Int))) get0 hfew ?_
     rw [set0]
     refine ⟨_,_,rfl,?_,⟨rfl,rfl,trivial⟩⟩
     rw [take_next y1]
     have hk2:KeptR (σ ++ .tdict kvs :: (jk ++ jk2)) [] (xs.take i) kvs:=by have:=hk.up (jk:=jk2); rw [Ze,List.cons_append] at this; exact this
     exact (hk2.all fun l vs h => td_keep h).snoc (AnAt.of (td_keep (a:=kvs) (get_up y3))) (hn i ky ay y1)
end
section
variable {w:World} {s:Shared} {d:Nat} {X:QX} {Q:QE} {σ:Hp}
set_option genSizeOf false in
set_option genInjectivity false in
structure Ps where
 g:Nat
 gb:Nat
 m:Nat
 a:Nat
 b:Nat
 lr:Nat
 os:List (Nat × MObj)
noncomputable def Ps.own (p:Ps):List Nat:=[p.m,p.a,p.b]
structure Ap (p:Ps):Prop where
 os:∀ x ∈ p.os,x.1 ∉ p.own
 lr:p.lr ∉ p.own
 g:p.g ∉ p.own
 gb:p.gb ∉ p.own
structure Gv (rs:List (Str × Pt)) (cs:List Nat):Prop where
 hg:GoodRules rs
 hl:Later rs
 hw:∀ r ∈ rs,r.2.wt ≤ 20000
 hd:∀ j r,rs[j]? = some r → Drawn (rs.map (·.1)) j r.2
 h40:rs.length ≤ 40
 hc:cs.length ≤ 149
structure Rr (rs:List (Str × Pt)) (cs:List Nat) (p:Ps) (mem:Mm) (σ:Hp):Prop where
 ob:∀ x ∈ p.os,σ[x.1]? = some x.2
 hr:σ[p.lr]? = some (.inst "Reading" (rdF p.g cs p.m))
 hG:GrT rs p.g p.gb σ
 hm:MmAt σ [p.m,p.a,p.b] p.m p.a p.b mem
 mc:Mc (rs.map (·.1)) (inB (turnsE rs rs.length)) 20000 cs.length [] mem
 mi:MI (partOf rs) cs [] mem
section
variable {rs:List (Str × Pt)} {cs:List Nat} {p:Ps} {mem mem':Mm} {σ':Hp}
theorem Rr.on (h:Rr rs cs p mem σ) (ap:Ap p) (o:On σ [p.m,p.a,p.b] σ' [p.m,p.a,p.b]) (hm:MmAt σ' [p.m,p.a,p.b] p.m p.a p.b mem') (mc:Mc (rs.map (·.1)) (inB (turnsE rs rs.length)) 20000 cs.length [] mem') (mi:MI (partOf rs) cs [] mem'):Rr rs cs p mem' σ' :=
 ⟨fun x hx => o.keep _ _ (h.ob x hx) (ap.os x hx),o.keep _ _ h.hr ap.lr,h.hG.keep o ap.g ap.gb,hm,mc,mi⟩
theorem Rr.up {jk:Hp} (h:Rr rs cs p mem σ):Rr rs cs p mem (σ ++ jk) :=
 ⟨fun x hx => get_up (h.ob x hx),get_up h.hr,h.hG.rec fun a c e h1 h2 => ⟨a,c,e,get_up h1,get_up h2⟩,(memRep p.m p.a p.b).keep h.hm .up fun x hx => Zbb (h.hm.nodup.2 x hx),h.mc,h.mi⟩
theorem grr (v:Gv rs cs):GrOk (partOf rs) (rs.map (·.1)) (inB (turnsE rs rs.length)) (ixOf rs) rs.length 20000:=grOk_of (fun zz hr => partOf_eq v.hg.nodup hr) v.hg v.hl v.hw
theorem sor (hg:GoodRules rs):∀ n ∈ rs.map (·.1),sOk n:=fun n hn => by
 obtain ⟨r,hr,rfl⟩:=Zsb.mp hn
 exact sOk_name (hg.all r hr).name
theorem rdr (v:Gv rs cs) (h:Rr rs cs p mem σ) {n:Str} {j:Nat} (hn:n ∈ rs.map (·.1)) (hj:j ≤ cs.length) :
   ∃ m,Fin (partOf rs) cs memBk (fun o => ∃ x b',o = some (tell (n,j) x,b') ∧ getM b'.kept (n,j) = some x ∧ Mc (rs.map (·.1)) (inB (turnsE rs rs.length)) 20000 cs.length [] b' ∧ MI (partOf rs) cs [] b') m ⟨[.new (.rule n) j],none,mem⟩:=by
 have l1:cs.length + 1 ≤ 150:=Nat.succ_le_succ v.hc
 obtain ⟨m,x,b',h1,h2,h3,h4,zz⟩:=mem_read (grr v) (Za (Znb _ l1) (by decide)) (by rw [Zc]; exact Za (Nat.mul_le_mul v.h40 l1) (by decide)) (Za (Nat.mul_le_mul_right 14 (Nat.mul_le_mul l1 v.h40)) (by decide)) h.mc h.mi hn hj
 exact ⟨m,h1.mono fun o e => ⟨x,b',e,h2,h3,h4⟩⟩
theorem kept_few {mem:Mm} (h:Rr rs cs p mem σ) (v:Gv rs cs):mem.order.length ≤ 5000000 ∧ (∀ k ∈ mem.order,∃ a,getM mem.kept k = some a) ∧ ∀ k a,getM mem.kept k = some a → a.2.length ≤ 5000000:=by
 have l1:cs.length + 1 ≤ 150:=Nat.succ_le_succ v.hc
 refine ⟨Za h.mc.few.2 (by rw [Zc]; exact Za (Nat.mul_le_mul v.h40 l1) (by decide)),fun k hk => (h.mc.done k hk).resolve_left nofun,fun k a hk => ?_⟩
 exact (h.mc.fit k a hk).few (Zl _) (Za (Znb _ l1) (by decide))
theorem fn_readr (TO:TopOk (T08 w s)) (v:Gv rs cs) (ap:Ap p) (h:Rr rs cs p mem σ) {n:Str} {j:Nat} (hn:n ∈ rs.map (·.1)) (hj:j ≤ cs.length)
   (q:∀ σ' mem' x,Rr rs cs p mem' σ' → getM mem'.kept (n,j) = some x → Q (endV x.1) σ'):CallOk (T08 w s) (d + 8) X (.mth "Reading" "read") [.ref p.lr,.str n,.int j] Q σ:=by
 refine fn_read (P:=fun o => ∃ x b',o = some (tell (n,j) x,b') ∧ getM b'.kept (n,j) = some x ∧ Mc (rs.map (·.1)) (inB (turnsE rs rs.length)) 20000 cs.length [] b' ∧ MI (partOf rs) cs [] b') TO v.hg h.hG ap.g ap.gb (Zk v.hc (by decide)) h.hr h.hm (fun g => absurd hn g) (fun zz g => absurd g (by lia)) (fun zz j' e zz => Int.ofNat_inj.mp e ▸ rdr v h hn hj) (fun g => by obtain ⟨x,b',e,zz⟩:=g; cases e) fun an mem' σ' g1 hm' ho zz => ?_
 obtain ⟨x,b',eo,k1,k2,k3⟩:=g1
 cases eo
 have e:(tell (n,j) x).1 = x.1:=by
   obtain ⟨x,us⟩:=x
   cases x <;> rfl
 rw [e]
 exact q σ' _ x (h.on ap ho hm' k2 k3) k1
end
end
section
variable {w:World} {s:Shared} {d:Nat} {X:QX} {Q:QE} {σ:Hp}
theorem KeptR.fresh {xs:List (Kid × An Kid)} {kvs:List ((Str × Int) × V)} {x:MObj} (h:KeptR σ [] xs kvs):KeptR (σ ++ [x]) [σ.length] xs kvs:=h.keep ⟨fun l o e zz => get_up e,fun l hl hlt => absurd hlt (by rw [Zj.mp hl]; exact Zub _)⟩
noncomputable def kidD (k:Kid):PyData:=.tuple [.str k.1,.int k.2]
theorem kids_deeps {ks:List Kid} (h:∀ k ∈ ks,sOk k.1):Deeps σ (ks.map kidD) (ks.map pV'):=by
 induction ks with
 | nil => exact .nil
 | cons k r ih => exact .cons (.tup (.cons (.str (h k (Zt ..))) <| .cons (.int _) .nil)) (ih fun x hx => h x (Zd _ hx))
theorem kids_deep {ks:List Kid} {l:Nat} (h:∀ k ∈ ks,sOk k.1) (hl:σ[l]? = some (.list (ks.map pV'))):Deep σ (.list (ks.map kidD)) (.ref l):=.list hl (kids_deeps h)
theorem dC {x:PyData} {xs:List PyData} {n:Nat} (h:x.depth ≤ n) (t:PyData.depthAll xs ≤ n):PyData.depthAll (x :: xs) ≤ n:=Nat.max_le.mpr ⟨h,t⟩
theorem dN {n:Nat}:PyData.depthAll [] ≤ n:=Zkb _
theorem dT {xs:List PyData} {n:Nat} (h:PyData.depthAll xs ≤ n):(PyData.tuple xs).depth ≤ n + 1:=Nat.succ_le_succ h
theorem dL {xs:List PyData} {n:Nat} (h:PyData.depthAll xs ≤ n):(PyData.list xs).depth ≤ n + 1:=Nat.succ_le_succ h
theorem kids_few (ks:List Kid):PyData.depthAll (ks.map kidD) ≤ 1:=by
 induction ks with
 | nil => exact dN
 | cons k r ih => exact dC (dT (dC (Zkb _) (dC (Zkb _) dN))) ih
theorem kids_depth (ks:List Kid):(PyData.list (ks.map kidD)).depth ≤ 40:=by
 exact Za (dL (kids_few ks)) (by decide)
section
variable {xs:List (Kid × An Kid)} {kvs:List ((Str × Int) × V)} {cs:List Nat} {lt:Nat}
theorem fn_holds (TO:TopOk (T08 w s)) {p:Pt} {k:Kid} {a:An Kid} {l:Nat} {as:List Kid} (w0:KW cs (getM xs)) (h149:cs.length ≤ 149) (ht:σ[lt]? = some (.tdict kvs)) (hk:KeptR σ [] xs kvs) (r:Rv cs (getM xs) p k.2 (anO a) as) (hi:k.2 ≤ cs.length) (hw:p.wt ≤ 20000) (hd:p.deep ≤ 12) (has:as.length ≤ 8000000) (hl:σ[l]? = some (.list (a.2.map pV'))) (h0:a.1 = none → a.2 = []) (hs:∀ k ∈ a.2,sOk k.1)
   (q:∀ jk,Q (.bool true) (σ ++ jk)):CallOk (T08 w s) (d + 28) X (.glob "_law_holds") [entV k a l,p.v,.str (S cs),.ref lt] Q σ:=by
 refine CallOk.go TO rfl rfl ?_
 have hS:CmS xs lt σ.length [] (σ ++ [.list []]):=⟨kvs,get_new,get_up ht,hk.fresh⟩
 have hsz:σ.length < (σ ++ [MObj.list []]).length:=hS.lth
 have ef:∀ {us:List V} {jk:Hp},(σ ++ [MObj.list []]).set σ.length (.list us) ++ jk = σ ++ ([.list us] ++ jk):=fun {us jk} => by rw [set_end,Ze]
 refine Cal.mk <| come_all (d:=d) TO w0 h149 12 p k.2 (anO a) as [] _ _ _ hd r hi hw hS (by rw [List.length_nil,Nat.zero_add]; exact Za has (by decide)) ⟨fun ho l' jk hl' => ?_,fun e ks ho l' jk hl' => ?_⟩
 · rw [ef] at hl' ⊢
   obtain ⟨x,us⟩:=a
   cases x with
   | some e => cases ho
   | none =>
     have h0:us = []:=h0 rfl
     subst h0
     refine Cmp.isN (r:=false) rfl <| Cmp.isB (r:=true) rfl <| Cmp.isN (r:=true) rfl <| Cmp.eqR (kids_deep (ks:=[]) (fun k hk => absurd hk List.not_mem_nil) (get_up (get_up hl))) (kids_deep (ks:=[]) (fun k hk => absurd hk List.not_mem_nil) get_new) (kids_depth []) (PySem.SeqAt.eqv_refl _ (kids_deep (σ:=σ) (ks:=[]) (fun k hk => absurd hk List.not_mem_nil) hl).lay) ?_
     rw [Ze]; exact q _
 · rw [ef] at hl' ⊢
   obtain ⟨x,us⟩:=a
   cases x with
   | none => cases ho
   | some e' =>
     cases ho
     have D1:Deep (σ ++ ([MObj.list ([] ++ as.map pV')] ++ jk)) (.list (us.map kidD)) (.ref l):=kids_deep hs (get_up hl)
     refine Cmp.isN (r:=false) rfl <| Cmp.isB (r:=false) rfl <| Br.t (beq_self_eq_true _) <| Cmp.eqR D1 (kids_deep hs hl') (kids_depth us) (PySem.SeqAt.eqv_refl _ D1.lay) ?_
     exact q _
theorem fn_answered (TO:TopOk (T08 w s)) {k:Kid} {x:An Kid} (ht:σ[lt]? = some (.tdict kvs)) (hk:KeptR σ [] xs kvs) (hx:getM xs k = some (nrm (some x))) (q:Q (.bool true) σ):CallOk (T08 w s) (d + 2) X (.glob "_law_answered") [endV x.1,pV' k,.ref lt] Q σ:=by
 refine CallOk.go TO rfl rfl ?_
 rcases hk.get (k:=k) with ⟨x1,zz⟩ | ⟨an,v,x1,x2,la,vs,rfl,x3,x4,x5⟩
 · rw [hx] at x1; cases x1
 rw [hx] at x1; cases x1
 refine Cmp.pairs (neg:=true) (k:=(k.1,(k.2:Int))) ht ?_
 rw [any_of x2]
 refine Itm.pair (k:=(k.1,(k.2:Int))) ht x2 ?_
 obtain ⟨x,us⟩:=x
 cases x with
 | none => exact Cmp.isN (r:=true) rfl <| Cmp.isN (r:=true) rfl q
 | some e =>
   refine Cmp.isN (r:=false) rfl <| Cal.mk <| fn_whole TO ?_
   show Q (.bool ((e:Int) == e)) σ
   rw [beq_self_eq_true]; exact q
end
end
section
variable {w:World} {s:Shared} {d:Nat} {X:QX} {Q:QE} {σ:Hp}
section
variable {rs:List (Str × Pt)} {cs:List Nat} {p:Ps} {mem:Mm} {xs:List Int} {l:Nat}
noncomputable def Ps.more (p:Ps) (x:Nat × MObj):Ps:=⟨p.g,p.gb,p.m,p.a,p.b,p.lr,x :: p.os⟩
theorem Rr.more {x:Nat × MObj} (h:Rr rs cs p mem σ) (hx:σ[x.1]? = some x.2):Rr rs cs (p.more x) mem σ:=⟨fun y hy => (Zg.mp hy).elim (fun e => e ▸ hx) (h.ob y),h.hr,h.hG,h.hm,h.mc,h.mi⟩
theorem Rr.less {x:Nat × MObj} (h:Rr rs cs (p.more x) mem σ):Rr rs cs p mem σ:=⟨fun y hy => h.ob y (Zd _ hy),h.hr,h.hG,h.hm,h.mc,h.mi⟩
theorem Ap.more {x:Nat × MObj} (h:Ap p) (hx:x.1 ∉ p.own):Ap (p.more x):=⟨fun y hy => (Zg.mp hy).elim (fun e => e ▸ hx) (h.os y),h.lr,h.g,h.gb⟩
theorem Rr.fresh {x:Nat} (h:Rr rs cs p mem σ) (hx:σ.length ≤ x):x ∉ p.own:=fun g => absurd (h.hm.nodup.2 x g) (Zo.mpr hx)
theorem en_ok (v:Gv rs cs) (h:Rr rs cs p mem σ):∀ x ∈ tl mem,EnOk cs.length x.1 x.2:=fun x hx => by
 obtain ⟨k,hk,rfl⟩:=Zsb.mp hx
 have hr:=(h.mc.rng k hk).2
 obtain ⟨a,ha⟩:=(kept_few h v).2.1 k hk
 show EnOk cs.length k (nrm (getM mem.kept k))
 rw [ha]
 obtain ⟨x,us⟩:=a
 cases x with
 | none => exact ⟨hr,(fun e he => by cases he),fun x hx => absurd hx List.not_mem_nil,Zkb _⟩
 | some e =>
   have hf:=h.mc.fit k _ ha
   refine ⟨hr,(fun e' he => by cases he; exact ⟨hf.1,hf.2.1⟩),fun x hx => ?_,(kept_few h v).2.2 k _ ha⟩
   obtain ⟨zz,e1,us',zz,g1,g2⟩:=(kept_kids h.mc h.mi ha).1.at x hx
   exact Za g1 (Za g2 hf.2.1)
noncomputable def endD:Option Nat → PyData
 | none => .none
 | some e => .int e
noncomputable def anD (a:An Kid):PyData:=.tuple [endD a.1,.list (a.2.map kidD)]
theorem end_deep (x:Option Nat):Deep σ (endD x) (endV x):=by
 cases x with
 | none => exact .none
 | some e => exact .int _
theorem an_deep {a:An Kid} {v:V} {A:List Nat} (hs:∀ k ∈ a.2,sOk k.1) (h:AnAt memKid σ A a v):Deep σ (anD a) v:=by
 obtain ⟨l,vs,rfl,zz,hl,hv⟩:=h
 obtain rfl:=memKid_eq hv
 exact .tup (.cons (end_deep _) <| .cons (kids_deep hs hl) .nil)
theorem end_few {n:Nat} (x:Option Nat):(endD x).depth ≤ n:=by
 cases x with
 | none => exact Zkb _
 | some e => exact Zkb _
theorem an_few (a:An Kid):(anD a).depth ≤ 40:=by
 exact Za (dT (dC (end_few _) (dC (dL (kids_few a.2)) dN))) (by decide:2 + 1 ≤ 40)
theorem KeptR.at' {A:List Nat} {xs:List (Kid × An Kid)} {kvs:List ((Str × Int) × V)} (h:KeptR σ A xs kvs) (i:Nat) (y:Kid × An Kid):xs[i]? = some y → ∃ v,kvs[i]? = some ((y.1.1,(y.1.2:Int)),v) ∧ AnAt memKid σ A y.2 v:=by
 induction xs generalizing kvs i with
 | nil => exact fun e => (no_some e).elim
 | cons y' r ih =>
   refine ex2 h fun u q h' => and3 h' fun e h1 h2 => ?_
   rw [e]
   cases i with
   | zero => exact fun e => sm_inj e ▸ ⟨u,rfl,h1⟩
   | succ i => exact ih h2 i
theorem KeptR.pairs {A:List Nat} {xs:List (Kid × An Kid)} {kvs:List ((Str × Int) × V)} (h:KeptR σ A xs kvs) (i:Nat) (k:Str × Int) (v:V) (e:kvs[i]? = some (k,v)):∃ y,xs[i]? = some y ∧ k = (y.1.1,(y.1.2:Int)) ∧ AnAt memKid σ A y.2 v:=by
 have hx:=Zp (h.length ▸ (Zb.mp e).1:i < xs.length)
 refine Zh (h.at' i _ hx) fun v' h' => ?_
 have e2:=Prod.mk.inj (sm_inj (e.symm.trans h'.1))
 exact ⟨_,hx,e2.1,e2.2 ▸ h'.2⟩
theorem told_same {xs:List (Kid × An Kid)} {kvs kvs':List ((Str × Int) × V)} (hs:∀ x ∈ xs,∀ k ∈ x.2.2,sOk k.1) (h1:KeptR σ [] xs kvs) (h2:KeptR σ [] xs kvs') (i:Nat) (k:Str × Int) (v:V) (e:kvs[i]? = some (k,v)):∃ v' dd,kvs'[i]? = some (k,v') ∧ Deep σ dd v ∧ Deep σ dd v' ∧ dd.depth ≤ 40:=by
 obtain ⟨y,g1,rfl,g2⟩:=h1.pairs i k v e
 obtain ⟨v',g3,g4⟩:=h2.at' i y g1
 have hy:=hs y (Zn g1)
 exact ⟨v',anD y.2,g3,an_deep hy g2,an_deep hy g4,an_few _⟩
theorem nrm_out {a:An Kid} {e:Nat} {us:List Kid} (h:nrm (some a) = (some e,us)):a = (some e,us):=by
 obtain ⟨x,ks⟩:=a
 cases x with
 | none => cases h
 | some e' => exact h
theorem nrm_anO (a:An Kid):anO (nrm (some a)) = anO a:=by
 obtain ⟨x,us⟩:=a
 cases x <;> rfl
theorem tl_mem {x:Kid × An Kid} (v:Gv rs cs) (h:Rr rs cs p mem σ) (hx:x ∈ tl mem):∃ a,getM mem.kept x.1 = some a ∧ x.2 = nrm (some a):=by
 obtain ⟨k,hk,rfl⟩:=Zsb.mp hx
 obtain ⟨a,ha⟩:=(kept_few h v).2.1 k hk
 exact ⟨a,ha,congrArg nrm ha⟩
theorem tl_kw (v:Gv rs cs) (h:Rr rs cs p mem σ):KW cs (getM (tl mem)):=fun k e us hk => by
 obtain ⟨a,ha,e2⟩:=tl_mem v h (getM_mem hk)
 have:=nrm_out (show nrm (some a) = (some e,us) from e2.symm)
 rw [this] at ha
 have hf:=h.mc.fit k _ ha
 exact ⟨hf.1,hf.2.1⟩
theorem kw (h:Rr rs cs p mem σ):KW cs (getM mem.kept):=fun k e us hk => ⟨(h.mc.fit k _ hk).1,(h.mc.fit k _ hk).2.1⟩
theorem tl_names (v:Gv rs cs) (h:Rr rs cs p mem σ):∀ x ∈ tl mem,∀ k ∈ x.2.2,sOk k.1:=fun x hx k hk => by
 obtain ⟨a,ha,e2⟩:=tl_mem v h hx
 rw [e2] at hk
 obtain ⟨y,us⟩:=a
 cases y with
 | none => exact absurd hk List.not_mem_nil
 | some e =>
   obtain ⟨zz,e1,us',g,zz,zz⟩:=(kept_kids h.mc h.mi ha).1.at k hk
   exact sor v.hg _ (h.mc.rng k (h.mi.kin k _ g)).1
theorem fn_toldr (TO:TopOk (T08 w s)) (v:Gv rs cs) (h:Rr rs cs p mem σ) {lo le:Nat} {vs:List V} {jk:Hp} (hE:EnR lo (σ ++ .list vs :: jk) (tl mem) vs) (he:le = σ.length)
   (q:∀ kvs jk2 τ lt,τ = (σ ++ .list vs :: jk) ++ .tdict kvs :: jk2 → lt = (σ ++ .list vs :: jk).length → τ[lt]? = some (.tdict kvs) → KeptR τ [] (tl mem) kvs → Rr rs cs p mem τ → Q (.ref lt) τ):CallOk (T08 w s) (d + 4) X (.glob "_law_told") [.ref le,.int cs.length] Q (σ ++ .list vs :: jk):=by
 subst he
 refine fn_told TO get0 hE (by unfold tl; rw [Zc]; exact (kept_few h v).1) (en_ok v h) (fun i k a hi => tl_next h.mc.nodup hi) fun kvs jk2 hk => ?_
 exact q kvs jk2 _ _ rfl rfl get0 hk h.up.up
inductive J08ra (rs:List (Str × Pt)) (cs:List Nat) (p:Ps) (xs:List Int) (l:Nat) (i:Nat) (ρ':Loc) (σ':Hp):Prop where
 | mk (mem:Mm) (lt:Nat) (h:Rr rs cs p mem σ') (ht:0 < i → ∃ kvs,σ'[lt]? = some (.tdict kvs) ∧ KeptR σ' [] (tl mem) kvs) (has:Has ρ' [("_law_script",.scr xs),("_law_rules",.ref l),("_law_signs",.str (S cs)),("_law_reading",.ref p.lr),("_law_told_here",.ref lt)]):J08ra rs cs p xs l i ρ' σ'
inductive J08rb (cs:List Nat) (p:Ps) (l lt:Nat) (σ:Hp) (vs:List V) (jk:Hp) (i:Nat) (ρ':Loc) (σ':Hp):Prop where
 | mk (jk':Hp) (e:σ' = σ ++ .list vs :: jk') (hk:∀ (x:Nat) (ws:List V),σ.length + 1 ≤ x → (σ ++ .list vs :: jk)[x]? = some (.list ws) → ∃ ws',σ'[x]? = some (.list ws') ∧ ws'.length ≤ ws.length) (has:Has ρ' [("_law_rules",.ref l),("_law_signs",.str (S cs)),("_law_reading",.ref p.lr),("_law_told_here",.ref lt)]):J08rb cs p l lt σ vs jk i ρ' σ'
inductive J08rc (rs:List (Str × Pt)) (cs:List Nat) (p:Ps) (l lt:Nat) (σ:Hp) (i:Nat) (ρ':Loc) (σ':Hp):Prop where
 | mk (has:Has ρ' [("_law_rules",.ref l),("_law_signs",.str (S cs)),("_law_reading",.ref p.lr),("_law_told_here",.ref lt),("_law_parts",.ref σ.length)]) (e:σ' = σ ++ [.sdict (tabKV (rs.take i))]):J08rc rs cs p l lt σ i ρ' σ'
theorem set_far {x:Nat} {o y:MObj} {jk:Hp} (hx:σ.length + 1 ≤ x):∃ jk',(σ ++ y :: jk).set x o = σ ++ y :: jk':=by
 obtain ⟨j,rfl⟩:=Nat.exists_eq_add_of_le hx
 refine ⟨jk.set j o,?_⟩
 rw [List.set_append_right _ _ (Nat.le_of_succ_le hx),Nat.add_assoc,Nat.add_sub_cancel_left,Nat.add_comm 1 j]; rfl
inductive J08rk (rs:List (Str × Pt)) (cs:List Nat) (p:Ps) (l:Nat) (ρ':Loc) (σ':Hp):Prop where
 | mk (mem:Mm) (lt:Nat) (kvs:List ((Str × Int) × V)) (h:Rr rs cs p mem σ') (ht:σ'[lt]? = some (.tdict kvs)) (hk:KeptR σ' [] (tl mem) kvs) (has:Has ρ' [("_law_rules",.ref l),("_law_signs",.str (S cs)),("_law_reading",.ref p.lr),("_law_told_here",.ref lt)]):J08rk rs cs p l ρ' σ'
theorem ent_facts {P:Prop} {lo:Nat} {vs:List V} {y:V} (v:Gv rs cs) (h5:Rr rs cs p mem σ) (hE6:EnR lo σ (tl mem) vs) (hy:y ∈ vs) (c:∀ (ky:Kid) (a:An Kid) (ly:Nat) (pr:Str × Pt) (as:List Kid),y = entV ky a ly → σ[ly]? = some (.list (a.2.map pV')) → pr ∈ rs → pr.1 = ky.1 → ky.2 ≤ cs.length → Rv cs (getM (tl mem)) pr.2 ky.2 (anO a) as → as.length ≤ 8000000 → (a.1 = none → a.2 = []) → (∀ k ∈ a.2,sOk k.1) → P):P:=by
 obtain ⟨i,hi⟩:=List.mem_iff_getElem?.mp hy
 obtain ⟨ky,ay,ly,y1,rfl,y3,y4⟩:=hE6.at hi
 have hm:=Zn y1
 obtain ⟨a0,g1,rfl⟩:=tl_mem v h5 hm
 have hko:=h5.mi.kin ky _ g1
 obtain ⟨hkn,hkl⟩:=h5.mc.rng ky hko
 obtain ⟨pr,hpr,hpe⟩:=Zsb.mp hkn
 obtain ⟨j0,hj0⟩:=List.mem_iff_getElem?.mp hpr
 obtain ⟨as,rv,zz⟩:=h5.mi.rv g1
 have hpo:partOf rs ky.1 = pr.2:=by rw [← hpe]; exact partOf_eq v.hg.nodup hpr
 rw [hpo] at rv
 have rv2:=rv.told (K':=getM (tl mem)) fun k a h => tl_get h5.mi h
 rw [← nrm_anO] at rv2
 exact c ky _ ly pr as rfl y3 hpr hpe hkl rv2 (asks_few (v.hd j0 pr hj0) (kw h5) v.hc hkl rv) (fun e => by obtain ⟨x,us⟩:=a0; cases x with | none => rfl | some e' => cases e) (tl_names v h5 _ hm)
theorem fn_reading_holds (TO:TopOk (T08 w s)) (v:Gv rs cs) (ap:Ap p) (hx:xs.length < 2 ^ 62) (h:Rr rs cs p mem σ) (hlm:(l,.list (rs.map ruleV)) ∈ p.os) (q:∀ σ' mem',Rr rs cs p mem' σ' → Q (.bool true) σ'):CallOk (T08 w s) (d + 32) X (.glob "_law_reading_holds") [.ref p.lr,.scr xs,.ref l,.str (S cs)] Q σ:=by
 obtain ⟨C,hC,hCe⟩:=rd_ent (w:=w) (s:=s)
 have hcl:cs.length < 2 ^ 62:=Zk v.hc (by decide)
 refine CallOk.goX TO rfl rfl ?_
 refine ExOk.cutAt 2 (J08rk rs cs p l) (vB_ok TO rfl 60 _ _ _ _ ?_) fun ρ₁ σ₁ hJ => ?_
 · have e1:σ ++ [MObj.sdict []] ++ [.list [.int 0,.int 1,.int 0]] = σ ++ ([.sdict []] ++ [.list [.int 0,.int 1,.int 0]]):=Ze ..
   have ap':Ap (p.more ((σ ++ [MObj.sdict []]).length,.list [.int 0,.int 1,.int 0])):=ap.more (h.fresh (Zf ▸ Zy ..))
   refine ForOk.mk [.int 0,.int 1,.int 0] (J08ra rs cs (p.more ((σ ++ [MObj.sdict []]).length,.list [.int 0,.int 1,.int 0])) xs l) ⟨mem,σ.length,(h.up.up).more get_new,fun g => absurd g (Zub _),⟨rfl,rfl,rfl,rfl,rfl,trivial⟩⟩ (fun i ρ' σ' hJ => ?_) (fun ρ' σ' hJ => ?_) fun i y ρ' σ' hJ hy => ?_
   · obtain ⟨mem,lt,h,zz,zz⟩:=hJ
     exact iter_list (h.ob _ (Zt ..))
   · obtain ⟨mem,lt,h,ht,has⟩:=hJ
     obtain ⟨r,rfl⟩:=has.use
     obtain ⟨kvs,t1,t2⟩:=ht (by decide)
     exact ⟨mem,lt,kvs,h.less,t1,t2,⟨rfl,rfl,rfl,rfl,trivial⟩⟩
   · obtain ⟨mem,lt,h,zz,has⟩:=hJ
     obtain ⟨r,rfl⟩:=has.use
     obtain ⟨t,rfl⟩:∃ t:Int,y = .int t:=by
       rcases i with zz | zz | zz | i
       · cases hy; exact ⟨_,rfl⟩
       · cases hy; exact ⟨_,rfl⟩
       · cases hy; exact ⟨_,rfl⟩
       · cases hy
     refine ⟨_,rfl,vB_ok TO rfl 60 _ _ _ _ ?_⟩
     refine Cal.len (n:=cs.length) (len_str_ (S_length cs)) hcl <| Cal.mk <| fn_start_by (d:=d + 29) TO hx v.hg.one v.h40 (h.ob _ (Zd _ hlm)) fun n j hn hj o => ?_
     refine MethOk.own (h.up (jk:=[o])).hr rfl hC.cls hC.read <| Cal.mk <| fn_readr (d:=d + 23) TO v ap' h.up hn hj fun σ₁ mem₁ x h₁ k₁ => ?_
     refine MethOk.own h₁.hr rfl hC.cls hCe <| Cal.mk <| fn_entries (d:=d + 29) TO h₁.hr h₁.hm (kept_few h₁ v).1 (kept_few h₁ v).2.1 (kept_few h₁ v).2.2 fun vs jk hE => ?_
     refine Cal.len (n:=cs.length) (len_str_ (S_length cs)) hcl <| Cal.mk <| fn_toldr (d:=d + 27) TO v h₁ hE rfl fun kvs jk2 τ lt' zz zz t1 t2 h₂ => ?_
     exact Cmp.isN (r:=false) rfl <| Cal.mk <| fn_answered (d:=d + 29) (k:=(n,j)) TO t1 t2 (tl_get h₁.mi k₁) ⟨mem₁,lt',h₂,fun zz => ⟨kvs,t1,t2⟩,⟨rfl,rfl,rfl,rfl,rfl,trivial⟩⟩
 · obtain ⟨mem,lt,kvs,h,ht,hk,has⟩:=hJ
   obtain ⟨r,rfl⟩:=has.use
   have f1:=(kept_few h v).1
   have f2:=(kept_few h v).2.1
   have f3:=(kept_few h v).2.2
   refine vB_ok TO rfl 60 _ _ _ _ ?_
   refine MethOk.own h.hr rfl hC.cls hCe <| Cal.mk <| fn_entries (d:=d + 29) TO h.hr h.hm f1 f2 f3 fun vs jk hE => ?_
   refine ForOk.mk vs (J08rb cs p l lt σ₁ vs jk) ⟨jk,rfl,fun x ws zz g => ⟨ws,g,Zl _⟩,⟨rfl,rfl,rfl,rfl,trivial⟩⟩ (fun i ρ' σ' hJ => ?_) (fun ρ' σ' hJ => ?_) fun i y ρ' σ' hJ hy => ?_
   · obtain ⟨jk',rfl,zz,zz⟩:=hJ
     exact iter_list get0
   rotate_left
   · obtain ⟨jk',rfl,hc,has⟩:=hJ
     obtain ⟨r,rfl⟩:=has.use
     obtain ⟨ky,ay,ly,y1,rfl,y3,y4⟩:=hE.at hy
     obtain ⟨ws,z1,z2⟩:=hc ly _ y4 y3
     have few:ws.length ≤ sizeLine:=szo (Za z2 (by rw [Zc]; exact Za (en_ok v h _ (Zn y1)).few (by decide)))
     refine ⟨_,rfl,vB_ok TO rfl 60 _ _ _ _ <| MethOk.clear z1 <| Cal.mk <| CallOk.clear z1 few ?_⟩
     obtain ⟨jk2,e2⟩:=set_far (σ:=σ₁) (o:=.list []) (y:=.list vs) (jk:=jk') y4
     refine ⟨jk2,e2,fun x ws' hx g => ?_,⟨rfl,rfl,rfl,rfl,trivial⟩⟩
     by_cases e:ly = x
     · subst e; exact ⟨[],Zw (Zb.mp z1).1,Zkb _⟩
     · rw [Zi e]; exact hc x ws' hx g
   obtain ⟨jk',rfl,zz,has⟩:=hJ
   obtain ⟨r,rfl⟩:=has.use
   have h2:Rr rs cs p mem (σ₁ ++ .list vs :: jk'):=h.up
   have ht2:(σ₁ ++ MObj.list vs :: jk')[lt]? = some (.tdict kvs):=get_up ht
   have hk2:KeptR (σ₁ ++ .list vs :: jk') [] (tl mem) kvs:=hk.up
   generalize (σ₁ ++ MObj.list vs :: jk') = σ₂ at h2 ht2 hk2
   clear hE ht hk h
   refine MethOk.own h2.hr rfl hC.cls hCe <| Cal.mk <| fn_entries (d:=d + 29) TO h2.hr h2.hm f1 f2 f3 fun vs2 jk2 hE2 => ?_
   refine MethOk.clear get0 <| Cal.mk <| CallOk.clear get0 (by rw [hE2.length]; unfold tl; rw [Zc]; exact szo (Za f1 (by decide))) ?_
   rw [set0]
   have h3:Rr rs cs p mem (σ₂ ++ .list [] :: jk2):=h2.up
   have ht3:(σ₂ ++ MObj.list [] :: jk2)[lt]? = some (.tdict kvs):=get_up ht2
   have hk3:KeptR (σ₂ ++ .list [] :: jk2) [] (tl mem) kvs:=hk2.up
   generalize (σ₂ ++ MObj.list [] :: jk2) = σ₃ at h3 ht3 hk3
   clear hE2 ht2 hk2 h2
   have hl3:σ₃[l]? = some (.list (rs.map ruleV)):=h3.ob _ hlm
   refine ForOk.mk (rs.map ruleV) (J08rc rs cs p l lt σ₃) ⟨⟨rfl,rfl,rfl,rfl,rfl,trivial⟩,by rw [List.take_zero]; rfl⟩ (fun i ρ' σ' hJ => ?_) (fun ρ' σ' hJ => ?_) fun i y ρ' σ' hJ hy => ?_
   · obtain ⟨zz,rfl⟩:=hJ
     exact iter_list (get_up hl3)
   rotate_left
   · obtain ⟨has,rfl⟩:=hJ
     obtain ⟨r,rfl⟩:=has.use
     rw [Zdb] at hy
     obtain ⟨pr,hp,rfl⟩:=Zpb.mp hy
     refine ⟨_,rfl,vB_ok TO rfl 60 _ _ _ _ ?_⟩
     refine SetItemOk.of get_new (by rw [tabKV,Zc,List.length_take]; exact Za (Nat.min_le_right ..) (Za v.h40 (by decide))) ?_
     rw [set_end,tabKV_set (nodup_take v.hg.nodup hp),← take_next hp]
     exact ⟨⟨rfl,rfl,rfl,rfl,rfl,trivial⟩,rfl⟩
   obtain ⟨has,e⟩:=hJ
   obtain ⟨r,rfl⟩:=has.use
   rw [Zc,List.take_length] at e
   subst e
   have h4:Rr rs cs p mem (σ₃ ++ [.sdict (tabKV rs)]):=h3.up
   have ht4:(σ₃ ++ [MObj.sdict (tabKV rs)])[lt]? = some (.tdict kvs):=get_up ht3
   have hk4:KeptR (σ₃ ++ [.sdict (tabKV rs)]) [] (tl mem) kvs:=hk3.up
   have hp4:(σ₃ ++ [MObj.sdict (tabKV rs)])[σ₃.length]? = some (.sdict (tabKV rs)):=get_new
   generalize (σ₃ ++ [MObj.sdict (tabKV rs)]) = σ₄ at h4 ht4 hk4 hp4
   generalize σ₃.length = pd at hp4
   clear ht3 hk3 h3 hl3
   refine MethOk.own h4.hr rfl hC.cls hCe <| Cal.mk <| fn_entries (d:=d + 29) TO h4.hr h4.hm f1 f2 f3 fun vs5 jk5 hE5 => ?_
   refine Cal.len (n:=cs.length) (len_str_ (S_length cs)) hcl <| Cal.mk <| fn_toldr (d:=d + 27) TO v h4 hE5 rfl fun kvs5 jk6 τ lt5 eτ zz t1 t2 h5 => ?_
   have ht6:τ[lt]? = some (.tdict kvs):=by rw [eτ]; exact get_up (get_up ht4)
   have hk6:KeptR τ [] (tl mem) kvs:=by rw [eτ]; exact hk4.up.up
   have hp6:τ[pd]? = some (.sdict (tabKV rs)):=by rw [eτ]; exact get_up (get_up hp4)
   have hl6:τ[σ₄.length]? = some (.list vs5):=by rw [eτ]; exact get_up get0
   have hE6:EnR (σ₄.length + 1) τ (tl mem) vs5:=by rw [eτ]; exact hE5.up fun x o zz g => get_up g
   refine Cmp.neT t1 ht6 (by rw [t2.length,hk6.length]) (told_same (tl_names v h5) t2 hk6) ?_
   refine comp_true hl6 (by rw [hE6.length]; unfold tl; rw [Zc]; exact f1) (fun jk => Cal.mk <| CallOk.all (bs:=List.replicate vs5.length true) get_new (by rw [all_true]; exact q _ mem h5.up.up)) fun y hy jk => ?_
   refine ent_facts v h5 hE6 hy fun ky a ly pr as ey y3 hpr hpe hkl rv2 few h0 hs => ?_
   subst ey
   refine vE_ok TO rfl 40 _ _ _ ?_
   refine Cmp.inD (r:=true) (get_up hp6) (hpe ▸ List.any_eq_true.mpr ⟨(pr.1,pr.2.v),Zsb.mpr ⟨pr,hpr,rfl⟩,Zmb rfl⟩) ?_
   refine Itm.dict (get_up hp6) (hpe ▸ tabKV_get v.hg.nodup hpr) ?_
   exact Cal.mk <| fn_holds (d:=d + 3) TO (tl_kw v h5) v.hc (get_up ht6) hk6.up rv2 hkl (v.hw pr hpr) (v.hg.all pr hpr).deep few (get_up y3) h0 hs fun jk2 => ⟨rfl,jk2,Ze ..⟩
end
end
section
variable {w:World} {s:Shared} {d:Nat} {X:QX} {Q:QE} {σ:Hp}
noncomputable def aT:Str:=Str.ofString "ab:"
theorem aT_len:aT.length = 3:=by decide +kernel
theorem foldl_len (k:Nat) (x:Array Nat):∀ acc:Array Nat,((List.replicate k x).foldl (· ++ ·) acc).size = acc.size + k * x.size:=by
 induction k with
 | zero => intro acc; simp
 | succ k ih => intro acc; rw [List.replicate_succ,List.foldl_cons,ih,Array.size_append,Nat.succ_mul]; lia
theorem mul_len {k:Nat} (hk:2 ≤ k):(Txt.mul aT k).length = k * 3:=by
 unfold Txt.mul
 rw [if_neg (by lia),if_neg (by rw [aT_len]; simp; lia)]
 show (Array.size _) = _
 rw [foldl_len,Int.toNat_natCast]
 show 0 + k * aT.length = _
 rw [aT_len,Nat.zero_add]
theorem mul_ok {k:Nat} (hk:k ≤ 500) (h2:2 ≤ k):MulOk aT k:=by
 refine ⟨by simp; lia,fun _ _ => ?_,fun _ _ => ?_⟩
 · rw [aT_len]
   have:(100:Int) ≤ (2 ^ 63 - 1) / (k:Int):=by
     rw [Int.le_ediv_iff_mul_le (by lia)]; lia
   lia
 · rw [aT_len]
   have:3 * (k:Int).toNat ≤ 1500:=by rw [Int.toNat_natCast]; lia
   exact decide_eq_false (by have:(3 * (k:Int).toNat) ≤ 1500:=this; unfold sizeLine; lia)
theorem sl_len {j:Nat} (h:j < 3):(Txt.slice aT none (some (j:Int))).length = j:=by
 have:((List.range 3).all fun j => (Txt.slice aT none (some (j:Int))).length == j) = true:=by decide +kernel
 exact eq_of_beq (List.all_eq_true.mp this j (List.mem_range.mpr h))
theorem text_is {n k:Nat} {a c:Int} (hk:a = k) (hj:c = ((n % 3:Nat):Int)) (h2:2 ≤ k) (h:k * 3 + n % 3 = n):(Txt.mul aT a).length + (Txt.slice aT none (some c)).length = n ∧ (Txt.mul aT a ++ Txt.slice aT none (some c)).length = n:=by
 subst hk hj
 have e:(Txt.mul aT k).length + (Txt.slice aT none (some ((n % 3:Nat):Int))).length = n:=by rw [mul_len h2,sl_len (Nat.mod_lt _ (by decide)),h]
 exact ⟨e,(Array.size_append ..).trans e⟩
theorem S_of (x:Str):x = S x.cps.toList:=by cases x; simp [S]
theorem Bin.catTo {x y:Str} {n:Nat} (e1:x.length + y.length = n) (e2:(x ++ y).length = n) (hn:n ≤ 1299) (h:∀ cs:List Nat,cs.length = n → Q (.str (S cs)) σ):Bin .Add (.str x) (.str y) Q σ :=
 .cat (e1.symm ▸ szo (Za hn (by decide))) ((S_of (x ++ y)).symm ▸ h _ (Array.length_toList.trans e2))
section
variable {cs:List Nat} {b:Mm}
noncomputable def allA (n:Nat):List Kid:=(List.range (n + 1)).map fun j => (nmA,j)
structure LmA (cs:List Nat) (b:Mm):Prop where
 mc:Mc (rsA.map (·.1)) (inB (turnsE rsA rsA.length)) 10 cs.length [] b
 mi:MI (partOf rsA) cs [] b
 ord:b.order = allA cs.length
 kept:∀ i,i ≤ cs.length → getM b.kept (nmA,i) = some (some cs.length,if i < cs.length then [(nmA,i + 1)] else [])
noncomputable def PA (cs:List Nat) (o:Option (An Kid × Mm)):Prop:=∃ us b',o = some ((some cs.length,us),b') ∧ LmA cs b'
theorem partA:partOf rsA nmA = ptA:=partOf_eq goodA.nodup (Zj.mpr rfl)
theorem grA:GrOk (partOf rsA) (rsA.map (·.1)) (inB (turnsE rsA rsA.length)) (ixOf rsA) rsA.length 10:=grOk_of (fun zz hr => partOf_eq goodA.nodup hr) goodA laterA fun r hr => by
 cases Zj.mp hr
 show 1 ≤ 10
 decide
theorem readA (hc:cs.length ≤ 1299) (hm:Mc (rsA.map (·.1)) (inB (turnsE rsA rsA.length)) 10 cs.length [] b) (hi:MI (partOf rsA) cs [] b) (ho:b.order = [] ∨ b.order = allA cs.length):∃ n,Fin (partOf rsA) cs memBk (PA cs) n ⟨[.new (.rule nmA) 0],none,b⟩:=by
 have l1:cs.length + 1 ≤ 1300:=Nat.succ_le_succ hc
 obtain ⟨m,x,b',h1,h2,h3,h4,h5,h6⟩:=mem_read grA (Za (Znb _ l1) (by decide)) (Za (Znb _ l1) (by decide)) (Za (Nat.mul_le_mul_right 14 (Nat.mul_le_mul_right _ l1)) (by decide)) hm hi (name:=nmA) (Zj.mpr rfl) (Zkb _)
 have kp:=keptA partA h4 h2
 have k0:=kp 0 (Zkb _)
 rw [h2] at k0
 refine ⟨m,h1.mono fun o e => ⟨[(nmA,0)],b',?_,h3,h4,?_,kp⟩⟩
 · rw [e,Zab k0]; rfl
 · rcases ho with ho | ho
   · rw [ho] at h6
     exact ordA partA h4 _ 0 _ _ (Nat.zero_add _) rfl h6
   · rw [ho] at h6
     rcases h6.inv with h | ⟨zz,h⟩
     · exact h.2.none
     · exact absurd (Zsb.mpr ⟨0,List.mem_range.mpr (Nat.succ_pos _),rfl⟩) h.1
theorem tlA (h:LmA cs b):tl b = (List.range (cs.length + 1)).map fun j => ((nmA,j),(some cs.length,if j < cs.length then [(nmA,j + 1)] else [])):=by
 unfold tl
 rw [h.ord]
 unfold allA
 rw [List.map_map]
 refine List.map_congr_left fun j hj => ?_
 show ((nmA,j),nrm (getM b.kept (nmA,j))) = _
 rw [h.kept j (Nat.le_of_lt_succ (List.mem_range.mp hj))]
 rfl
end
noncomputable def enD (x:Kid × An Kid):PyData:=.tuple [.str x.1.1,.int x.1.2,endD x.2.1,.list (x.2.2.map kidD)]
theorem en_deeps {lo:Nat} {xs:List (Kid × An Kid)} {vs:List V} (h:EnR lo σ xs vs) (hs:∀ x ∈ xs,sOk x.1.1 ∧ ∀ k ∈ x.2.2,sOk k.1):Deeps σ (xs.map enD) vs:=by
 induction h with
 | nil => exact .nil
 | cons h hl t ih =>
   obtain ⟨h1,h2⟩:=hs _ (Zt ..)
   exact .cons (.tup (.cons (.str h1) <| .cons (.int _) <| .cons (end_deep _) <| .cons (kids_deep h2 h) .nil)) (ih fun x hx => hs x (Zd _ hx))
theorem en_few (xs:List (Kid × An Kid)):(PyData.list (xs.map enD)).depth ≤ 40:=by
 have:PyData.depthAll (xs.map enD) ≤ 3:=by
   induction xs with
   | nil => exact dN
   | cons x r ih => exact dC (dT (dC (Zkb _) (dC (Zkb _) (dC (end_few _) (dC (dL (kids_few x.2.2)) dN))))) ih
 exact Za (dL this) (by decide)
theorem rows_deeps {f:Nat → List V} {g:Nat → List PyData} (h:∀ i,Deeps σ (g i) (f i)):∀ l:List Nat,Deeps σ (l.map fun i => .tuple (g i)) (l.map fun i => .tup (f i))
 | [] => .nil
 | i :: r => .cons (.tup (h i)) (rows_deeps h r)
theorem rows_few {g:Nat → List PyData} (h:∀ i,PyData.depthAll (g i) ≤ 0) (l:List Nat):(PyData.list (l.map fun i => .tuple (g i))).depth ≤ 40:=by
 have:PyData.depthAll (l.map fun i => PyData.tuple (g i)) ≤ 1:=by
   induction l with
   | nil => exact dN
   | cons i r ih => exact dC (dT (h i)) ih
 exact Za (dL this) (by decide)
theorem Cmp.neL {f:Nat → List V} {g:Nat → List PyData} {ks:List Nat} {l l':Nat} (h:∀ i,Deeps σ (g i) (f i)) (hd:∀ i,PyData.depthAll (g i) ≤ 0) (h1:σ[l]? = some (.list (ks.map fun i => .tup (f i)))) (h2:σ[l']? = some (.list (ks.map fun i => .tup (f i)))) (q:Q (.bool false) σ):Cmp .NotEq (.ref l) (.ref l') Q σ :=
 .neR (.list h1 (rows_deeps h ks)) (.list h2 (rows_deeps h ks)) (rows_few hd ks) (PySem.SeqAt.eqv_refl _ (Deep.list h1 (rows_deeps h ks)).lay) q
theorem comp_rng {T:Tp} {sc scope:Scope} {ρ:Loc} {x:Str} {elt:Expr} {m:Int} {n:Nat} (P:Nat → List V → Hp → Prop) (hm:m = n) (hn:n ≤ 2000) (h0:P 0 [] σ) (hl:∀ i acc σ',P i acc σ' → acc.length = i ∧ i ≤ n) (q:∀ acc σ',P n acc σ' → Q (.ref σ'.length) (σ' ++ [.list acc]))
   (h:∀ i:Nat,i < n → ∀ acc σ',P i acc σ' → EvOk T d (relab scope sc) (upd (compLoc scope ρ) x (some (.int i))) X elt (fun v σ'' => P (i + 1) (acc ++ [v]) σ'') σ'):CompOk T d sc ρ X scope x [] elt Q (.rng m) σ:=by
 subst hm
 refine ⟨_,P,h0,fun i acc σ' hJ => ⟨rng_iter (by exact Int.NonNeg.mk (n + 0)) (by lia),?_⟩,fun acc σ' hJ => ?_,fun i y acc σ' hJ hy => ?_⟩
 · obtain ⟨h1,h2⟩:=hl i acc σ' hJ
   rw [h1]; exact szo (Za h2 (Za hn (by decide)))
 · rw [Zc,List.length_range,Int.toNat_natCast] at hJ
   exact q acc σ' hJ
 · obtain ⟨hi,rfl⟩:=rng_at hy
   rw [Int.toNat_natCast] at hi
   exact h i hi acc σ' hJ
inductive J08lf (n:Nat) (f:Nat → V) (σ:Hp) (i:Nat) (acc:List V) (σ':Hp):Prop where
 | mk (h1:acc = (List.range i).map f) (h2:i ≤ n) (h3:σ' = σ):J08lf n f σ i acc σ'
theorem comp_row {T:Tp} {sc scope:Scope} {ρ:Loc} {x:Str} {elt:Expr} {m:Int} {n:Nat} (f:Nat → V) (hm:m = n) (hn:n ≤ 2000) (q:Q (.ref σ.length) (σ ++ [.list ((List.range n).map f)]))
   (h:∀ i:Nat,i < n → EvOk T d (relab scope sc) (upd (compLoc scope ρ) x (some (.int i))) X elt (fun v σ'' => v = f i ∧ σ'' = σ) σ):CompOk T d sc ρ X scope x [] elt Q (.rng m) σ:=by
 refine comp_rng (J08lf n f σ) hm hn ⟨rfl,Zkb _,rfl⟩ (fun i acc σ' hJ => ?_) (fun acc σ' hJ => ?_) fun i hi acc σ' hJ => ?_
 · obtain ⟨rfl,h2,rfl⟩:=hJ
   exact ⟨by rw [Zc,List.length_range],h2⟩
 · obtain ⟨rfl,h2,rfl⟩:=hJ
   exact q
 · obtain ⟨rfl,h2,rfl⟩:=hJ
   refine (h i hi).mon fun v σ'' g => ?_
   obtain ⟨rfl,rfl⟩:=g
   exact ⟨by rw [List.range_succ,List.map_append]; rfl,hi,rfl⟩
theorem no3 {x a b c:Nat} (h1:x ≠ a) (h2:x ≠ b) (h3:x ≠ c):x ∉ [a,b,c]:=fun h => (Zg.mp h).elim h1 fun h => (Zg.mp h).elim h2 fun h => h3 (Zj.mp h)
theorem lt_no3 {x n:Nat} (h:x ≤ n):x ∉ [n + 1,n + 2,n + 3]:=no3 (Nat.ne_of_lt (Zk h (Nat.lt_add_of_pos_right (by decide)))) (Nat.ne_of_lt (Zk h (Nat.lt_add_of_pos_right (by decide)))) (Nat.ne_of_lt (Zk h (Nat.lt_add_of_pos_right (by decide))))
theorem gt_no3 {x n:Nat} (h:n + 3 < x):x ∉ [n + 1,n + 2,n + 3]:=no3 (Nat.ne_of_gt (Zk (Nat.add_le_add_left (by decide) n) h)) (Nat.ne_of_gt (Zk (Nat.add_le_add_left (by decide) n) h)) (Nat.ne_of_gt h)
theorem mm_up {m a b:Nat} {mem:Mm} {jk:Hp} (h:MmAt σ [m,a,b] m a b mem):MmAt (σ ++ jk) [m,a,b] m a b mem:=(memRep m a b).keep h .up fun x hx => Zbb (h.nodup.2 x hx)
theorem gr_up {rs:List (Str × Pt)} {g gb:Nat} {jk:Hp} (h:GrT rs g gb σ):GrT rs g gb (σ ++ jk):=h.rec fun a c e h1 h2 => ⟨a,c,e,get_up h1,get_up h2⟩
theorem nmA_ok:sOk nmA:=by show PyData.strOk nmA = true; decide +kernel
theorem at0 {n:Nat}:¬ ((0:Int) < 0 ∨ (n:Int) < 0):=fun h => h.elim (Int.lt_irrefl _) fun h => Int.not_lt.mpr (Int.natCast_nonneg n) h
inductive J08la (ρ:Loc) (σ σ':Hp):Prop where
 | mk (n:Nat) (h1:1000 ≤ n) (h2:n ≤ 1299) (e:σ' = σ) (has:Has ρ [("_law_size",.int n)]):J08la ρ σ σ'
inductive J08lb (ρ:Loc) (σ:Hp):Prop where
 | mk (cs:List Nat) (g gb lr m a b:Nat) (h2:cs.length ≤ 1299) (hr:σ[lr]? = some (.inst "Reading" (rdF g cs m))) (hG:GrT rsA g gb σ) (hm:MmAt σ [m,a,b] m a b ⟨[],[]⟩) (n1:g ∉ [m,a,b]) (n2:gb ∉ [m,a,b]) (n3:lr ∉ [m,a,b]) (has:Has ρ [("_law_size",.int cs.length),("_law_reading",.ref lr)]):J08lb ρ σ
inductive J08lc (n:Nat) (σ:Hp) (i:Nat) (acc:List V) (σ':Hp):Prop where
 | mk (jk:Hp) (h1:EnR 0 σ' ((List.range i).map fun j => ((nmA,j),(some n,[(nmA,j + 1)]))) acc) (h2:i ≤ n) (h3:σ' = σ ++ jk):J08lc n σ i acc σ'
section
variable {a b c d':MObj} {r:Hp}
theorem get2:(σ ++ a :: b :: c :: r)[σ.length + 2]? = some c:=by rw [List.getElem?_append_right (Zy ..),Nat.add_sub_cancel_left]; rfl
theorem get3:(σ ++ a :: b :: c :: d' :: r)[σ.length + 3]? = some d':=by rw [List.getElem?_append_right (Zy ..),Nat.add_sub_cancel_left]; rfl
end
inductive J08ld (ρ:Loc) (σ:Hp):Prop where
 | mk (cs:List Nat) (g gb lr m a b:Nat) (mem:Mm) (h2:cs.length ≤ 1299) (hr:σ[lr]? = some (.inst "Reading" (rdF g cs m))) (hG:GrT rsA g gb σ) (hm:MmAt σ [m,a,b] m a b mem) (lm:LmA cs mem) (n1:g ∉ [m,a,b]) (n2:gb ∉ [m,a,b]) (n3:lr ∉ [m,a,b]) (has:Has ρ [("_law_size",.int cs.length),("_law_reading",.ref lr)]):J08ld ρ σ
theorem due_cmp {cs:List Nat} {mem:Mm} {lo l k l':Nat} {vs acc:List V} (lm:LmA cs mem) (hE:EnR lo σ (tl mem) vs) (h1:EnR 0 σ ((List.range cs.length).map fun j => ((nmA,j),(some cs.length,[(nmA,j + 1)]))) acc) (e1:σ[l]? = some (.list vs)) (e2:σ[k]? = some (.list [])) (e3:σ[l']? = some (.list (acc ++ [entV (nmA,cs.length) (some cs.length,[]) k]))) (q:Q (.bool true) σ):Cmp .Eq (.ref l) (.ref l') Q σ:=by
 have E2:=h1.snoc (k:=(nmA,cs.length)) (a:=(some cs.length,[])) e2 (Zkb _)
 have ee:((List.range cs.length).map fun j => ((nmA,j),(some cs.length,[(nmA,j + 1)]))) ++ [((nmA,cs.length),(some cs.length,[]))] = tl mem:=by
   rw [tlA lm,List.range_succ,List.map_append]
   refine congr (congrArg HAppend.hAppend (List.map_congr_left fun j hj => ?_)) ?_
   · rw [if_pos (List.mem_range.mp hj)]
   · show [((nmA,cs.length),(some cs.length,[]))] = [((nmA,cs.length),(some cs.length,if cs.length < cs.length then [(nmA,cs.length + 1)] else []))]
     rw [if_neg (Zub _)]
 rw [ee] at E2
 have hs:∀ x ∈ tl mem,sOk x.1.1 ∧ ∀ k ∈ x.2.2,sOk k.1:=fun x hx => by
   rw [tlA lm] at hx
   obtain ⟨j,zz,rfl⟩:=Zsb.mp hx
   refine ⟨nmA_ok,fun k (hk:k ∈ if j < cs.length then [(nmA,j + 1)] else []) => ?_⟩
   by_cases h:j < cs.length
   · rw [if_pos h] at hk
     cases Zj.mp hk; exact nmA_ok
   · rw [if_neg h] at hk
     cases hk
 have D1:Deep _ (.list ((tl mem).map enD)) _:=.list e1 (en_deeps hE hs)
 exact Cmp.eqR D1 (.list e3 (en_deeps E2 hs)) (en_few _) (PySem.SeqAt.eqv_refl _ D1.lay) q
theorem kidsA {cs:List Nat} {mem:Mm} (l2:cs.length ≤ 1299) (lm:LmA cs mem):mem.order.length ≤ 5000000 ∧ (∀ k ∈ mem.order,∃ a,getM mem.kept k = some a) ∧ ∀ k a,getM mem.kept k = some a → a.2.length ≤ 5000000:=by
 have f0:∀ k ∈ mem.order,getM mem.kept k = some (some cs.length,if k.2 < cs.length then [(nmA,k.2 + 1)] else []):=fun k hk => by
   rw [lm.ord] at hk
   obtain ⟨j,hj,rfl⟩:=Zsb.mp hk
   exact lm.kept j (Nat.le_of_lt_succ (List.mem_range.mp hj))
 refine ⟨by rw [lm.ord,allA,Zc,List.length_range]; exact Za (Nat.succ_le_succ l2) (by decide),fun k hk => ⟨_,f0 k hk⟩,fun k a hk => ?_⟩
 rw [f0 k (lm.mi.kin k a hk)] at hk
 rw [← Zab hk]
 show List.length (if k.2 < cs.length then [(nmA,k.2 + 1)] else []) ≤ _
 by_cases h:k.2 < cs.length
 · rw [if_pos h]; exact (by decide:1 ≤ 5000000)
 · rw [if_neg h]; exact Zkb _
theorem fn_long_good (TO:TopOk (T08 w s)) {c:Int} (q:∀ σ',Q (.bool true) σ'):CallOk (T08 w s) (d + 20) X (.glob "_law_long_good") [.int c] Q σ:=by
 refine CallOk.goX TO rfl rfl ?_
 refine ExOk.cutAt 1 (fun ρ' => J08la ρ' σ) (vB_ok TO rfl 60 _ _ _ _ ?_) fun ρ₁ σ₁ hJ => ?_
 · obtain ⟨m,e,l⟩:=nat_lt (n:=300) (fmod_range (a:=c) (b:=300) (by decide))
   exact ⟨1000 + m,Zy ..,by lia,rfl,⟨congrArg (fun x => some (V.int x)) (by rw [e]; rfl),trivial⟩⟩
 obtain ⟨n,l1,l2,rfl,has⟩:=hJ
 obtain ⟨r,rfl⟩:=has.use
 refine ExOk.cutAt 2 J08lb (vB_ok TO rfl 60 _ _ _ _ ?_) fun ρ₂ σ₂ hJ => ?_
 · refine Cal.mk <| fn_init (d:=d + 1) (rs:=rsA) TO get_new goodA (fun bs junk zz zz hG => ?_) fun bs junk _ hh1 => by obtain ⟨r,hr,h⟩:=hh1; exact absurd h (laterA.no goodA.nodup hr)
   refine hG.t.elim fun gb hGT => ?_
   clear hG zz
   generalize List.length (σ₁ ++ [MObj.list _]) = g at hGT ⊢
   generalize σ₁ ++ [MObj.list _] ++ junk = τ at hGT ⊢
   obtain ⟨k,hk,k1,k2⟩:∃ k:Nat,(n:Int).fdiv 3 = k ∧ 2 ≤ k ∧ k * 3 + n % 3 = n ∧ k ≤ 500:=⟨n / 3,by rw [Int.fdiv_eq_ediv_of_nonneg _ (by decide)]; rfl,by omega,by omega,by omega⟩
   have hj:(n:Int).fmod 3 = ((n % 3:Nat):Int):=by rw [Int.fmod_eq_emod_of_nonneg _ (by decide)]; rfl
   refine Bin.mk ⟨_,_,.rep aT _ (hk ▸ mul_ok k2.2 k1),?_⟩
   refine Evx.mk <| EvOk.strTo (x:=aT) (by rw [aT_len]; exact szo (by decide)) (EvOk.bin (EvOk.nm rfl rfl rfl (EvOk.int ⟨_,_,.mod _ _ (by decide),_,rfl,?_⟩)))
   refine Bin.catTo (text_is hk hj k1 k2.1).1 (text_is hk hj k1 k2.1).2 l2 fun cs hl => ?_
   subst hl
   refine Cal.mk <| fn_reading (d:=d + 14) TO ?_
   have hgl:g < τ.length ∧ gb < τ.length:=hGT.rec fun a c e h1 h2 => ⟨(Zb.mp h1).1,(Zb.mp h2).1⟩
   exact ⟨cs,g,gb,τ.length,τ.length + 1,τ.length + 2,τ.length + 3,l2,get0,hGT.rec fun a c e h1 h2 => ⟨a,c,e,get_up h1,get_up h2⟩,⟨[],get1,get2,get3,rfl⟩,lt_no3 (Zq hgl.1),lt_no3 (Zq hgl.2),lt_no3 (Zl _),⟨rfl,rfl,trivial⟩⟩
 obtain ⟨C,hC,hCe⟩:=rd_ent (w:=w) (s:=s)
 refine ExOk.cutAt 1 J08ld (vB_ok TO rfl 60 _ _ _ _ ?_) fun ρ₃ σ₃ hJ => ?_
 · obtain ⟨cs,g,gb,lr,m,a,b,l2,hr,hG,hm,n1,n2,n3,has⟩:=hJ
   obtain ⟨r,rfl⟩:=has.use
   refine MethOk.own hr rfl hC.cls hC.read <| Cal.mk <| fn_read (d:=d + 11) (P:=PA cs) TO goodA hG n1 n2 (Zk l2 (by decide)) hr hm (fun g => absurd (Zj.mpr rfl) g) (fun zz g => absurd g at0) (fun zz j e zz => ?_) (fun g => by obtain ⟨us,b',e,zz⟩:=g; cases e) fun an mem' σ' hp hm' ho zz => ?_
   · obtain rfl:j = 0:=Int.ofNat_inj.mp e.symm
     exact readA l2 .nil .nil (.inl rfl)
   · obtain ⟨us,b',e,lm⟩:=hp
     cases e
     have hr':=ho.keep _ _ hr n3
     refine MmAt.use hm' fun kvs m1 m2 m3 m4 => ?_
     refine Br.f (bne_self_eq_false _) ?_
     have rr:(allA cs.length).map pV' = (List.range (cs.length + 1)).map fun j => .tup [.str nmA,.int j]:=by unfold allA; rw [List.map_map]; rfl
     rw [lm.ord,rr] at m3
     have few:((List.range (cs.length + 1)).map fun (j:Nat) => V.tup [.str nmA,.int j]).length ≤ sizeLine:=by rw [Zc,List.length_range]; exact szo (Za (Nat.succ_le_succ l2) (by decide))
     refine MethOk.own hr' rfl hC.cls hC.begun <| Cal.mk <| fn_begun (d:=d + 17) TO hr' m1 m3 few ?_
     refine Cal.range <| comp_row (n:=cs.length + 1) (fun j => .tup [.str nmA,.int j]) rfl (Za (Nat.succ_le_succ l2) (by decide)) ?_ fun i hi => vE_ok TO rfl 40 _ _ _ ⟨rfl,rfl⟩
     refine Cmp.neL (f:=fun j => [.str nmA,.int j]) (g:=fun j => [.str nmA,.int j]) (ks:=List.range (cs.length + 1)) (fun i => .cons (.str nmA_ok) <| .cons (.int _) .nil) (fun i => dC (Zl _) (dC (Zl _) dN)) (get_up get_new) get_new ?_
     exact ⟨cs,g,gb,lr,m,a,b,mem',l2,get_up (get_up hr'),gr_up (gr_up (hG.keep ho n1 n2)),mm_up (mm_up hm'),lm,n1,n2,n3,⟨rfl,rfl,trivial⟩⟩
 refine ExOk.cutAt 1 J08ld (vB_ok TO rfl 60 _ _ _ _ ?_) fun ρ₄ σ₄ hJ => ?_
 · obtain ⟨cs,g,gb,lr,m,a,b,mem,l2,hr,hG,hm,lm,n1,n2,n3,has⟩:=hJ
   obtain ⟨r,rfl⟩:=has.use
   refine MethOk.own hr rfl hC.cls hC.tree <| Cal.mk <| fn_tree (d:=d + 10) (P:=PA cs) TO goodA hG n1 n2 (Zk l2 (by decide)) hr n3 hm (fun g => absurd (Zj.mpr rfl) g) (fun zz g => absurd g at0) (fun zz j e zz => ?_) (fun g => by obtain ⟨us,b',e,zz⟩:=g; cases e) (fun an mem' e hp zz j ej zz => ?_) (fun an mem' σ' hp e zz => ?_) fun an mem' e σ' t j hp zz ej hm' ho zz ht => ?_
   · obtain rfl:j = 0:=Int.ofNat_inj.mp e.symm
     exact readA l2 lm.mc lm.mi (.inr lm.ord)
   · obtain rfl:j = 0:=Int.ofNat_inj.mp ej.symm
     obtain ⟨us,b',e,lm⟩:=hp
     cases e
     obtain ⟨t,ht⟩:=mem_tree grA lm.mc lm.mi (lm.kept 0 (Zkb _))
     refine ⟨t,ht,?_⟩
     rw [treeA lm.kept _ 0 0 t (Nat.zero_add _) ht,Zc,List.length_range]
     exact Za (Nat.succ_le_succ l2) (by decide)
   · obtain ⟨us,b',e',lm⟩:=hp
     cases e'
     cases e
   · obtain rfl:j = 0:=Int.ofNat_inj.mp ej.symm
     obtain ⟨us,b',e,lm'⟩:=hp
     cases e
     have hr':=ho.keep _ _ hr n3
     have e:=treeA lm'.kept _ 0 0 t (Nat.zero_add _) ht
     have rr:t.map rowV = (List.range (cs.length + 1)).map fun j => .tup [.int j,.str nmA,.int j,.int cs.length]:=by
       rw [e,List.map_map]
       refine List.map_congr_left fun j hj => ?_
       show V.tup [.int ((0 + j:Nat):Int),.str nmA,.int ((0 + j:Nat):Int),.int cs.length] = _
       rw [Nat.zero_add]
     clear ht e
     rw [rr]
     refine Cal.range <| comp_row (n:=cs.length + 1) (fun j => .tup [.int j,.str nmA,.int j,.int cs.length]) rfl (Za (Nat.succ_le_succ l2) (by decide)) ?_ fun i hi => vE_ok TO rfl 40 _ _ _ ⟨rfl,rfl⟩
     refine Cmp.neL (f:=fun j => [.int j,.str nmA,.int j,.int cs.length]) (g:=fun j => [.int j,.str nmA,.int j,.int cs.length]) (ks:=List.range (cs.length + 1)) (fun i => .cons (.int _) <| .cons (.str nmA_ok) <| .cons (.int _) <| .cons (.int _) .nil) (fun i => dC (Zl _) (dC (Zl _) (dC (Zl _) (dC (Zl _) dN)))) (get_up two_get0) get_new ?_
     exact ⟨cs,g,gb,lr,m,a,b,mem',l2,get_up (get_up hr'),gr_up (gr_up (hG.keep ho n1 n2)),mm_up (mm_up hm'),lm',n1,n2,n3,⟨rfl,rfl,trivial⟩⟩
 · obtain ⟨cs,g,gb,lr,m,a,b,mem,l2,hr,hG,hm,lm,n1,n2,n3,has⟩:=hJ
   obtain ⟨r,rfl⟩:=has.use
   refine vB_ok TO rfl 60 _ _ _ _ ?_
   refine Cal.range <| comp_rng (n:=cs.length) (J08lc cs.length σ₄) rfl (Za l2 (by decide)) ⟨[],.nil,Zkb _,(List.append_nil _).symm⟩ (fun i acc σ' hJ => ?_) (fun acc σ' hJ => ?_) fun i hi acc σ' hJ => vE_ok TO rfl 40 _ _ _ ?_
   · obtain ⟨jk,h1,h2,zz⟩:=hJ
     exact ⟨by rw [h1.length,Zc,List.length_range],h2⟩
   · obtain ⟨jk,h1,zz,rfl⟩:=hJ
     refine MethOk.own (get_up (get_up hr)) rfl hC.cls hCe <| Cal.mk <| fn_entries (d:=d + 17) TO (get_up (get_up hr)) (mm_up (mm_up hm)) (kidsA l2 lm).1 (kidsA l2 lm).2.1 (kidsA l2 lm).2.2 fun vs jk2 hE => ?_
     have la:acc.length = cs.length:=by rw [h1.length,Zc,List.length_range]
     refine Bin.lists (xs:=acc) (get_up (get_up (get_up get_new))) get_new (by rw [la]; exact szo (Za (Nat.succ_le_succ l2) (by decide))) ?_
     exact due_cmp lm (hE.up fun l o zz e => get_up (get_up (get_up e))) (h1.up fun l o zz e => get_up (get_up (get_up (get_up (get_up e))))) (get_up (get_up (get_up get0))) (get_up (get_up get_new)) get_new (q _)
   · obtain ⟨jk,h1,h2,rfl⟩:=hJ
     refine ⟨jk ++ [.list [pV' (nmA,i + 1)]],?_,hi,(Ze ..)⟩
     rw [List.range_succ,List.map_append]
     exact (h1.up fun l o zz e => get_up e).snoc (k:=(nmA,i)) (a:=(some cs.length,[(nmA,i + 1)])) get_new (Zkb _)
end
section
variable {w:World} {s:Shared} {d:Nat} {X:QX} {Q:QE} {σ:Hp}
theorem GrT.set {rs:List (Str × Pt)} {g gb h:Nat} {vs:List V} {x:MObj} (hG:GrT rs g gb σ) (hh:σ[h]? = some (.list vs)):GrT rs g gb (σ.set h x):=by
 obtain ⟨a,c,e,h1,h2⟩:=hG
 refine ⟨a,c,e,?_,?_⟩
 · rw [Zi fun q => ?_]
   · exact h1
   · rw [q,h1] at hh; cases hh
 · rw [Zi fun q => ?_]
   · exact h2
   · rw [q,h2] at hh; cases hh
theorem set_in {x y:MObj} {r:Hp}:(σ ++ [x] ++ r).set σ.length y = σ ++ [y] ++ r:=by rw [Ze,Ze]; exact set0
theorem all1 {α:Type} {P:α → Prop} {a:α} (h:P a):∀ x ∈ [a],P x:=fun x hx => Zj.mp hx ▸ h
theorem all6 {α:Type} {P:α → Prop} {a b c d e f:α} (h1:P a) (h2:P b) (h3:P c) (h4:P d) (h5:P e) (h6:P f):∀ x ∈ [a,b,c,d,e,f],P x:=fun x hx =>
 (Zg.mp hx).elim (fun h => h ▸ h1) fun hx => (Zg.mp hx).elim (fun h => h ▸ h2) fun hx => (Zg.mp hx).elim (fun h => h ▸ h3) fun hx => (Zg.mp hx).elim (fun h => h ▸ h4) fun hx => (Zg.mp hx).elim (fun h => h ▸ h5) fun hx => Zj.mp hx ▸ h6
theorem all6_out {α:Type} {P:α → Prop} {a b c d e f:α} (h:∀ x ∈ [a,b,c,d,e,f],P x):P a ∧ P b ∧ P c ∧ P d ∧ P e ∧ P f :=
 ⟨h _ (.head _),h _ (.tail _ (.head _)),h _ (.tail _ (.tail _ (.head _))),h _ (.tail _ (.tail _ (.tail _ (.head _)))),h _ (.tail _ (.tail _ (.tail _ (.tail _ (.head _))))),h _ (.tail _ (.tail _ (.tail _ (.tail _ (.tail _ (.head _))))))⟩
noncomputable def two8 (g:Nat) (cs:List Nat) (n:Nat):List MObj:=[.inst "Reading" (rdF g cs (n + 1)),.inst "Memory" (mmF (n + 2) (n + 3)),.tdict [],.list []]
structure Tw8 (rs:List (Str × Pt)) (cs:List Nat) (l:Nat) (p p2:Ps) (lb:Nat) (σ:Hp):Prop where
 v:Gv rs cs
 v2:Gv rs cs.reverse
 ap:Ap p
 ap2:Ap p2
 h:Rr rs cs p ⟨[],[]⟩ σ
 h2:∀ mem σ',Rr rs cs p mem σ' → Rr rs cs.reverse p2 ⟨[],[]⟩ σ'
 hl:(l,.list (rs.map ruleV)) ∈ p.os
 hl2:(l,.list (rs.map ruleV)) ∈ p2.os
 hb:(lb,.list [.ref p.lr,.ref p2.lr]) ∈ p.os
theorem tw8 {rs:List (Str × Pt)} {cs:List Nat} {l g gb:Nat} {τ:Hp} (v:Gv rs cs) (hl:τ[l]? = some (.list (rs.map ruleV))) (hG:GrT rs g gb τ) :
   ∃ p p2,p.lr = τ.length ∧ p2.lr = (τ ++ two8 g cs τ.length).length ∧ Tw8 rs cs l p p2 (τ ++ two8 g cs τ.length ++ two8 g cs.reverse (τ ++ two8 g cs τ.length).length).length (τ ++ two8 g cs τ.length ++ two8 g cs.reverse (τ ++ two8 g cs τ.length).length ++ [.list [.ref τ.length,.ref (τ ++ two8 g cs τ.length).length]]):=by
 have hgl:g < τ.length ∧ gb < τ.length:=hG.rec fun a c e h1 h2 => ⟨(Zb.mp h1).1,(Zb.mp h2).1⟩
 have hll:=(Zb.mp hl).1
 have e1:(τ ++ two8 g cs τ.length).length = τ.length + 4:=Zf
 have e2:(τ ++ two8 g cs τ.length ++ two8 g cs.reverse (τ ++ two8 g cs τ.length).length).length = τ.length + 8:=by rw [Zf,e1]; rfl
 have v2:Gv rs cs.reverse:=⟨v.hg,v.hl,v.hw,v.hd,v.h40,by rw [List.length_reverse]; exact v.hc⟩
 have hup:∀ {x:Nat} {o:MObj},τ[x]? = some o → (τ ++ two8 g cs τ.length ++ two8 g cs.reverse (τ ++ two8 g cs τ.length).length ++ [.list [.ref τ.length,.ref (τ ++ two8 g cs τ.length).length]])[x]? = some o:=fun h => get_up (get_up (get_up h))
 refine ⟨⟨g,gb,τ.length + 1,τ.length + 2,τ.length + 3,τ.length,[(l,.list (rs.map ruleV)),(τ.length + 8,.list [.ref τ.length,.ref (τ.length + 4)]),(τ.length + 4,.inst "Reading" (rdF g cs.reverse (τ.length + 5))),(τ.length + 5,.inst "Memory" (mmF (τ.length + 6) (τ.length + 7))),(τ.length + 6,.tdict []),(τ.length + 7,.list [])]⟩,⟨g,gb,τ.length + 5,τ.length + 6,τ.length + 7,τ.length + 4,[(l,.list (rs.map ruleV))]⟩,rfl,e1.symm,v,v2,?_,?_,?_,?_,Zt ..,Zt ..,?_⟩
 · exact ⟨all6 (lt_no3 (Zq hll)) (gt_no3 (Nat.add_lt_add_left (by decide) _)) (gt_no3 (Nat.add_lt_add_left (by decide) _)) (gt_no3 (Nat.add_lt_add_left (by decide) _)) (gt_no3 (Nat.add_lt_add_left (by decide) _)) (gt_no3 (Nat.add_lt_add_left (by decide) _)),lt_no3 (Zl _),lt_no3 (Zq hgl.1),lt_no3 (Zq hgl.2)⟩
 · have l4:∀ {x:Nat},x < τ.length → x ∉ [τ.length + 5,τ.length + 6,τ.length + 7]:=fun h => lt_no3 (n:=τ.length + 4) (Za (Zq h) (Zy ..))
   exact ⟨all1 (l4 hll),lt_no3 (n:=τ.length + 4) (Zl _),l4 hgl.1,l4 hgl.2⟩
 · rw [e1]
   have at_:∀ (k:Nat) {o:MObj},(two8 g cs τ.length ++ two8 g cs.reverse (τ.length + 4) ++ [MObj.list [.ref τ.length,.ref (τ.length + 4)]])[k]? = some o → (τ ++ two8 g cs τ.length ++ two8 g cs.reverse (τ.length + 4) ++ [.list [.ref τ.length,.ref (τ.length + 4)]])[τ.length + k]? = some o:=fun k {o} h => by
     rw [Ze,Ze,List.getElem?_append_right (Zy ..),Nat.add_sub_cancel_left,← Ze]; exact h
   rw [e1] at hup
   exact ⟨all6 (hup hl) (at_ 8 rfl) (at_ 4 rfl) (at_ 5 rfl) (at_ 6 rfl) (at_ 7 rfl),at_ 0 rfl,gr_up (gr_up (gr_up hG)),⟨[],at_ 1 rfl,at_ 2 rfl,at_ 3 rfl,rfl⟩,.nil,.nil⟩
 · intro mem σ' h
   obtain ⟨o1,o2,o3,o4,o5,o6⟩:=all6_out h.ob
   exact ⟨all1 o1,o3,h.hG,⟨[],o4,o5,o6,rfl⟩,.nil,.nil⟩
 · rw [e2]
   exact Zd _ (Zt ..)
inductive J08wa (xs:List Int) (ρ:Loc) (σ:Hp):Prop where
 | mk (has:Has ρ [("_law_script",.scr xs)]):J08wa xs ρ σ
inductive J08wb (xs:List Int) (ρ:Loc) (σ:Hp):Prop where
 | mk (rs:List (Str × Pt)) (cs:List Nat) (l:Nat) (p p2:Ps) (lb:Nat) (h:Tw8 rs cs l p p2 lb σ) (has:Has ρ [("_law_script",.scr xs),("_law_rules",.ref l),("_law_signs",.str (S cs)),("_law_backwards",.str (S cs.reverse)),("_law_readings",.ref lb)]):J08wb xs ρ σ
theorem law08 (TO:TopOk (T08 w s)) (xs:List Int) (hx:xs.length ≤ 63):CallOk (T08 w s) 690 (fun zz zz => False) (.glob "law") [.scr xs] (fun v zz => v = .bool true) []:=by
 refine CallOk.goX (d:=689) TO rfl rfl ?_
 have hx62:xs.length < 2 ^ 62:=Zk hx (by decide)
 have cell:∀ {k:Int} {K:QE} {τ:Hp},decide (0 ≤ k ∧ k < 2 ^ 62) = true → K (.int (xs.getD k.toNat 0)) τ → Cal (T08 w s) 689 (fun zz zz => False) (.glob "_law_cell_at") [.scr xs,.int k] K τ:=fun hk h => ⟨fn_cell_at (d:=688) TO (Zgb hk).1 (Zgb hk).2 hx62 h⟩
 refine ExOk.cutAt 1 (J08wa xs) (vB_ok TO rfl 60 _ _ _ _ ?_) fun ρ₁ σ₁ hJ => ?_
 · refine cell rfl <| Br.mk (fun zz => cell rfl <| Cal.mk <| fn_long_good (d:=669) TO fun σ' => ⟨⟨rfl,trivial⟩⟩) fun zz => ⟨⟨rfl,trivial⟩⟩
 obtain ⟨has⟩:=hJ
 obtain ⟨r,rfl⟩:=has.use
 refine ExOk.cutAt 7 (J08wb xs) (vB_ok TO rfl 60 _ _ _ _ ?_) fun ρ₂ σ₂ hJ => vB_ok TO rfl 60 _ _ _ _ ?_
 · refine Cal.mk <| fn_rules_by (d:=685) TO hx62 fun rs l junk hg hlat hw hdr h40 zz hl => ?_
   refine Cal.len (n:=rs.length) (len_at hl (Zc _)) (Zk h40 (by decide)) <| cell rfl <| Cal.mk <| fn_signs_by (d:=687) TO fun x y z ob hs => Cal.mk <| fn_text_by (d:=686) TO hx62 h40 hs get1 fun cs h149 hsg o => ?_
   have v:Gv rs cs:=⟨hg,hlat,hw,hdr,h40,h149⟩
   have hl2:=get_up (junk:=[o]) (get_up (junk:=[ob,MObj.list [.str (S [x]),.str (S [y]),.str (S [z])]]) hl)
   clear hl hs
   generalize σ₁ ++ junk ++ [ob,MObj.list [.str (S [x]),.str (S [y]),.str (S [z])]] ++ [o] = τ at hl2
   refine Evx.mk <| EvOk.revStr (fun zz zz => rfl) (EvOk.nm rfl rfl rfl (EvOk.neg (EvOk.int ⟨1,rfl,rfl,_,rfl,by rw [S_length]; exact szo (Za h149 (by decide)),?_⟩)))
   refine Cal.list (vs:=rs.map ruleV) (seq_list hl2) (by rw [Zc]; exact szo (Za h40 (by decide))) <| Cal.mk <| fn_init (d:=671) (rs:=rs) TO get_new hg (fun bs jk zz zz hG => ?_) fun bs junk _ hh1 => by obtain ⟨r,hr,h⟩:=hh1; exact absurd h (hlat.no hg.nodup hr)
   refine hG.t.elim fun gb hGT => ?_
   refine MethOk.clear (get_up get_new) <| Cal.mk <| CallOk.clear (get_up get_new) (by rw [Zc]; exact szo (Za h40 (by decide))) ?_
   have hG2:=hGT.set (x:=.list []) (get_up get_new)
   rw [set_in] at hG2 ⊢
   have hl3:=get_up (junk:=jk) (get_up (junk:=[MObj.list []]) hl2)
   generalize List.length (τ ++ [MObj.list (rs.map ruleV)]) = g at hG2 ⊢
   generalize τ ++ [MObj.list []] ++ jk = τ' at hG2 hl3 ⊢
   refine Cal.mk <| fn_reading (d:=684) (cs:=cs) TO <| Cal.mk <| fn_reading (d:=684) (cs:=cs.reverse) TO ?_
   obtain ⟨p,p2,e1,e2,h⟩:=tw8 v hl3 hG2
   exact ⟨rs,cs,l,p,p2,_,h,⟨rfl,rfl,rfl,rfl,rfl,trivial⟩⟩
 · obtain ⟨rs,cs,l,p,p2,lb,h,has⟩:=hJ
   obtain ⟨r,rfl⟩:=has.use
   refine Itm.list (h.h.ob _ h.hb) rfl rfl ⟨by decide,by decide⟩ <| Cal.mk <| fn_reading_holds (d:=657) TO h.v h.ap hx62 h.h h.hl fun σ' mem' h' => ?_
   refine Itm.list (h'.ob _ h.hb) rfl rfl ⟨by decide,by decide⟩ <| Cal.mk <| fn_reading_holds (d:=657) TO h.v2 h.ap2 hx62 (h.h2 _ _ h') h.hl2 fun σ' mem' h' => rfl
end
end Mine
open PySem PySem.W PyProof.Rows in
set_option tactic.hygienic true in
theorem PySem.Challenge.cw_uf010010_08_holds : PySem.Challenge.rw_uf010010_08.Holds := by
 refine Mine.hd08 ?_
 intro w s₀ s₁ mg mb G Y fa o pm cd doc dV kV ho hd hcd hD hmg hg args vals as hpre hlay hrd hwl hlo
 have KX:=kIn_of Y
 refine Ground.open G ?_
 intro T B D TE TW
 have TR:=topRead_of T
 clear hd hcd hD
 wrow_args hpre hlay hrd hwl hlo
 rename_i xs _ _ _ _ _ _ _ la vs _ hL _ _ _ hI _ hn _
 obtain ⟨l,hl,hxs⟩:=Mine.ints_pairs hI
 obtain ⟨ol,h1,h2,n,h3⟩:=hL
 exact Mine.finish (fun _ => rfl) (by wrow_post) (Mine.start TR KX hg ⟨56,_,rfl,by decide⟩ hmg (by rfl) h1 h2 h3 (by simpa using hl) hxs (Mine.law08 (Mine.topOk_of TR KX) xs (by omega)))
