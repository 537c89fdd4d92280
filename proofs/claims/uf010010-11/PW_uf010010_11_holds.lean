import PyProof.Rows.All
import Wide.All
import OpenK.AllK
import Wide.FinOn
import PySem.Challenge.RW_uf010010_11
section
open PySem.W.S
name_quick tw17162643061809993473 for modZ by modZ_eq
name_quick tw2722014006501746164 for modZ by modZ_eq
name_quick tw7561821322605107625 for modZ by modZ_eq
name_quick tw11615749447778548574 for modZ by modZ_eq
name_quick tw12825747657099905194 for modZ by modZ_eq
name_quick tw7345854011622752057 for modZ by modZ_eq
name_quick tw9504442848539181226 for modZ by modZ_eq
name_quick tw711711084754764637 for modZ by modZ_eq
name_quick tw10832646685359988430 for modZ by modZ_eq
name_quick tw10473981323410125865 for modZ by modZ_eq
name_quick tw2349461103040793958 for modZ by modZ_eq
name_quick tw15020349298241465021 for modZ by modZ_eq
name_quick tw3663275763361988502 for modZ by modZ_eq
name_quick tw2162471749640918368 for modZ by modZ_eq
name_quick tw11446999081256677250 for modZ by modZ_eq
name_quick tw5190742084660284491 for modZ by modZ_eq
name_quick tw15130067395428848868 for modZ by modZ_eq
name_quick tw1681977212797327398 for modZ by modZ_eq
name_quick tw2321459944328617020 for modZ by modZ_eq
name_quick tw4999320953606872591 for modZ by modZ_eq
name_quick tw474916824955620210 for modZ by modZ_eq
name_quick tw11123885136144567672 for modZ by modZ_eq
name_quick tw1563740438446669827 for modZ by modZ_eq
name_quick tw934931963940243145 for modZ by modZ_eq
name_quick tw5929837068934676350 for modZ by modZ_eq
name_quick tw10739412887229884169 for modZ by modZ_eq
name_quick tw12479045399119123558 for modZ by modZ_eq
name_quick tw16583872728106939565 for modZ by modZ_eq
name_quick tw11459889925869305866 for modZ by modZ_eq
name_quick tw15069897317246458244 for modZ by modZ_eq
name_quick tw15383334063051888526 for modZ by modZ_eq
name_quick tw3610217995336366005 for modZ by modZ_eq
name_quick tw7195521681116383605 for modZ by modZ_eq
name_quick tw13944380647700989392 for modZ by modZ_eq
name_quick tw14450432598845223664 for modZ by modZ_eq
name_quick tw14618254434123642530 for modZ by modZ_eq
name_quick tw7170337620221709080 for modZ by modZ_eq
name_quick tw5925677904530398632 for modZ by modZ_eq
name_quick tw16310358521718867248 for modZ by modZ_eq
name_quick tw12295870883424770285 for modZ by modZ_eq
name_quick tw2697683217665489404 for modZ by modZ_eq
name_quick tw262758236868737195 for modZ by modZ_eq
name_quick tw4562936712791890922 for modZ by modZ_eq
name_quick tw6635577242039400990 for modZ by modZ_eq
name_quick tw13496957918315616036 for modZ by modZ_eq
name_quick tw13011121385079812987 for modZ by modZ_eq
name_quick tw5776051617718379628 for modZ by modZ_eq
name_quick tw990624785151917353 for modZ by modZ_eq
name_quick tw13122867787621835373 for modZ by modZ_eq
name_quick tw6915877860114546192 for modZ by modZ_eq
name_quick tw3214800880672141247 for modZ by modZ_eq
name_quick tw3298646182019698073 for modZ by modZ_eq
name_quick tw9582203999027651994 for modZ by modZ_eq
name_quick tw8644340643179958747 for modZ by modZ_eq
name_quick tw17060672290205048547 for modZ by modZ_eq
name_quick tw11149792055366017275 for modZ by modZ_eq
name_quick tw16215485343379551078 for modZ by modZ_eq
name_quick tw7392675000129911145 for modZ by modZ_eq
name_quick tw15510523310717406279 for modZ by modZ_eq
name_quick tw13330571041815775595 for modZ by modZ_eq
name_quick tw12827162805601163137 for modZ by modZ_eq
name_quick tw12831826037508724142 for modZ by modZ_eq
name_quick tw341355013756781987 for modZ by modZ_eq
name_quick tw5590331283662416988 for modZ by modZ_eq
name_quick tw8991996869113129842 for modZ by modZ_eq
name_quick tw10373922715373872324 for modZ by modZ_eq
name_quick tw16306471041007574302 for modZ by modZ_eq
name_quick tw11926372440042310652 for modZ by modZ_eq
name_quick tw12937616462788262575 for modZ by modZ_eq
name_quick tw13234670642416744240 for modZ by modZ_eq
name_quick tw5078255842003111848 for modZ by modZ_eq
name_quick tw8896441059860742887 for modZ by modZ_eq
name_quick tw9990570383241052235 for modZ by modZ_eq
name_quick tw7735256639360499987 for modZ by modZ_eq
name_quick tw1011813051234549188 for modZ by modZ_eq
name_quick tw14075078734962728034 for modZ by modZ_eq
name_quick tw16765995121405149024 for modZ by modZ_eq
name_quick tw7924492857714623749 for modZ by modZ_eq
name_quick tw7634809911451497438 for modZ by modZ_eq
name_quick tw1334217777183829368 for modZ by modZ_eq
name_quick tw5904212873548673546 for modZ by modZ_eq
name_quick tw17472525076686491862 for modZ by modZ_eq
name_quick tw1379442970828501104 for modZ by modZ_eq
name_quick tw6209304756421157453 for modZ by modZ_eq
name_quick tw15523146237990927053 for modZ by modZ_eq
name_quick tw3064913486219460388 for modZ by modZ_eq
name_quick tw7378725945246809973 for modZ by modZ_eq
name_quick tw9192129274106549892 for modZ by modZ_eq
name_quick tw10168807226535633687 for modZ by modZ_eq
name_quick tw16932463246829023554 for modZ by modZ_eq
name_quick tw10910500426307860915 for modZ by modZ_eq
name_quick tw8875026325253005051 for modZ by modZ_eq
name_quick tw11733093194946056332 for modZ by modZ_eq
name_quick tw12506419547148753288 for modZ by modZ_eq
name_quick tw14947074158045370203 for modZ by modZ_eq
name_quick tw9032331655631936921 for modZ by modZ_eq
name_quick tw1953327943297149481 for modZ by modZ_eq
name_quick tw6693049654166595275 for modZ by modZ_eq
name_quick tw3759742015169945515 for modZ by modZ_eq
name_quick tw1905650484614004824 for modZ by modZ_eq
name_quick tw8258086853041164392 for modZ by modZ_eq
name_quick tw14946843254856843238 for modZ by modZ_eq
name_quick tw16027621912637790967 for modZ by modZ_eq
name_quick tw5313477931708402745 for modZ by modZ_eq
name_quick tw6740793473689141100 for modZ by modZ_eq
name_quick tw6060865445992308402 for modZ by modZ_eq
name_quick tw1712906509518652231 for modZ by modZ_eq
name_quick tw17611580265289535621 for modZ by modZ_eq
name_quick tw3371015273483187285 for modZ by modZ_eq
name_quick tw14465635322478963061 for modZ by modZ_eq
name_quick tw4512182447881637591 for modZ by modZ_eq
name_quick tw17657290904809736566 for modZ by modZ_eq
name_quick tw1472070873999846459 for modZ by modZ_eq
name_quick tw2422196984374529920 for modZ by modZ_eq
name_quick tw6432381843675601739 for modZ by modZ_eq
name_quick tw1055414751498962534 for modZ by modZ_eq
name_quick tw9641888615979959648 for modZ by modZ_eq
name_quick tw15116191471748498365 for modZ by modZ_eq
name_quick tw9260561243433242054 for modZ by modZ_eq
name_quick tw15813865446253465225 for modZ by modZ_eq
name_quick tw16485338706934834638 for modZ by modZ_eq
name_quick tw16960960787757685651 for modZ by modZ_eq
name_quick tw17925927684179528159 for modZ by modZ_eq
name_quick tw12376725489380360268 for modZ by modZ_eq
name_quick tw1699567820700022706 for modZ by modZ_eq
name_quick tw13282250499527299651 for modZ by modZ_eq
name_quick tw4344904321240971631 for modZ by modZ_eq
name_quick tw10890271006390512706 for modZ by modZ_eq
name_quick tw4246645986686433439 for modZ by modZ_eq
name_quick tw5622381594416452208 for modZ by modZ_eq
name_quick tw5240926752463659854 for modZ by modZ_eq
name_quick tw6521254483457248505 for modZ by modZ_eq
name_quick tw2060718276538723042 for modZ by modZ_eq
name_quick tw7366837841392078986 for modZ by modZ_eq
name_quick tw9985594779808154307 for modZ by modZ_eq
name_quick tw7033032041483590631 for modZ by modZ_eq
name_quick tw6786191708835867841 for modZ by modZ_eq
name_quick tw4285662221001102336 for modZ by modZ_eq
name_quick tw12725743647070066824 for modZ by modZ_eq
name_quick tw3770676926503304384 for modZ by modZ_eq
name_quick tw4970456755374001346 for modZ by modZ_eq
name_quick tw17047051902421884309 for modZ by modZ_eq
name_quick tw1047896084207349789 for modZ by modZ_eq
name_quick tw16505190136319021581 for modZ by modZ_eq
name_quick tw15679479700158342722 for modZ by modZ_eq
name_quick tw3893241901457948382 for modZ by modZ_eq
name_quick tw15055921757182560244 for modZ by modZ_eq
name_quick tw12028331055546998912 for modZ by modZ_eq
name_quick tw9311345924301374368 for modZ by modZ_eq
name_quick tw18138736597755626612 for modZ by modZ_eq
name_quick tw12358399829596313202 for modZ by modZ_eq
name_quick tw915924248770402680 for modZ by modZ_eq
name_quick tw3945107855969455279 for modZ by modZ_eq
name_quick tw9799934444094898133 for modZ by modZ_eq
name_quick tw7170126622732162138 for modZ by modZ_eq
name_quick tw10379321834373122622 for modZ by modZ_eq
name_quick tw7016090979434494262 for modZ by modZ_eq
name_quick tw7581856112329467797 for modZ by modZ_eq
name_quick tw5595643536889347889 for modZ by modZ_eq
name_quick tw1645416536445544294 for modZ by modZ_eq
name_quick tw16087226317983797697 for modZ by modZ_eq
name_quick tw3176409206053799210 for modZ by modZ_eq
name_quick tw13186785280860562682 for modZ by modZ_eq
name_quick tw4832085350873741265 for modZ by modZ_eq
name_quick tw469585187484710555 for modZ by modZ_eq
name_quick tw15590980926302052280 for modZ by modZ_eq
name_quick tw10214329872099908800 for modZ by modZ_eq
name_quick tw11976381618708754800 for modZ by modZ_eq
name_quick tw13150018187274537053 for modZ by modZ_eq
name_quick tw5966108748554493968 for modZ by modZ_eq
name_quick tw7959966791667221806 for modZ by modZ_eq
name_quick tw2731280115399257323 for modZ by modZ_eq
name_quick tw5604120370524950386 for modZ by modZ_eq
name_quick tw2904853960167340752 for modZ by modZ_eq
name_quick tw10702735242063763423 for modZ by modZ_eq
name_quick tw16737194689641378492 for modZ by modZ_eq
name_quick tw547788606857100495 for modZ by modZ_eq
name_quick tw583880939902245116 for modZ by modZ_eq
name_quick tw11731541450319422369 for modZ by modZ_eq
name_quick tw675342824727280201 for modZ by modZ_eq
name_quick tw13052918281545663883 for modZ by modZ_eq
name_quick tw1702710449493054890 for modZ by modZ_eq
name_quick tw728413237915604211 for modZ by modZ_eq
name_quick tw18057187357784191124 for modZ by modZ_eq
name_quick tw9497172805971972075 for modZ by modZ_eq
name_quick tw7680004196300180873 for modZ by modZ_eq
name_quick tw11479093097300797616 for modZ by modZ_eq
name_quick tw16876918624385220661 for modZ by modZ_eq
name_quick tw14077082416251754713 for modZ by modZ_eq
name_quick tw10322322215687326367 for modZ by modZ_eq
name_quick tw7091040555877779177 for modZ by modZ_eq
name_quick tw6803121548764134277 for modZ by modZ_eq
name_quick tw2892358471008534070 for modZ by modZ_eq
name_quick tw581153138143944489 for modZ by modZ_eq
name_quick tw7902156731285694660 for modZ by modZ_eq
name_quick tw5416640582810828296 for modZ by modZ_eq
name_quick tw15996939727017199951 for modZ by modZ_eq
name_quick tw3131065753469410105 for modZ by modZ_eq
name_quick tw4802741198589975907 for modZ by modZ_eq
name_quick tw8014202486123425687 for modZ by modZ_eq
name_quick tw17788139978844704223 for modZ by modZ_eq
name_quick tw3052561705900511214 for modZ by modZ_eq
name_quick tw9016725047688398748 for modZ by modZ_eq
name_quick tw7378005268382028993 for modZ by modZ_eq
name_quick tw1388947029201405383 for modZ by modZ_eq
name_quick tw12935243514354992831 for modZ by modZ_eq
name_quick tw10865664553164613745 for modZ by modZ_eq
name_quick tw17489208413099190493 for modZ by modZ_eq
name_quick tw8399083438078906085 for modZ by modZ_eq
name_quick tw1504076131850283271 for modZ by modZ_eq
name_quick tw461526091371636332 for modZ by modZ_eq
name_quick tw17878570914750709988 for modZ by modZ_eq
name_quick tw8831395615162036120 for modZ by modZ_eq
name_quick tw14867488617375977586 for modZ by modZ_eq
name_quick tw2896149183014146089 for modZ by modZ_eq
name_quick tw1036242029146094812 for modZ by modZ_eq
name_quick tw12882680493636598871 for modZ by modZ_eq
name_quick tw7573025161626687334 for modZ by modZ_eq
name_quick tw15574173400073042377 for modZ by modZ_eq
name_quick tw16996555217301556742 for modZ by modZ_eq
name_quick tw13966626134200079776 for modZ by modZ_eq
name_quick tw10881878694454554170 for modZ by modZ_eq
name_quick tw9807700869154731270 for modZ by modZ_eq
name_quick tw2631940367099760438 for modZ by modZ_eq
name_quick tw12765071746861856704 for modZ by modZ_eq
name_quick tw9001944216963320640 for modZ by modZ_eq
name_quick tw12592823446621948826 for modZ by modZ_eq
name_quick tw10669044577430434083 for modZ by modZ_eq
name_quick tw7218258248019603806 for modZ by modZ_eq
name_quick tw11075947581304295817 for modZ by modZ_eq
name_quick tw12460814129142229338 for modZ by modZ_eq
name_quick tw5400128589828386113 for modZ by modZ_eq
name_quick tw14870845102346498678 for modZ by modZ_eq
name_quick tw13793810664271366575 for modZ by modZ_eq
name_quick tw4069165179534995632 for modZ by modZ_eq
name_quick tw4050129160528479326 for modZ by modZ_eq
name_quick tw9575970440559212747 for modZ by modZ_eq
name_quick tw9013262890440895356 for modZ by modZ_eq
name_quick tw6833551828366149597 for modZ by modZ_eq
name_quick tw12691743769366273172 for modZ by modZ_eq
name_quick tw9992811492673617209 for modZ by modZ_eq
name_quick tw9710931755122049556 for modZ by modZ_eq
name_quick tw9354755822577384592 for modZ by modZ_eq
name_quick tw4470766044951481911 for modZ by modZ_eq
name_quick tw12555558882724205535 for modZ by modZ_eq
name_quick tw10085302354329954240 for modZ by modZ_eq
name_quick tw11014526868022818167 for modZ by modZ_eq
name_quick tw6827926592285555192 for modZ by modZ_eq
name_quick tw15823859403950219671 for modZ by modZ_eq
name_quick tw8387728079179668281 for modZ by modZ_eq
name_quick tw1797900049844379354 for modZ by modZ_eq
name_quick tw5717484600792550409 for modZ by modZ_eq
name_quick tw571088709698411271 for modZ by modZ_eq
name_quick tw353445769094690550 for modZ by modZ_eq
name_quick tw2083206547413610113 for modZ by modZ_eq
name_quick tw8432073829888324866 for modZ by modZ_eq
name_quick tw14716221699336255957 for modZ by modZ_eq
name_quick tw2510146482600152582 for modZ by modZ_eq
name_quick tw16875156059055294337 for modZ by modZ_eq
name_quick tw2059399313024778374 for modZ by modZ_eq
name_quick tw2888825844153210310 for modZ by modZ_eq
name_quick tw18234752242220123636 for modZ by modZ_eq
name_quick tw1708999759439948953 for modZ by modZ_eq
name_quick tw14727501795222242711 for modZ by modZ_eq
name_quick tw9672891051494088393 for modZ by modZ_eq
name_quick tw5824786262747568664 for modZ by modZ_eq
name_quick tw4889961068193153030 for modZ by modZ_eq
name_quick tw16530366974224423028 for modZ by modZ_eq
name_quick tw1804076265988346073 for modZ by modZ_eq
name_quick tw14534059653967398615 for modZ by modZ_eq
name_quick tw1037507182246647305 for modZ by modZ_eq
name_quick tw9729633072085245011 for modZ by modZ_eq
name_quick tw9539316537589182085 for modZ by modZ_eq
name_quick tw9210576562315259770 for modZ by modZ_eq
name_quick tw6370920990799469045 for modZ by modZ_eq
name_quick tw446011166003758796 for modZ by modZ_eq
name_quick tw11388520840152868383 for modZ by modZ_eq
name_quick tw9688476136255566447 for modZ by modZ_eq
name_quick tw6865321658147364420 for modZ by modZ_eq
name_quick tw4737063593733349225 for modZ by modZ_eq
name_quick tw1885690880105928637 for modZ by modZ_eq
name_quick tw17766334573147206048 for modZ by modZ_eq
name_quick tw5778456126692747887 for modZ by modZ_eq
name_quick tw10520644531203430932 for modZ by modZ_eq
name_quick tw1601864206739509354 for modZ by modZ_eq
name_quick tw9193465879266002670 for modZ by modZ_eq
name_quick tw4797333928608693109 for modZ by modZ_eq
name_quick tw5898962708174290618 for modZ by modZ_eq
name_quick tw8833922172399313090 for modZ by modZ_eq
name_quick tw8279696392201686521 for modZ by modZ_eq
name_quick tw2311073330603537956 for modZ by modZ_eq
name_quick tw13471340644572506072 for modZ by modZ_eq
name_quick tw2601425868281864276 for modZ by modZ_eq
name_quick tw1212422078920491816 for modZ by modZ_eq
name_quick tw12927736970277075041 for modZ by modZ_eq
name_quick tw6147086951534928438 for modZ by modZ_eq
name_quick tw16305351079721060933 for modZ by modZ_eq
name_quick tw945907798693975032 for modZ by modZ_eq
name_quick tw17211826845923583091 for modZ by modZ_eq
name_quick tw12276027683413660504 for modZ by modZ_eq
name_quick tw10876771102282269522 for modZ by modZ_eq
name_quick tw14261380312754420053 for modZ by modZ_eq
name_quick tw4891623352987019604 for modZ by modZ_eq
name_quick tw12336874929354264151 for modZ by modZ_eq
name_quick tw5847320311164933460 for modZ by modZ_eq
name_quick tw4907996153801691679 for modZ by modZ_eq
name_quick tw15216128482767782409 for modZ by modZ_eq
name_quick tw1819623039194476383 for modZ by modZ_eq
name_quick tw8378657845621399691 for modZ by modZ_eq
name_quick tw2560036215288114720 for modZ by modZ_eq
name_quick tw15749006541896564944 for modZ by modZ_eq
name_quick tw11865773551103315876 for modZ by modZ_eq
name_quick tw708887448051167278 for modZ by modZ_eq
name_quick tw7619468440578227645 for modZ by modZ_eq
name_quick tw5724714362561251793 for modZ by modZ_eq
name_quick tw2806880414218570891 for modZ by modZ_eq
name_quick tw17945443792380550922 for modZ by modZ_eq
name_quick tw16254839766496601729 for modZ by modZ_eq
name_quick tw10978947136029048236 for modZ by modZ_eq
name_quick tw17784113562922941679 for modZ by modZ_eq
name_quick tw15529297400087378022 for modZ by modZ_eq
name_quick tw14079306332125947188 for modZ by modZ_eq
name_quick tw1073703666028201163 for modZ by modZ_eq
name_quick tw8476196986230411691 for modZ by modZ_eq
name_quick tw17061270822459319302 for modZ by modZ_eq
name_quick tw3846924216168791473 for modZ by modZ_eq
name_quick tw4584326260802454253 for modZ by modZ_eq
name_quick tw1971474199496694481 for modZ by modZ_eq
name_quick tw12263506972129190414 for modZ by modZ_eq
name_quick tw7614131566001340937 for modZ by modZ_eq
name_quick tw14145084485963953139 for modZ by modZ_eq
name_quick tw99718640802393988 for modZ by modZ_eq
name_quick tw5621392139136060341 for modZ by modZ_eq
name_quick tw13399595482443060046 for modZ by modZ_eq
name_quick tw17506534167508175917 for modZ by modZ_eq
end
set_option Elab.async false
set_option tactic.hygienic false
set_option linter.unusedVariables false
set_option maxRecDepth 100000
set_option maxHeartbeats 8000000
namespace Mine
open PySem PySem.W PyProof.Rows
open_top hd11 for PySem.Challenge.rw_uf010010_11
end Mine
namespace Mine
open PySem PySem.Calls PyProof.Rows PySem.SeqAt
theorem Za:type_of% @Nat.le_trans:=@Nat.le_trans
theorem Zb:type_of% @List.getElem?_eq_some_iff:=@List.getElem?_eq_some_iff
theorem Zc:type_of% @List.length_map:=@List.length_map
theorem Zd:type_of% @List.mem_cons_of_mem:=@List.mem_cons_of_mem
theorem Ze:type_of% @List.append_assoc:=@List.append_assoc
theorem Zf:type_of% @List.length_append:=@List.length_append
theorem Zg:type_of% @List.mem_cons:=@List.mem_cons
theorem Zh:type_of% @Exists.elim:=@Exists.elim
theorem Zi:type_of% @List.getElem?_set_ne:=@List.getElem?_set_ne
theorem Zj:type_of% @List.mem_singleton:=@List.mem_singleton
theorem Zk:type_of% @Nat.lt_of_le_of_lt:=@Nat.lt_of_le_of_lt
theorem Zl:type_of% @Nat.le_refl:=@Nat.le_refl
theorem Zm:type_of% @List.mem_append:=@List.mem_append
theorem Zn:type_of% @List.mem_of_getElem?:=@List.mem_of_getElem?
theorem Zo:type_of% @Nat.not_lt:=@Nat.not_lt
theorem Zp:type_of% @List.getElem?_eq_getElem:=@List.getElem?_eq_getElem
theorem Zq:type_of% @Nat.le_of_lt:=@Nat.le_of_lt
theorem Zr:type_of% @Nat.le_of_eq:=@Nat.le_of_eq
theorem Zs:type_of% @Nat.lt_succ_self:=@Nat.lt_succ_self
theorem Zt:type_of% @List.mem_cons_self:=@List.mem_cons_self
theorem Zu:type_of% @Heap.lt_size:=@Heap.lt_size
theorem Zv:type_of% @Bool.false_ne_true:=@Bool.false_ne_true
theorem Zw:type_of% @List.getElem?_set_self:=@List.getElem?_set_self
theorem Zx:type_of% @Heap.get?_push_of_some:=@Heap.get?_push_of_some
theorem Zy:type_of% @Nat.le_add_right:=@Nat.le_add_right
theorem Zz:type_of% @Nat.lt_of_lt_of_le:=@Nat.lt_of_lt_of_le
theorem Zab:type_of% @Option.some.inj:=@Option.some.inj
theorem Zbb:type_of% @List.getElem?_append_left:=@List.getElem?_append_left
theorem Zcb:type_of% @Nat.add_le_add:=@Nat.add_le_add
theorem Zdb:type_of% @List.getElem?_map:=@List.getElem?_map
theorem Zeb:type_of% @Nat.le_succ_of_le:=@Nat.le_succ_of_le
theorem Zfb:type_of% @Int.ofNat_lt:=@Int.ofNat_lt
theorem Zgb:type_of% @of_decide_eq_true:=@of_decide_eq_true
theorem Zhb:type_of% @wpAny_bind:=@wpAny_bind
theorem Zib:type_of% @wpAny_mono:=@wpAny_mono
theorem Zjb:type_of% @wpAny_pure:=@wpAny_pure
theorem Zkb:type_of% @Nat.zero_le:=@Nat.zero_le
theorem Zmb:type_of% @decide_eq_true:=@decide_eq_true
theorem Znb:type_of% @Nat.mul_le_mul_left:=@Nat.mul_le_mul_left
theorem Zob:type_of% @Bool.and_eq_true:=@Bool.and_eq_true
theorem Zpb:type_of% @Option.map_eq_some_iff:=@Option.map_eq_some_iff
theorem Zqb:type_of% @Heap.size_push:=@Heap.size_push
theorem Zrb:type_of% @List.getElem?_eq_none:=@List.getElem?_eq_none
theorem Zsb:type_of% @List.mem_map:=@List.mem_map
theorem Ztb:type_of% @Nat.le_add_left:=@Nat.le_add_left
theorem Zub:type_of% @Nat.lt_irrefl:=@Nat.lt_irrefl
theorem Zvb:type_of% @Nat.mul_le_mul_right:=@Nat.mul_le_mul_right
theorem Zwb:type_of% @Nat.succ_le_succ:=@Nat.succ_le_succ
theorem Zxb:type_of% @List.mem_append_left:=@List.mem_append_left
theorem Zyb:type_of% @List.mem_append_right:=@List.mem_append_right
theorem Zzb:type_of% @Nat.add_le_add_left:=@Nat.add_le_add_left
theorem Zac:type_of% @Nat.add_le_add_right:=@Nat.add_le_add_right
theorem Zcc:type_of% @Nat.le_of_succ_le_succ:=@Nat.le_of_succ_le_succ
theorem Zdc:type_of% @List.not_mem_nil:=@List.not_mem_nil
theorem Zec:type_of% @List.length_reverse:=@List.length_reverse
theorem Zfc:type_of% @List.map_append:=@List.map_append
theorem Zgc:type_of% @List.take_length:=@List.take_length
theorem Zic:type_of% @List.length_take_le':=@List.length_take_le'
theorem Zjc:type_of% @Nat.le_of_lt_succ:=@Nat.le_of_lt_succ
theorem Zkc:type_of% @Nat.le_of_succ_le:=@Nat.le_of_succ_le
theorem Zlc:type_of% @List.append_nil:=@List.append_nil
theorem Zmc:type_of% @beq_eq_false_iff_ne:=@beq_eq_false_iff_ne
theorem Znc:type_of% @Nat.ne_of_lt:=@Nat.ne_of_lt
theorem Zoc:type_of% @Nat.ne_of_gt:=@Nat.ne_of_gt
theorem Zpc:type_of% @Nat.le_antisymm:=@Nat.le_antisymm
theorem Zqc:type_of% @Nat.sub_lt_sub_left:=@Nat.sub_lt_sub_left
theorem Zrc:type_of% @decide_eq_false:=@decide_eq_false
theorem Zsc:type_of% @Heap.get?_push_size:=@Heap.get?_push_size
theorem Ztc:type_of% @List.getElem?_append_right:=@List.getElem?_append_right
theorem Zvc:type_of% @Int.natCast_nonneg:=@Int.natCast_nonneg
theorem Zxc:type_of% @List.nodup_cons:=@List.nodup_cons
theorem Zzc:type_of% @Int.toNat_natCast:=@Int.toNat_natCast
set_option genSizeOf false
section
inductive V where
 | none
 | bool (b:Bool)
 | int (i:Int)
 | str (s:Str)
 | tup (vs:List V)
 | ref (l:Nat)
 | glob (x:Str)
 | mth (c x:Str)
 | type (n:String)
 | bi (id:String)
 | rng (n:Int)
 | exc (c:Str)
 | scr (xs:List Int)
 | rev (l n:Nat)
inductive Yas where
 | list (vs:List V)
 | sdict (kvs:List (Str×V))
 | tdict (kvs:List ((Str×Int)×V))
 | inst (c:Str) (fs:List (Str×V))
theorem ex2 {α:Sort _}{β:Sort _}{p:α→β→Prop}{P:Prop}(h:∃ a b,p a b) (k:∀ a b,p a b→P):P:=by
 obtain ⟨a,b,h⟩:=h
 exact k _ _ h
theorem ex3 {α:Sort _}{β:Sort _}{γ:Sort _}{p:α→β→γ→Prop}{P:Prop}(h:∃ a b c,p a b c) (k:∀ a b c,p a b c→P):P:=by
 obtain ⟨a,b,c,h⟩:=h
 exact k _ _ _ h
theorem ex4 {α:Sort _}{β:Sort _}{γ:Sort _}{δ:Sort _}{p:α→β→γ→δ→Prop}{P:Prop}(h:∃ a b c d,p a b c d) (k:∀ a b c d,p a b c d→P):P:=by
 obtain ⟨a,b,c,d,h⟩:=h
 exact k _ _ _ _ h
theorem ex7 {α:Sort _}{β:Sort _}{γ:Sort _}{δ:Sort _}{ε:Sort _}{ζ:Sort _}{η:Sort _}{p:α→β→γ→δ→ε→ζ→η→Prop}{P:Prop}(h:∃ a b c d e f g,p a b c d e f g) (k:∀ a b c d e f g,p a b c d e f g→P):P:=by
 obtain ⟨a,b,c,d,e,f,g,h⟩:=h
 exact k _ _ _ _ _ _ _ h
theorem Yh5 {a1 a2 a3 P:Prop}(h:a1∧a2∧a3) (k:a1→a2→a3→P):P:=by
 obtain ⟨h0,h1,h2⟩:=h
 exact k h0 h1 h2
theorem Yqo {a1 a2 a3 a4 P:Prop}(h:a1∧a2∧a3∧a4) (k:a1→a2→a3→a4→P):P:=by
 obtain ⟨h0,h1,h2,h3⟩:=h
 exact k h0 h1 h2 h3
theorem Yzd {a1 a2 a3 a4 a5 P:Prop}(h:a1∧a2∧a3∧a4∧a5) (k:a1→a2→a3→a4→a5→P):P:=by
 obtain ⟨h0,h1,h2,h3,h4⟩:=h
 exact k h0 h1 h2 h3 h4
theorem Yyk {a1 a2 a3 a4 a5 a6 a7 P:Prop}(h:a1∧a2∧a3∧a4∧a5∧a6∧a7) (k:a1→a2→a3→a4→a5→a6→a7→P):P:=by
 obtain ⟨h0,h1,h2,h3,h4,h5,h6⟩:=h
 exact k h0 h1 h2 h3 h4 h5 h6
theorem Yxn {a1 a2 a3 a4 a5 a6 a7 a8 a9 a10 a11 P:Prop}(h:a1∧a2∧a3∧a4∧a5∧a6∧a7∧a8∧a9∧a10∧a11) (k:a1→a2→a3→a4→a5→a6→a7→a8→a9→a10→a11→P):P:=by
 obtain ⟨h0,h1,h2,h3,h4,h5,h6,h7,h8,h9,h10⟩:=h
 exact k h0 h1 h2 h3 h4 h5 h6 h7 h8 h9 h10
inductive Yig {α β:Type}(R:α→β→Prop):List α→List β→Prop where
 | nil:Yig R [] []
 | cons {a:α}{b:β}{as:List α}{bs:List β}(h:R a b) (t:Yig R as bs):Yig R (a::as) (b::bs)
section
variable {α β:Type}{R R':α→β→Prop}{as cs:List α}{bs ds:List β}
theorem Yig.imp (k:∀ a b,R a b→R' a b) (h:Yig R as bs):Yig R' as bs:=h.rec .nil fun h zz ih=>.cons (k _ _ h) ih
theorem Yig.length (h:Yig R as bs):bs.length=as.length:=h.rec rfl fun zz zz ih=>congrArg Nat.succ ih
theorem Yig.append (h:Yig R as bs) (g:Yig R cs ds):Yig R (as++cs) (bs++ds):=h.rec g fun h zz ih=>.cons h ih
theorem Yig.get (h:Yig R as bs):∀ (i:Nat) (v:α),as[i]?=some v→∃ x,bs[i]?=some x∧R v x:=h.rec (fun zz zz e=>(by cases e)) fun h zz ih i=>i.rec (fun v e=>⟨_,rfl,Zab e▸h⟩) fun i zz=>ih i
end
theorem Yap {α:Type}{a:α}(h:(none:Option α)=some a):False:=(by cases h)
noncomputable def atL {α:Type}(f:List V→Option α):Option Yas→Option α
 | some (.list vs)=>f vs
 | z1=>none
theorem Ydl {α:Type}{f:List V→Option α}{o:Option Yas}{x:α}(h:atL f o=some x):∃ vs,o=some (.list vs)∧f vs=some x:=by
 rcases o with zz | o
 · exact (Yap h).elim
 · cases o <;> first | exact ⟨_,rfl,h⟩ | exact (Yap h).elim
theorem Yjk {α:Type}{f:List V→Option α}{o:Option Yas}{vs:List V}(h:o=some (.list vs)):atL f o=f vs:=h▸rfl
theorem Ydo {α:Type}{c:Prop}[Decidable c] {a x:α}(h:(if c then some a else none)=some x):c∧a=x:=by
 by_cases q:c
 · rw [if_pos q] at h; exact ⟨q,Zab h⟩
 · rw [if_neg q] at h; exact (Yap h).elim
theorem Yai {α:Type}{a b:α}(h:some a=some b):a=b:=Zab h
noncomputable abbrev Hp:=List Yas
noncomputable abbrev Inj:=List (Addr×Addr)
noncomputable def own (ι:Inj):List Addr:=ι.flatMap fun p=>[p.1,p.2]
theorem Ycj {ι:Inj}{a:Addr}:a∈own ι↔∃ p∈ι,a=p.1∨a=p.2:=by
 simp [own]
theorem Ygn (ι κ:Inj):own (ι++κ)=own ι++own κ:=by simp [own]
structure Tp where
 prog:Program
 w:World
 b0:Heap
 os:OsState
 K:PySem.W.Frag
 gv:Str→Option V
 hd:Bool
noncomputable def Tp.g (T:Tp) (x:Str):Option Value:=(PySem.W.nsIn T.K mainGlobals x).join
noncomputable def Yza:Option Value→Option Addr
 | some (.ref a)=>some a
 | z1=>none
theorem Yh2 {o:Option Value}{a:Addr}(h:Yza o=some a):o=some (.ref a):=by
 rcases o with zz | o
 · exact (Yap h).elim
 · cases o <;> first | exact (Yap h).elim | exact congrArg (some<|Value.ref ·) (Yai h)
noncomputable def Tp.c (T:Tp) (x:Str):Option Addr:=Yza (T.g x)
noncomputable def Tp.m (T:Tp) (c x:Str):Option Value:=(T.c c).bind fun C=>(PySem.W.findIn T.K (.ref C) x).join
noncomputable def Yax (o:Obj):Bool:=o.cls == .type "tuple" || o.cls == .type "range"
noncomputable def Yc2:List String:=["list_iterator", "tuple_iterator", "range_iterator", "longrange_iterator", "str_iterator", "str_ascii_iterator", "dict_keyiterator", "list_reverseiterator"]
noncomputable def iterish (o:Obj):Bool:=Yc2.any fun n=>o.cls == .type n
theorem Yd5 {o:Obj}(h:iterish o=true):∃ n∈Yc2,o.cls=.type n:=(List.any_eq_true.mp h).elim fun n h=>⟨n,h.1,beq_iff_eq.mp h.2⟩
theorem Ymn {o:Obj}{n:String}(h:o.cls=.type n) (m:n∈Yc2):iterish o=true:=List.any_eq_true.mpr ⟨n,m,beq_iff_eq.mpr h⟩
theorem Ycm {o:Obj}{n:String}(h:o.cls=.type n) (m:n∉Yc2):iterish o=false:=Bool.eq_false_iff.mpr fun q=>(Yd5 q).elim fun k g=>m (Value.type.inj (h.symm.trans g.2)▸g.1)
noncomputable def Yb6 (o:Obj):Bool:=match o.cls with
 | .type n=>n != "frame"
 | z1=>false
theorem Yjb {o:Obj}{C:Addr}(h:o.cls=.ref C):Yb6 o=false:=by simp [Yb6,h]
theorem Yqk {o o':Obj}(h:o'.cls=o.cls):Yb6 o'=Yb6 o:=by simp [Yb6,h]
theorem Yhm {o:Obj}(h:iterish o=true):Yb6 o=true:=(Yd5 h).elim fun n g=>by
 unfold Yb6; rw [g.2]; exact (by decide:∀ n∈Yc2,(n != "frame")=true) n g.1
noncomputable def itr (o:Obj):Bool:=o.cls.ctorIdx != Value.ctorIdx (.type "") || iterish o
theorem Ykb {o:Obj}{C:Addr}(h:o.cls=.ref C):iterish o=false:=Bool.eq_false_iff.mpr fun q=>(Yd5 q).elim fun k g=>nomatch h.symm.trans g.2
theorem Ymf {o o':Obj}(h:o'.cls=o.cls):iterish o'=iterish o:=by unfold iterish; rw [h]
theorem Yry {o o':Obj}(h:o'.cls=o.cls):itr o'=itr o:=by unfold itr; rw [Ymf h,h]
theorem Ycu {o:Obj}(h:itr o=false):iterish o=false:=(Bool.or_eq_false_iff.mp h).2
theorem Yo9 {o:Obj}{C:Addr}(h:itr o=false) (c:o.cls=.ref C):False:=by
 unfold itr at h; rw [c] at h; cases h
theorem Ynq {o:Obj}{n:String}(h:o.cls=.type n) (m:n∉Yc2):itr o=false:=by unfold itr; rw [Ycm h m,h]; rfl
mutual
noncomputable def Yar (T:Tp) (ι:Inj) (h:Heap):V→Value→Prop
 | .none,v=>v=.none
 | .bool b,v=>v=.bool b
 | .int i,v=>∃ t,v=.int i t
 | .str s,v=>∃ t,v=.str s t
 | .tup vs,v=>∃ a items n,v=.ref a∧IsT h a items n∧VRels T ι h vs items.toList
 | .ref l,v=>∃ a d,v=.ref a∧ι[l]?=some (a,d)
 | .glob x,v=>T.g x=some v
 | .mth c x,v=>T.m c x=some v
 | .type n,v=>v=.type n
 | .bi id,v=>v=.builtin id
 | .rng n,v=>∃ a t1 t2 t3,v=.ref a∧IsRange h a 0 n 1 t1 t2 t3
 | .exc c,v=>∃ a o C,v=.ref a∧h.get? a=some o∧T.c c=some C∧o.cls=.ref C
 | .scr xs,v=>∃ a o items n,v=.ref a∧T.b0.get? a=some o∧o.cls=.type "list" ∧ o.data=.seq items n∧∃ l:List (Int×Tok),items.toList=l.map (fun p=>Value.int p.1 p.2)∧l.map (·.1)=xs
 | .rev z1 z2,z3=>False
noncomputable def VRels (T:Tp) (ι:Inj) (h:Heap):List V→List Value→Prop
 | [],[]=>True
 | v::vs,x::xs=>Yar T ι h v x∧VRels T ι h vs xs
 | [],z1::z2=>False
 | z1::z2,[]=>False
end
inductive Yng {α β:Type}(R:α→β→Prop):Option α→Option β→Prop where
 | none:Yng R none none
 | some {a:α}{b:β}(h:R a b):Yng R (some a) (some b)
theorem Yng.imp {α β:Type}{R R':α→β→Prop}(k:∀ a b,R a b→R' a b) {x:Option α}{y:Option β}(h:Yng R x y):Yng R' x y:=h.rec .none fun h=>.some (k _ _ h)
theorem Yng.isSome {α β:Type}{R:α→β→Prop}{x:Option α}{y:Option β}(h:Yng R x y):y.isSome=x.isSome:=h.rec rfl fun zz=>rfl
noncomputable abbrev Ycz (T:Tp) (ι:Inj) (h:Heap):Option V→Option Value→Prop:=Yng (Yar T ι h)
inductive Ye1 {α β γ:Type}(R:β→γ→Prop):List (α×β)→List (α×γ)→Prop where
 | nil:Ye1 R [] []
 | cons {k:α}{v:β}{x:γ}{r:List (α×β)}{q:List (α×γ)}(h:R v x) (t:Ye1 R r q):Ye1 R ((k,v)::r) ((k,x)::q)
section
variable {α β γ:Type}{R R':β→γ→Prop}{a:List (α×β)}{b:List (α×γ)}
theorem Ye1.imp (k:∀ a b,R a b→R' a b) (h:Ye1 R a b):Ye1 R' a b:=h.rec .nil fun h zz ih=>.cons (k _ _ h) ih
theorem Ye1.length (h:Ye1 R a b):b.length=a.length:=h.rec rfl fun zz zz ih=>congrArg Nat.succ ih
theorem Ye1.keys (h:Ye1 R a b):b.map (·.1)=a.map (·.1):=h.rec rfl fun zz zz ih=>congrArg (List.cons _) ih
theorem Ye1.push {k:α}{v:β}{x:γ}(h:Ye1 R a b) (r:R v x):Ye1 R (a++[(k,v)]) (b++[(k,x)]):=h.rec (.cons r .nil) fun h zz ih=>.cons h ih
variable [DecidableEq α] {k:α}
theorem Ye1.find (h:Ye1 R a b):Yng R ((a.find? fun kv=>decide (kv.1=k)).map (·.2)) ((b.find? fun kv=>decide (kv.1=k)).map (·.2)):=by
 induction h with
 | nil=>exact .none
 | @cons k' z1 z2 z3 z4 h z5 ih =>
   by_cases e:k'=k
   · rw [List.find?_cons,List.find?_cons,Zmb e]; exact .some h
   · rw [List.find?_cons,List.find?_cons,Zrc e]; exact ih
theorem Ye1.any (h:Ye1 R a b):(b.any fun kv=>decide (kv.1=k))=a.any fun kv=>decide (kv.1=k):=h.rec rfl fun zz zz ih=>congrArg (_ || ·) ih
theorem Ye1.put {v:β}{x:γ}{f:α×γ→α×γ}(hf:∀ p,f p=if p.1=k then (p.1,x) else p) (h:Ye1 R a b) (r:R v x):Ye1 R (a.map fun kv=>if kv.1=k then (kv.1,v) else kv) (b.map f):=by
 induction h with
 | nil=>exact .nil
 | @cons k' z1 z2 z3 z4 h z5 ih =>
   rw [List.map_cons,List.map_cons,hf]
   by_cases e:k'=k
   · rw [if_pos e,if_pos e]; exact .cons r ih
   · rw [if_neg e,if_neg e]; exact .cons h ih
end
theorem Yje {α β:Type}[DecidableEq α] {a:List (α×β)}{k:α}:((a.find? fun kv=>decide (kv.1=k)).map (·.2)).isSome=a.any fun kv=>decide (kv.1=k):=by
 rw [Option.isSome_map,Bool.eq_iff_iff,List.find?_isSome,List.any_eq_true]
structure Yd7 (ι:Inj) (h:Heap) (ι':Inj) (h':Heap):Prop where
 pre:∃ κ,ι'=ι++κ
 cls:∀ a o,h.get? a=some o→Yb6 o=false→∃ o',h'.get? a=some o'∧o'.cls=o.cls
 frz:∀ a o,h.get? a=some o→Yax o=true→h'.get? a=some o
theorem Yd7.get {ι ι':Inj}{h h':Heap}(x:Yd7 ι h ι' h') {l:Nat}{p:Addr×Addr}(e:ι[l]?=some p):ι'[l]?=some p:=by
 obtain ⟨κ,rfl⟩:=x.pre
 rw [Zbb]
 · exact e
 · exact (Zb.mp e).1
theorem VRels.all {T:Tp}{ι:Inj}{h:Heap}{vs:List V}:∀ {xs:List Value},VRels T ι h vs xs→Yig (Yar T ι h) vs xs:=by
 induction vs with
 | nil=>intro xs e; cases xs; exact .nil; exact (show False from e).elim
 | cons v vs ih=>intro xs e; cases xs; exact (show False from e).elim; exact .cons e.1 (ih e.2)
theorem Yig.vrels {T:Tp}{ι:Inj}{h:Heap}{vs:List V}{xs:List Value}(e:Yig (Yar T ι h) vs xs):VRels T ι h vs xs:=e.rec trivial fun h zz ih=>⟨h,ih⟩
theorem Yar.mono {T:Tp}{ι ι':Inj}{h h':Heap}(m:Yd7 ι h ι' h') {v:V}:∀ {x:Value},Yar T ι h v x→Yar T ι' h' v x :=
 V.rec (motive_1:=fun v=>∀ {x},Yar T ι h v x→Yar T ι' h' v x) (motive_2:=fun vs=>∀ {xs},VRels T ι h vs xs→VRels T ι' h' vs xs)
   (fun e=>e) (fun zz {_} e=>e) (fun zz {_} e=>e) (fun zz {_} e=>e) (fun zz ih {_} e=>ex3 e fun a items n e=>⟨a,items,n,e.1,m.frz a _ e.2.1 (by simp [Yax]),ih e.2.2⟩) (fun zz {_} e=>ex2 e fun a d e=>⟨a,d,e.1,m.get e.2⟩) (fun zz {_} e=>e) (fun zz zz {_} e=>e) (fun zz {_} e=>e) (fun zz {_} e=>e)
   (fun zz {_} e=>ex4 e fun a t1 t2 t3 e=>⟨a,t1,t2,t3,e.1,m.frz a _ e.2 (by simp [Yax])⟩) (fun zz {_} e=>ex3 e fun a o C e=>(m.cls a o e.2.1 (Yjb e.2.2.2)).elim fun o' q=>⟨a,o',C,e.1,q.1,e.2.2.1,q.2.trans e.2.2.2⟩) (fun zz {_} e=>e) (fun zz zz {_} e=>e)
   (fun {xs} e=>by cases xs; exact e; exact (show False from e).elim) (fun v vs i1 i2 {xs} e=>by cases xs; exact (show False from e).elim; exact ⟨i1 e.1,i2 e.2⟩) v
theorem VRels.mono {T:Tp}{ι ι':Inj}{h h':Heap}(m:Yd7 ι h ι' h') {vs:List V}{xs:List Value}(e:VRels T ι h vs xs):VRels T ι' h' vs xs:=(e.all.imp fun zz zz r=>r.mono m).vrels
theorem Ycz.mono {T:Tp}{ι ι':Inj}{h h':Heap}(m:Yd7 ι h ι' h') {v:Option V}{x:Option Value}(r:Ycz T ι h v x):Ycz T ι' h' v x:=r.imp fun zz zz r=>r.mono m
theorem VRels.length {T:Tp}{ι:Inj}{h:Heap}{vs:List V}{xs:List Value}(e:VRels T ι h vs xs):xs.length=vs.length:=e.all.length
theorem VRels.nil_iff {T:Tp}{ι:Inj}{h:Heap}{xs:List Value}:VRels T ι h [] xs↔xs=[]:=by
 cases xs
 · exact ⟨fun zz=>rfl,fun zz=>trivial⟩
 · exact ⟨fun h=>(show False from h).elim,fun h=>(by cases h)⟩
theorem VRels.cons_iff {T:Tp}{ι:Inj}{h:Heap}{v:V}{vs:List V}{xs:List Value}:VRels T ι h (v::vs) xs↔∃ x r,xs=x::r∧Yar T ι h v x∧VRels T ι h vs r:=by
 cases xs with
 | nil=>exact ⟨fun h=>(show False from h).elim,fun h=>ex2 h fun zz zz h=>(by cases h.1)⟩
 | cons x r=>exact ⟨fun h=>⟨x,r,rfl,h.1,h.2⟩,fun h=>ex2 h fun x' r' h=>⟨(List.cons.inj h.1).1▸h.2.1,(List.cons.inj h.1).2▸h.2.2⟩⟩
theorem VRels.append {T:Tp}{ι:Inj}{h:Heap}{vs us:List V}{xs ys:List Value}(d:VRels T ι h vs xs) (e:VRels T ι h us ys):VRels T ι h (vs++us) (xs++ys):=(d.all.append e.all).vrels
theorem VRels.get {T:Tp}{ι:Inj}{h:Heap}{vs:List V}{xs:List Value}{i:Nat}{v:V}(d:VRels T ι h vs xs) (e:vs[i]?=some v):∃ x,xs[i]?=some x∧Yar T ι h v x:=d.all.get i v e
structure Ext (T:Tp) (F:List Addr) (ι:Inj) (h:Heap) (ι':Inj) (h':Heap):Prop where
 pre:∃ κ,ι'=ι++κ∧∀ p∈κ,h.objs.size≤p.1∧h.objs.size≤p.2
 size:h.objs.size≤h'.objs.size
 cls:∀ a o,h.get? a=some o→Yb6 o=false→∃ o',h'.get? a=some o'∧o'.cls=o.cls
 frz:∀ a o,h.get? a=some o→Yax o=true→h'.get? a=some o
 keep:∀ a o,h.get? a=some o→a∉own ι→a∉F→o.cls≠.type "frame" → h'.get? a=some o
 frm:∀ a o,h.get? a=some o→a∉own ι→a∉F→∃ sl,h'.get? a=some { o with slots:=sl }
theorem Ext.refl (T:Tp) (F:List Addr) (ι:Inj) (h:Heap):Ext T F ι h ι h :=
 ⟨⟨[],by simp,by simp⟩,Zl _,fun zz o e zz=>⟨o,e,rfl⟩,fun zz zz e zz=>e,fun zz zz e zz zz zz=>e,fun zz o e zz zz=>⟨o.slots,e⟩⟩
theorem Ext.mono {T:Tp}{F:List Addr}{ι ι':Inj}{h h':Heap}(x:Ext T F ι h ι' h'):Yd7 ι h ι' h' :=
 ⟨(by obtain ⟨κ,e,_⟩:=x.pre; exact ⟨κ,e⟩),x.cls,x.frz⟩
theorem Ext.not_own {T:Tp}{F:List Addr}{ι ι':Inj}{h h':Heap}(x:Ext T F ι h ι' h') {a:Addr}(hn:a∉own ι) (hl:a < h.objs.size):a∉own ι':=by
 obtain ⟨κ,rfl,hk⟩:=x.pre
 rw [Ygn,Zm,not_or]
 refine ⟨hn,fun hm=>?_⟩
 obtain ⟨p,hp,e⟩:=Ycj.mp hm
 have:=hk p hp
 rcases e with rfl | rfl
 · exact absurd this.1 (Nat.not_le.mpr hl)
 · exact absurd this.2 (Nat.not_le.mpr hl)
theorem Ext.trans {T:Tp}{F:List Addr}{ι ι₁ ι₂:Inj}{h h₁ h₂:Heap}(x:Ext T F ι h ι₁ h₁) (y:Ext T F ι₁ h₁ ι₂ h₂):Ext T F ι h ι₂ h₂:=by
 refine ⟨?_,Za x.size y.size,fun a o e i=>?_,fun a o e f=>y.frz a o (x.frz a o e f) f,fun a o e n f c=>?_,fun a o e n f=>?_⟩
 · obtain ⟨κ,rfl,hk⟩:=x.pre
   obtain ⟨κ',rfl,hk'⟩:=y.pre
   refine ⟨κ++κ',by simp,fun p hp=>?_⟩
   rcases Zm.mp hp with hp | hp
   · exact hk p hp
   · exact ⟨Za x.size (hk' p hp).1,Za x.size (hk' p hp).2⟩
 · obtain ⟨o₁,e₁,c₁⟩:=x.cls a o e i
   obtain ⟨o₂,e₂,c₂⟩:=y.cls a o₁ e₁ ((Yqk c₁).trans i)
   exact ⟨o₂,e₂,c₂.trans c₁⟩
 · exact y.keep a o (x.keep a o e n f c) (x.not_own n (Zu e)) f c
 · obtain ⟨sl,e₁⟩:=x.frm a o e n f
   obtain ⟨sl',e₂⟩:=y.frm a _ e₁ (x.not_own n (Zu e)) f
   exact ⟨sl',e₂⟩
theorem Ext.weaken {T:Tp}{F G:List Addr}{ι ι':Inj}{h h':Heap}(x:Ext T F ι h ι' h') (hFG:∀ a∈F,a < h.objs.size→a∈G):Ext T G ι h ι' h' :=
 ⟨x.pre,x.size,x.cls,x.frz,fun a o e n f c=>x.keep a o e n (fun q=>f (hFG a q (Zu e))) c,fun a o e n f=>x.frm a o e n (fun q=>f (hFG a q (Zu e)))⟩
theorem Ext.push (T:Tp) (F:List Addr) (ι:Inj) (h:Heap) (o:Obj):Ext T F ι h ι (h.push o) :=
 ⟨⟨[],by simp,by simp⟩,by rw [Zqb]; exact Zq (Zs h.objs.size),fun zz o e zz=>⟨o,Zx _ e,rfl⟩,fun zz zz e zz=>Zx _ e,fun zz zz e zz zz zz=>Zx _ e,
   fun zz o e zz zz=>⟨o.slots,Zx _ e⟩⟩
theorem Ext.of_keeps {T:Tp}{F:List Addr}{ι:Inj}{h h':Heap}(hs:h.objs.size≤h'.objs.size) (k:∀ b o,h.get? b=some o→h'.get? b=some o):Ext T F ι h ι h' :=
 ⟨⟨[],by simp,by simp⟩,hs,fun zz o e zz=>⟨o,k _ _ e,rfl⟩,fun zz zz e zz=>k _ _ e,fun zz zz e zz zz zz=>k _ _ e,fun zz o e zz zz=>⟨o.slots,k _ _ e⟩⟩
theorem Ext.of_sameBut {T:Tp}{F:List Addr}{ι:Inj}{h h':Heap}{a:Addr}{o o':Obj}(hs:Heap.SameBut a h h') (ho:h.get? a=some o) (ho':h'.get? a=some o') (hc:o'.cls=o.cls)
   (hf:Yax o=false) (hin:a∈own ι∨a∈F):Ext T F ι h ι h':=by
 refine ⟨⟨[],by simp,by simp⟩,Zr hs.1.symm,fun b x e zz=>?_,fun b x e f=>?_,fun b x e n f zz=>?_,fun b x e n f=>⟨x.slots,?_⟩⟩
 · by_cases q:b=a
   · subst q; rw [ho] at e; cases e; exact ⟨o',ho',hc⟩
   · exact ⟨x,(hs.2 b q).trans e,rfl⟩
 · by_cases q:b=a
   · subst q; rw [ho] at e; cases e; rw [hf] at f; cases f
   · exact (hs.2 b q).trans e
 · by_cases q:b=a
   · subst q; rcases hin with q | q
     · exact absurd q n
     · exact absurd q f
   · exact (hs.2 b q).trans e
 · by_cases q:b=a
   · subst q; rcases hin with q | q
     · exact absurd q n
     · exact absurd q f
   · exact (hs.2 b q).trans e
end
section
section
variable {prog:Program}{w:World}{A:Around}{E:Value→Shared→Prop}{s:Shared}
noncomputable def Ya9 (h:Heap) (k:Str×Int) (a:Addr):Prop:=∃ o t u n,h.get? a=some o∧(o.cls=.type "tuple" ∧ o.dict=none∧o.slots = #[])∧o.data=.seq #[.str k.1 t,.int k.2 u] n
theorem Ya9.typeIs {k:Str×Int}{a:Addr}(x:Ya9 s.heap k a):s.TypeIs (.ref a) "tuple":=(by obtain ⟨o,_,_,_,ho,hc,_⟩:=x; exact ⟨o,ho,hc.1⟩)
theorem Ya9.inj {h:Heap}{a:Addr}{x y:Str×Int}(hx:Ya9 h x a) (hy:Ya9 h y a):x=y:=by
 obtain ⟨o,t,u,n,ho,zz,hd⟩:=hx
 obtain ⟨o',t',u',n',ho',zz,hd'⟩:=hy
 obtain rfl:o=o':=Zab (ho.symm.trans ho')
 rw [hd] at hd'
 injection hd' with h1 _
 simp only [Array.mk.injEq,List.cons.injEq,Value.str.injEq,Value.int.injEq] at h1
 exact Prod.ext h1.1.1 h1.2.1.1
theorem Ya9.keeps {h h':Heap}{k:Str×Int}{a d:Addr}{o:Obj}{es ep}(x:Ya9 h k a) (ho:h.get? d=some o) (hd:o.data=.dict es ep) (hs:Heap.SameBut d h h'):Ya9 h' k a:=by
 obtain ⟨o',t,u,n,ho',hc,hd'⟩:=x
 have hne:a≠d:=by
   rintro rfl
   obtain rfl:o'=o:=Zab (ho'.symm.trans ho)
   rw [hd] at hd'; exact (by cases hd')
 exact ⟨o',t,u,n,(hs.2 a hne).trans ho',hc,hd'⟩
noncomputable def Yu3 {β:Type}(Y D:β→Shared→Prop) (r:ForInStep β) (s:Shared):Prop:=match r with
 | .done b=>D b s
 | .yield b=>Y b s
theorem Yjm {M:Model}{α β:Type}{x y:α}{b:β}{f:α→β→Sem (ForInStep β)}{Q:β→Shared→Prop}(h:wpAny M A (f x b) (Yu3 (fun b s=>wpAny M A (f y b) (Yu3 Q Q) E s) Q) E s):wpAny M A (forIn [x,y] b f) Q E s:=by
 rw [List.forIn_cons]
 refine Zhb (Zib h (fun r s₁ p=>?_) fun zz zz p=>p)
 cases r
 · exact Zjb p
 · show wpAny M A (forIn [y] _ f) Q E s₁
   rw [List.forIn_cons]
   refine Zhb (Zib p (fun r s₂ p=>?_) fun zz zz p=>p)
   cases r
   · exact Zjb p
   · show wpAny M A (forIn [] _ f) Q E s₂
     rw [List.forIn_nil]; exact Zjb p
noncomputable def Yhx (w:World) (k:Str×Int):Int:=reduceHash (Builtin.Tuple.tupleHashOf [hashStr w k.1,hashInt k.2])
theorem Ya9.pyHash {k:Str×Int}{a:Addr}{Q:Int→Shared→Prop}(hu:A.units < cLine) (hk:Ya9 s.heap k a) (h:Q (Yhx w k) { s with toks:=s.toks+3 }):wpAny (model prog w) A (PySem.pyHash (.ref a)) Q E s:=by
 have hT:=hk.typeIs
 obtain ⟨o,t,u,n,ho,zz,hd⟩:=hk
 unfold PySem.pyHash
 first | unfold pyHashByItsType | skip
 first | refine Zhb (wpAny_cRoomFor_or (.inr hu) ?_) | skip
 refine Zhb (wpAny_specialOf hT F.slot_tuple_hash.lookup ?_)
 show wpAny _ _ (if (some (Value.builtin "tuple.__hash__") == some Value.none)=true then _ else _) Q E s
 rw [if_neg (by rw [beq_builtin_none]; exact Zv)]
 refine Zhb (wpAny_specialOf hT F.slot_tuple_hash.lookup ?_)
 show wpAny _ _ (callSpecialIfBoundUnlessNone? (.ref a) "__hash__" _ >>= _) Q E s
 refine Zhb (wpAny_callSpecialIfBoundUnlessNone?_slot hT F.slot_tuple_hash (wpAny_call_entry F.slot_tuple_hash hT F.entry_tuple_hash ?_ (F.args_tuple_hash_1 _)))
 show wpAny _ _ (Builtin.Tuple.tupleItemsOf (.ref a) >>= _) _ _ s
 refine Zhb (wpAny_tupleItemsOf ho hd ?_)
 refine Zhb ?_
 rw [← Array.forIn_toList]
 refine Yjm (Zhb (wpAny_pyHash_str (Zjb ?_)))
 refine Zhb (wpAny_pyHash_int (Zjb ?_))
 · show wpAny _ _ (retInt (Builtin.Tuple.tupleHashOf [hashStr w k.1,hashInt k.2])) _ _ _
   refine wpAny_ret_mkInt ?_
   show wpAny _ _ (if (decide (-(2:Int) ^ 63≤Builtin.Tuple.tupleHashOf [hashStr w k.1,hashInt k.2]) && decide (Builtin.Tuple.tupleHashOf [hashStr w k.1,hashInt k.2] < 2 ^ 63))=true then _ else _) Q E _
   unfold Yhx reduceHash at h
   by_cases hr:(decide (-(2:Int) ^ 63≤Builtin.Tuple.tupleHashOf [hashStr w k.1,hashInt k.2]) && decide (Builtin.Tuple.tupleHashOf [hashStr w k.1,hashInt k.2] < 2 ^ 63))=true
   · rw [if_pos hr]
     rw [if_pos hr] at h
     exact Zjb h
   · rw [if_neg hr]
     rw [if_neg hr] at h
     exact Zhb (wpAny_rule (Zjb h))
theorem Ya9.quiet {k:Str×Int}{a:Addr}{Q:Bool→Shared→Prop}(hk:Ya9 s.heap k a) (h:Q true s):wpAny (model prog w) A (eqIsQuiet 8 (.ref a)) Q E s:=by
 have hT:=hk.typeIs
 obtain ⟨o,t,u,n,ho,zz,hd⟩:=hk
 unfold eqIsQuiet
 refine Zhb (wpAny_specialOf hT F.slot_tuple_eq.lookup ?_)
 show wpAny _ _ (isInstance (.ref a) (.type "tuple") >>= _) _ _ s
 refine Zhb (wpAny_isInstance hT isSubtype_tuple_tuple ?_)
 simp only [Bool.not_true,Bool.false_eq_true,if_false]
 refine Zhb (wpAny_seqItems ho hd ?_)
 refine Zhb ?_
 show wpAny _ _ (forIn _ _ _) _ _ s
 rw [← Array.forIn_toList]
 refine wpAny_forIn_list _ (fun rest r s'=>r.1=none∧s'=s∧∀ v∈rest,carriedByValue v=true) _ ?_ ?_ _ _ ⟨rfl,rfl,by simp [carriedByValue]⟩
 · rintro v rest r s' ⟨hr,rfl,hall⟩
   rw [eqIsQuiet_byValue _ (hall v Zt)]
   refine Zhb (Zjb ?_)
   simp only [Bool.not_true,Bool.false_eq_true,if_false]
   exact Zjb ⟨rfl,rfl,fun u hu'=>hall u (Zd _ hu')⟩
 · rintro ⟨r1,r2⟩ s' ⟨hr,rfl,zz⟩
   simp only at hr
   subst hr
   exact Zjb h
theorem Ya9.eqTree {x y:Str×Int}{a b:Addr}{P:Fin→Shared→Prop}(hx:Ya9 s.heap x a) (hy:Ya9 s.heap y b) (h:P (.done (.ret (.bool (decide (x=y))))) s) :
   wpAny (model prog w) A (Builtin.«tuple.__eq__» ⟨[.ref a,.ref b],[]⟩) P E s:=by
 have hTb:=hy.typeIs
 obtain ⟨oa,t,u,na,hoa,zz,hda⟩:=hx
 obtain ⟨ob,t',u',nb,hob,zz,hdb⟩:=hy
 show wpAny _ _ (isInstance (.ref b) (.type "tuple") >>= _) _ _ s
 refine Zhb (wpAny_isInstance hTb isSubtype_tuple_tuple ?_)
 simp only [Bool.not_true,Bool.false_eq_true,if_false]
 refine Zhb (wpAny_tupleItemsOf hoa hda ?_)
 refine Zhb (wpAny_tupleItemsOf hob hdb ?_)
 refine Zhb ?_
 refine Yjm (Zhb (wpAny_eqBool_str ?_))
 by_cases h1:x.1=y.1
 · rw [Zmb h1]
   refine Zjb (Zhb (wpAny_eqBool_int ?_))
   by_cases h2:x.2=y.2
   · rw [beq_iff_eq.mpr h2]
     rw [Zmb (Prod.ext h1 h2)] at h
     exact Zjb (Zjb h)
   · rw [Zmc.mpr h2]
     rw [Zrc fun e=>h2 (congrArg (·.2) e)] at h
     exact Zhb (Zjb (Zjb (Zjb h)))
 · rw [Zrc h1]
   rw [Zrc fun e=>h1 (congrArg (·.1) e)] at h
   exact Zhb (Zjb (Zjb (Zjb h)))
theorem Ya9.eqBool {x y:Str×Int}{a b:Addr}{Q:Bool→Shared→Prop}(hu:A.units < cLine) (hx:Ya9 s.heap x a) (hy:Ya9 s.heap y b) (h:Q (decide (x=y)) s) :
   wpAny (model prog w) A (PySem.eqBool (.ref a) (.ref b)) Q E s:=by
 unfold PySem.eqBool
 try with_reducible refine wpAny_holding ?_
 show wpAny _ _ (if (Value.ref a == Value.ref b)=true then _ else _) Q E s
 by_cases hab:(Value.ref a == Value.ref b)=true
 · rw [if_pos hab]
   have e:a=b:=by have:=eq_of_beq hab; injection this
   subst e
   obtain rfl:=hx.inj hy
   exact Zhb (wpAny_rule (Zjb (by simpa using h)))
 · rw [if_neg hab]
   exact Zhb (wpAny_richCompare_same_room (op:=.Eq) hx.typeIs hy.typeIs F.slot_tuple_eq
     (wpAny_call_entry F.slot_tuple_eq hx.typeIs F.entry_tuple_eq (hx.eqTree hy ⟨_,rfl,(fun e=>(by cases e)),wpAny_truthy_bool h⟩) (F.args_tuple_eq_2 _ _)) hu)
end
noncomputable def Ydr (prog:Program) (w:World):HeapKind prog w (Str×Int) where
 is:=Ya9
 hash:=Yhx w
 draws:=fun zz=>3
 room:=fun A=>A.units < cLine
 inj:=fun hx hy=>hx.inj hy
 keeps:=fun x ho hd hs=>x.keeps ho hd hs
 pyHash:=fun hu hk h=>hk.pyHash hu h
 eqBool:=fun hu hx hy h=>hx.eqBool hu hy h
 quiet:=fun hk h=>hk.quiet h
end
section
inductive NsC (h:Heap) (a:Addr) (c:String) (m:Str→Option Value):Prop where
 | mk (o:Obj) (es:Array DictEntry) (ep:Nat) (h1:h.get? a=some o) (h2:o.cls=.type c) (h3:o.dict=none) (h4:o.data=.dict es ep) (h5:StrKeys es) (h6:UniqKeys es) (h7:∀ name,nsFind es name=m name):NsC h a c m
theorem NsC.ns {h:Heap}{a:Addr}{c:String}{m}(x:NsC h a c m):h.Ns a m:=x.rec fun o es ep h1 zz zz h4 h5 zz h7=>⟨o,es,ep,h1,h4,h5,h7⟩
theorem NsC.of_slots {h h':Heap}{a:Addr}{c:String}{m}(x:NsC h a c m) (k:∀ o,h.get? a=some o→∃ sl,h'.get? a=some { o with slots:=sl }):NsC h' a c m :=
 x.rec fun o es ep h1 h2 h3 h4 h5 h6 h7=>Zh (k o h1) fun zz e=>⟨_,es,ep,e,h2,h3,h4,h5,h6,h7⟩
theorem NsC.sameBut {h h':Heap}{a b:Addr}{c:String}{m}(x:NsC h a c m) (hs:Heap.SameBut b h h') (hab:a≠b):NsC h' a c m :=
 x.rec fun o es ep h1 h2 h3 h4 h5 h6 h7=>⟨o,es,ep,(hs.2 a hab).trans h1,h2,h3,h4,h5,h6,h7⟩
theorem NsC.ns1 {h:Heap}{a:Addr}{c:String}{m}(x:NsC h a c m):h.Ns1 a m:=x.rec fun o es ep h1 zz zz h4 h5 h6 h7=>⟨o,es,ep,h1,h4,h5,h6,h7⟩
theorem NsC.of1 {h h':Heap}{a:Addr}{c:String}{m m'}(x:NsC h a c m) (y:h'.Ns1 a m') (k:∀ o,h.get? a=some o→∃ o',h'.get? a=some o'∧o'.cls=o.cls∧o'.dict=o.dict):NsC h' a c m' :=
 x.rec fun o zz zz h1 h2 h3 zz zz zz zz=>Zh (k o h1) fun o' q=>ex3 y fun o2 es ep y=>have e:o'=o2:=Yai (q.1.symm.trans y.1); ⟨o2,es,ep,y.1,(congrArg Obj.cls e).symm.trans (q.2.1.trans h2),(congrArg Obj.dict e).symm.trans (q.2.2.trans h3),y.2.1,y.2.2.1,y.2.2.2.1,y.2.2.2.2⟩
theorem Yr3 {M:Model}{A:Around}{E:Value→Shared→Prop}{s:Shared}{a:Addr}{c:String}{m}{name:Str}{v:Value}{Q:Unit→Shared→Prop}(hn:NsC s.heap a c m)
   (hQ:∀ h',NsC h' a c (fun x=>if x=name then some v else m x)→Heap.SameBut a s.heap h'→Q () { s with heap:=h',toks:=s.toks+1 }):wpAny M A (nsSet a name v) Q E s :=
 wpAny_nsSet1EFk hn.ns1 fun h' y hs k=>hQ h' (hn.of1 y k) hs
noncomputable def Yvt (h:Heap) (a:Addr) (items:List Value):Prop:=∃ n,h.get? a=some ⟨.type "list",none,.seq items.toArray n,#[]⟩
noncomputable abbrev Yhd (T:Tp) (ι:Inj) (h:Heap):List (Str×V)→List (Str×Value)→Prop:=Ye1 (Yar T ι h)
noncomputable abbrev Yis (T:Tp) (ι:Inj) (h:Heap):List ((Str×Int)×V)→List ((Str×Int)×Addr×Value)→Prop:=Ye1 fun v p=>Yar T ι h v p.2
noncomputable def Yh4 (T:Tp) (ι:Inj) (h:Heap):Yas→Addr×Addr→Prop
 | .list vs,p=>p.1=p.2∧∃ items,Yvt h p.1 items∧VRels T ι h vs items
 | .sdict kvs,p=>p.1=p.2∧∃ rvs,h.DictOf (strKind T.prog T.w) p.1 rvs∧Yhd T ι h kvs rvs
 | .tdict kvs,p=>p.1=p.2∧∃ xs,h.DictOfH (Ydr T.prog T.w) p.1 xs∧Yis T ι h kvs xs
 | .inst c fs,p=>∃ C m sl,T.c c=some C∧h.get? p.1=some ⟨.ref C,some p.2,.plain,sl⟩∧NsC h p.2 "dict" m∧(∀ x,Ycz T ι h (fs.lookup x) (m x))
structure Rep (T:Tp) (ι:Inj) (σ:Hp) (h:Heap):Prop where
 len:ι.length=σ.length
 big:10≤T.b0.objs.size
 size:T.b0.objs.size≤h.objs.size
 base:∀ a o,T.b0.get? a=some o→h.get? a=some o
 objs:∀ (l:Nat) (o:Yas) (p:Addr×Addr),σ[l]?=some o→ι[l]?=some p→Yh4 T ι h o p
 fresh:∀ p∈ι,T.b0.objs.size≤p.1∧T.b0.objs.size≤p.2
 apart:∀ (i j:Nat) (p q:Addr×Addr),ι[i]?=some p→ι[j]?=some q→i≠j→p.1≠q.1∧p.1≠q.2∧p.2≠q.1∧p.2≠q.2
theorem Ya9.mono {ι ι':Inj}{h h':Heap}{k:Str×Int}{a:Addr}(m:Yd7 ι h ι' h') (x:Ya9 h k a):Ya9 h' k a:=by
 refine ex4 x fun o t u n h9=>Yh5 h9 fun ho hc hd=>?_
 exact ⟨o,t,u,n,m.frz _ _ ho (by simp [Yax,hc]),hc,hd⟩
theorem Yh4.cls {T:Tp}{ι:Inj}{h:Heap}{o:Yas}{p:Addr×Addr}(e:Yh4 T ι h o p) {a:Addr}(ha:a=p.1∨a=p.2):∃ x,h.get? a=some x∧((∃ C,x.cls=.ref C)∨x.cls=.type "list" ∨ x.cls=.type "dict"):=by
 have one:∀ {x},p.1=p.2→h.get? p.1=some x→h.get? a=some x:=fun e g=>by rcases ha with q | q <;> rw [q] <;> first | exact g | exact e▸g
 cases o
 · obtain ⟨e,zz,⟨zz,x⟩,zz⟩:=e; exact ⟨_,one e x,.inr (.inl rfl)⟩
 · obtain ⟨e,zz,⟨zz,zz,zz,x,ex,zz⟩,zz⟩:=e; exact ⟨_,one e x,.inr (.inr ex.1)⟩
 · obtain ⟨e,zz,⟨zz,zz,zz,x,ex,zz⟩,zz⟩:=e; exact ⟨_,one e x,.inr (.inr ex.1)⟩
 · refine ex3 e fun C zz zz h9=>Yqo h9 fun zz x y zz=>?_
   rcases ha with q | q <;> rw [q]
   · exact ⟨_,x,.inl ⟨C,rfl⟩⟩
   · obtain ⟨o,zz,zz,y,yc,zz⟩:=y; exact ⟨o,y,.inr (.inr yc)⟩
theorem Yh4.lt {T:Tp}{ι:Inj}{h:Heap}{o:Yas}{p:Addr×Addr}(e:Yh4 T ι h o p):p.1 < h.objs.size∧p.2 < h.objs.size :=
 ⟨Zh (e.cls (.inl rfl)) fun zz g=>Zu g.1,Zh (e.cls (.inr rfl)) fun zz g=>Zu g.1⟩
theorem Rep.lt {T:Tp}{ι:Inj}{σ:Hp}{h:Heap}(r:Rep T ι σ h) {p:Addr×Addr}(hp:p∈ι):p.1 < h.objs.size∧p.2 < h.objs.size:=by
 obtain ⟨l,hl,rfl⟩:=List.getElem_of_mem hp
 have hl':l < σ.length:=by rw [← r.len]; exact hl
 exact (r.objs l σ[l] ι[l] (Zp hl') (Zp hl)).lt
theorem Rep.own_lt {T:Tp}{ι:Inj}{σ:Hp}{h:Heap}(r:Rep T ι σ h) {a:Addr}(ha:a∈own ι):a < h.objs.size:=by
 obtain ⟨p,hp,e⟩:=Ycj.mp ha
 rcases e with rfl | rfl
 · exact (r.lt hp).1
 · exact (r.lt hp).2
theorem Yh4.keeps {T:Tp}{ι ι':Inj}{h h':Heap}(m:Yd7 ι h ι' h') {o:Yas}{p:Addr×Addr}(k:∀ x,h.get? p.1=some x→h'.get? p.1=some x) (k':∀ x,h.get? p.2=some x→h'.get? p.2=some x) (e:Yh4 T ι h o p):Yh4 T ι' h' o p:=by
 cases o
 · obtain ⟨e,items,⟨n,x⟩,r⟩:=e; exact ⟨e,items,⟨n,k _ x⟩,r.mono m⟩
 · obtain ⟨e,rvs,⟨o,es,ep,x,r⟩,q⟩:=e; exact ⟨e,rvs,⟨o,es,ep,k _ x,r⟩,q.imp fun zz zz r=>r.mono m⟩
 · obtain ⟨e,rvs,⟨o,es,ep,x,c,dd,ee,y,r⟩,q⟩:=e; exact ⟨e,rvs,⟨o,es,ep,k _ x,c,dd,ee,fun z hz=>Ya9.mono m (y z hz),r⟩,q.imp fun zz zz r=>r.mono m⟩
 · exact ex3 e fun C mm sl e=>⟨C,mm,sl,e.1,k _ e.2.1,e.2.2.1.rec fun o' es' ep' e' z1 z2 z3 z4 z5 z6=>⟨o',es',ep',k' _ e',z1,z2,z3,z4,z5,z6⟩,fun z=>Ycz.mono m (e.2.2.2 z)⟩
theorem Rep.keeps {T:Tp}{ι:Inj}{σ:Hp}{h h':Heap}(r:Rep T ι σ h) (m:Yd7 ι h ι h') (hs:h.objs.size≤h'.objs.size) (hb:∀ a o,T.b0.get? a=some o→h'.get? a=some o) (k:∀ a∈own ι,∀ o,h.get? a=some o→h'.get? a=some o):Rep T ι σ h' where
 len:=r.len
 big:=r.big
 size:=Za r.size hs
 base:=hb
 objs:=fun l o p e q=>(r.objs l o p e q).keeps m (k _ (Ycj.mpr ⟨p,Zn q,.inl rfl⟩)) (k _ (Ycj.mpr ⟨p,Zn q,.inr rfl⟩))
 fresh:=r.fresh
 apart:=r.apart
theorem Rep.grow {T:Tp}{ι:Inj}{σ:Hp}{h h':Heap}(r:Rep T ι σ h) (hs:h.objs.size≤h'.objs.size) (k:∀ a o,h.get? a=some o→h'.get? a=some o):Rep T ι σ h' :=
 r.keeps ⟨⟨[],by simp⟩,fun zz o e zz=>⟨o,k _ _ e,rfl⟩,fun zz zz e zz=>k _ _ e⟩ hs (fun a o e=>k _ _ (r.base a o e)) fun a zz o e=>k a o e
theorem Rep.push {T:Tp}{ι:Inj}{σ:Hp}{h:Heap}(r:Rep T ι σ h) (o:Obj):Rep T ι σ (h.push o) :=
 r.grow (by rw [Zqb]; exact Zq (Zs h.objs.size)) fun zz zz e=>Zx _ e
theorem Rep.more {T:Tp}{ι:Inj}{σ:Hp}{h:Heap}(r:Rep T ι σ h) {o:Yas}{p:Addr×Addr}(ho:Yh4 T (ι++[p]) h o p) (h1:T.b0.objs.size≤p.1) (h2:T.b0.objs.size≤p.2) (n1:p.1∉own ι) (n2:p.2∉own ι) :
   Rep T (ι++[p]) (σ++[o]) h where
 len:=by simp [r.len]
 big:=r.big
 size:=r.size
 base:=r.base
 objs:=fun l x q e e'=>by
   have m:Yd7 ι h (ι++[p]) h:=⟨⟨[p],rfl⟩,fun zz o e zz=>⟨o,e,rfl⟩,fun zz zz e zz=>e⟩
   rcases Nat.lt_or_ge l σ.length with hl | hl
   · rw [Zbb hl] at e
     rw [Zbb (by rw [r.len]; exact hl)] at e'
     exact (r.objs l x q e e').keeps m (fun zz z=>z) fun zz z=>z
   · rw [Ztc hl] at e
     rw [Ztc (by rw [r.len]; exact hl),r.len] at e'
     rcases Nat.eq_zero_or_pos (l - σ.length) with z | z
     · rw [z] at e e'
       simp only [List.getElem?_cons_zero,Option.some.injEq] at e e'
       subst e e'; exact ho
     · rw [Zrb (by simp; (clear hl e' h1 h2 e; exact z))] at e; cases e
 fresh:=fun q hq=>by
   rcases Zm.mp hq with hq | hq
   · exact r.fresh q hq
   · cases Zj.mp hq; exact ⟨h1,h2⟩
 apart:=fun i j q q' e e' hij=>by
   have key:∀ (k:Nat) (x:Addr×Addr),(ι++[p])[k]?=some x→(k < ι.length∧ι[k]?=some x)∨(k=ι.length∧x=p):=fun k x e=>by
     rcases Nat.lt_or_ge k ι.length with hl | hl
     · rw [Zbb hl] at e; exact .inl ⟨hl,e⟩
     · rw [Ztc hl] at e
       rcases Nat.eq_zero_or_pos (k - ι.length) with z | z
       · rw [z] at e; simp only [List.getElem?_cons_zero,Option.some.injEq] at e; exact .inr ⟨by (clear hij h1 h2 e'; lia),e.symm⟩
       · rw [Zrb (by simp; (clear hl hij e h1 h2 e'; exact z))] at e; cases e
   have no:∀ x:Addr×Addr,x∈ι→p.1≠x.1∧p.1≠x.2∧p.2≠x.1∧p.2≠x.2:=fun x hx =>
     ⟨fun z=>n1 (Ycj.mpr ⟨x,hx,.inl z⟩),fun z=>n1 (Ycj.mpr ⟨x,hx,.inr z⟩),fun z=>n2 (Ycj.mpr ⟨x,hx,.inl z⟩),fun z=>n2 (Ycj.mpr ⟨x,hx,.inr z⟩)⟩
   rcases key i q e with ⟨hi,ei⟩ | ⟨hi,rfl⟩ <;> rcases key j q' e' with ⟨hj,ej⟩ | ⟨hj,rfl⟩
   · exact r.apart i j q q' ei ej hij
   · refine (no q (Zn ei)).elim fun a h9=>Yh5 h9 fun b c d=>?_
     exact ⟨a.symm,c.symm,b.symm,d.symm⟩
   · exact no q' (Zn ej)
   · (clear h2 e e' key h1; lia)
theorem Rep.turn {T:Tp}{ι:Inj}{σ:Hp}{h h':Heap}(r:Rep T ι σ h) {l:Nat}{p:Addr×Addr}{o:Yas}{a:Addr}(hp:ι[l]?=some p) (m:Yd7 ι h ι h') (hs:Heap.SameBut a h h') (ha:a=p.1∨a=p.2)
   (ho:Yh4 T ι h' o p):Rep T ι (σ.set l o) h' where
 len:=by simp [r.len]
 big:=r.big
 size:=Za r.size (Zr hs.1.symm)
 base:=fun b x e=>by
   have hne:b≠a:=fun q=>by
     have h1:=Zu e
     have h2:=r.fresh p (Zn hp)
     rw [q] at h1
     rcases ha with ha | ha <;> rw [ha] at h1
     · exact absurd h2.1 (Nat.not_le.mpr h1)
     · exact absurd h2.2 (Nat.not_le.mpr h1)
   exact (hs.2 b hne).trans (r.base b x e)
 objs:=fun k x q e e'=>by
   by_cases hk:k=l
   · subst hk
     rw [hp] at e'; cases e'
     rw [Zw (by rw [← r.len]; exact (Zb.mp hp).1)] at e
     cases e; exact ho
   · rw [Zi (fun z=>hk z.symm)] at e
     have:=r.apart k l q p e' hp hk
     have keep:∀ b,b=q.1∨b=q.2→∀ z,h.get? b=some z→h'.get? b=some z:=fun b hb z hz=>(hs.2 b (fun y=>by
       rcases ha with rfl | rfl <;> rcases hb with rfl | rfl <;> simp_all)).trans hz
     exact (r.objs k x q e e').keeps m (keep _ (.inl rfl)) (keep _ (.inr rfl))
 fresh:=r.fresh
 apart:=r.apart
end
section
noncomputable abbrev Loc:=Str→Option V
noncomputable def upd (ρ:Loc) (x:Str) (v:Option V):Loc:=fun y=>if y=x then v else ρ y
inductive Yxa (ι:Inj) (h:Heap) (v:Value):Prop where
 | mk (ea:Addr) (o:Obj) (C:Addr) (vs:Array Value) (e1:v=.ref ea) (e2:h.get? ea=some o) (e3:o.cls=.ref C) (e4:o.data=.fields vs) (e5:vs[2]?=some .none) (e6:ea∉own ι):Yxa ι h v
noncomputable def Yb9 (A:Around) (ι:Inj) (h:Heap):Prop:=∀ v,A.handled=some v→Yxa ι h v
theorem Yb9.none {A:Around}{ι:Inj}{h:Heap}(e:A.handled=.none):Yb9 A ι h:=fun v q=>by rw [e] at q; cases q
theorem Yb9.keep {A:Around}{ι ι':Inj}{h h':Heap}(x:Yb9 A ι h) (k:∀ a o C,h.get? a=some o→o.cls=.ref C→a∉own ι→h'.get? a=some o∧a∉own ι'):Yb9 A ι' h':=fun v q =>
 (x v q).rec fun ea o C vs e1 e2 e3 e4 e5 e6=>⟨ea,o,C,vs,e1,(k ea o C e2 e3 e6).1,e3,e4,e5,(k ea o C e2 e3 e6).2⟩
theorem Yof {c:Value}{C:Addr}{n:String}(e:c=.ref C):c≠.type n:=fun q=>nomatch e.symm.trans q
theorem Yb9.ext {T:Tp}{F:List Addr}{A:Around}{ι ι':Inj}{h h':Heap}(x:Yb9 A ι h) (e:Ext T F ι h ι' h') (hF:∀ a∈F,∃ o,h.get? a=some o∧itr o=false):Yb9 A ι' h' :=
 x.keep fun a o C e1 e2 e3=>⟨e.keep a o e1 e3 (fun q=>Zh (hF a q) fun o' g=>Yo9 g.2 ((Yai (g.1.symm.trans e1)).symm▸e2)) (Yof e2),e.not_own e3 (Zu e1)⟩
inductive Ypn (T:Tp) (ι:Inj) (h:Heap) (e:Env):Prop where
 | mk (k:e.scope.kind=.function) (L:Addr) (o:Obj) (es:Array DictEntry) (ep:Nat) (f:e.frame=some L) (n:L∉own ι) (b:T.b0.objs.size≤L) (g:h.get? L=some o) (c:o.cls=.type "frame") (dd:o.data=.dict es ep):Ypn T ι h e
structure AOk (T:Tp) (A:Around) (fs:List Env) (d:Nat) (ι:Inj) (h:Heap):Prop where
 frames:A.frames=some fs
 funs:∀ e∈fs,Ypn T ι h e
 depth:A.depth+d≤recursionLimit
 units:A.units+10*d+50≤cLine
 hd:T.hd=false→A.handled=none
 hx:Yb9 A ι h
noncomputable def Yvm (env:Env) (c:String):Prop:=(c = "frame" ∨ c = "dict")∧(env.frame≠some env.locals→c = "dict")
inductive Yyt (T:Tp) (env:Env) (ρ:Loc) (ι:Inj) (h:Heap):Prop where
 | mk (c:String) (m:Str→Option Value) (hc:Yvm env c) (hn:NsC h env.locals c m) (r:∀ x,env.kindOf x=some .local→Ycz T ι h (ρ x) (m x)):Yyt T env ρ ι h
inductive Ysq (T:Tp) (env:Env) (ρ:Loc) (ι:Inj) (h:Heap) (x:Str):Prop where
 | mk (c:Addr) (o:Obj) (v:Option Value) (e1:env.cells.lookup x=some c) (e2:h.get? c=some o) (e3:o.cls=.type "cell") (e4:o.data=.cell v) (e5:Ycz T ι h (ρ x) v) (e6:c∉own ι):Ysq T env ρ ι h x
inductive Yjr (h:Heap) (a:Addr):Prop where
 | mk (o:Obj) (h1:h.get? a=some o) (h2:Yax o=false) (h3:itr o=false):Yjr h a
theorem Yjr.lt {h:Heap}{a:Addr}(x:Yjr h a):a < h.objs.size:=x.rec fun zz h1 zz zz=>Zu h1
theorem Yjr.at {h:Heap}{a:Addr}{o:Obj}(x:Yjr h a) (ho:h.get? a=some o):Yax o=false∧itr o=false:=x.rec fun zz h1 h2 h3=>Yai (h1.symm.trans ho)▸⟨h2,h3⟩
structure Frm (T:Tp) (env:Env) (F:List Addr) (ρ:Loc) (ι:Inj) (h:Heap):Prop where
 kind:env.scope.kind=.function
 glb:env.globals=mainGlobals
 blt:env.builtins=builtinsNs
 ns:Yyt T env ρ ι h
 cells:∀ x,env.kindOf x=some .cell∨env.kindOf x=some .free→Ysq T env ρ ι h x
 inj:∀ x y c,(env.kindOf x=some .cell∨env.kindOf x=some .free)→(env.kindOf y=some .cell∨env.kindOf y=some .free)→env.cells.lookup x=some c→env.cells.lookup y=some c→x=y
 loc:env.locals∈F
 cin:∀ x c,env.kindOf x=some .cell→env.cells.lookup x=some c→c∈F
 apart:∀ a∈F,a∉own ι∧T.b0.objs.size≤a
 there:∀ a∈F,Yjr h a
inductive Ywm (fs:List Env) (env:Env):Prop where
 | mk (e:Env) (r:List Env) (L:Addr) (h1:fs=e::r) (h2:e.frame=some L) (h3:env.frame=some L):Ywm fs env
structure Inv (T:Tp) (A:Around) (fs:List Env) (d:Nat) (env:Env) (F:List Addr) (ρ:Loc) (ι:Inj) (σ:Hp) (s:Shared):Prop where
 rep:Rep T ι σ s.heap
 aok:AOk T A fs d ι s.heap
 frm:Frm T env F ρ ι s.heap
 top:Ywm fs env
 gens:s.gens = #[]
 os:s.os=T.os
theorem AOk.keeps {T:Tp}{A:Around}{fs:List Env}{d:Nat}{ι ι':Inj}{h h':Heap}(x:AOk T A fs d ι h) (no:∀ a,a∉own ι→a < h.objs.size→a∉own ι') (k:∀ a o,h.get? a=some o→a∉own ι→o.cls=.type "frame" → ∃ sl,h'.get? a=some { o with slots:=sl }) (hx:Yb9 A ι' h'):AOk T A fs d ι' h' :=
 ⟨x.frames,fun e he=>(x.funs e he).rec fun k1 L o es ep f n b g c dd=>Zh (k L o g n c) fun zz g'=>⟨k1,L,_,es,ep,f,no L n (Zu g),b,g',c,dd⟩,x.depth,x.units,x.hd,hx⟩
theorem Yh8 {o o':Obj}(h:o'.cls=o.cls):Yax o'=Yax o:=by unfold Yax; rw [h]
noncomputable def nsO (o:Obj):Prop:=∃ n,o.cls=.type n∧(n = "frame" ∨ n = "dict" ∨ n = "cell")
theorem nsO.itr {o:Obj}(h:nsO o):itr o=false:=Zh h fun n h=>Ynq h.1 (by rcases h.2 with e | e | e <;> rw [e] <;> decide)
theorem nsO.tb {o:Obj}(h:nsO o):o.cls≠.type "traceback":=Zh h fun n h q=>by
 have e:=Value.type.inj (h.1.symm.trans q)
 rcases h.2 with e' | e' | e' <;> rw [e'] at e <;> exact absurd e (by decide)
theorem Frm.keeps {T:Tp}{env:Env}{F:List Addr}{ρ:Loc}{ι ι':Inj}{h h':Heap}(x:Frm T env F ρ ι h) (m:Yd7 ι h ι' h') (no:∀ a,a∉own ι→a < h.objs.size→a∉own ι')
   (kf:∀ a o,h.get? a=some o→a∈F→itr o=false→∃ o',h'.get? a=some o'∧o'.cls=o.cls)
   (k:∀ a o,h.get? a=some o→a∉own ι→nsO o→(a∈F∨o.cls=.type "cell")→∃ sl,h'.get? a=some { o with slots:=sl }):Frm T env F ρ ι' h' where
 kind:=x.kind
 glb:=x.glb
 blt:=x.blt
 ns:=x.ns.rec fun c mm hc hn r=>⟨c,mm,hc,hn.of_slots fun o ho=>k _ o ho (x.apart _ x.loc).1 ⟨c,hn.rec fun o' zz zz h1 h2 zz zz zz zz zz=>Yai (h1.symm.trans ho)▸h2,hc.1.imp id .inl⟩ (.inl x.loc),fun y hy=>(r y hy).mono m⟩
 cells:=fun y hy=>(x.cells y hy).rec fun c o v e1 e2 e3 e4 e5 e6=>Zh (k c o e2 e6 ⟨_,e3,.inr (.inr rfl)⟩ (.inr e3)) fun zz g=>⟨c,_,v,e1,g,e3,e4,e5.mono m,no c e6 (Zu e2)⟩
 inj:=x.inj
 loc:=x.loc
 cin:=x.cin
 apart:=fun a ha=>⟨no a (x.apart a ha).1 (x.there a ha).lt,(x.apart a ha).2⟩
 there:=fun a ha=>(x.there a ha).rec fun o h1 h2 h3=>Zh (kf a o h1 ha h3) fun zz g=>⟨_,g.1,(Yh8 g.2).trans h2,(Yry g.2).trans h3⟩
theorem AOk.ext {T:Tp}{A:Around}{fs:List Env}{d:Nat}{ι ι':Inj}{h h':Heap}{F:List Addr}(x:AOk T A fs d ι h) (e:Ext T F ι h ι' h')
   (hF:∀ en∈fs,∀ L,en.frame=some L→L∈F→∃ o es ep,h'.get? L=some o∧o.data=.dict es ep) (hG:∀ a∈F,∃ o,h.get? a=some o∧itr o=false):AOk T A fs d ι' h' where
 frames:=x.frames
 funs:=fun en hen=>by
   obtain ⟨k,L,o,es,ep,f,n,b,g,c,dd⟩:=x.funs en hen
   have n':=e.not_own n (Zu g)
   by_cases q:L∈F
   · refine ex3 (hF en hen L f q) fun o' es' ep' h9=>h9.elim fun g' d'=>?_
     refine (e.cls L o g (by simp [Yb6,c])).elim fun o₂ h9=>h9.elim fun g₂ c₂=>?_
     exact ⟨k,L,o',es',ep',f,n',b,g',Yai (g₂.symm.trans g')▸c₂.trans c,d'⟩
   · obtain ⟨sl,g'⟩:=e.frm L o g n q
     exact ⟨k,L,_,es,ep,f,n',b,g',c,dd⟩
 depth:=x.depth
 units:=x.units
 hd:=x.hd
 hx:=x.hx.ext e hG
theorem AOk.ext0 {T:Tp}{A:Around}{fs:List Env}{d:Nat}{ι ι':Inj}{h h':Heap}(x:AOk T A fs d ι h) (e:Ext T [] ι h ι' h'):AOk T A fs d ι' h' :=
 x.keeps (fun zz n l=>e.not_own n l) (fun a o g n zz=>e.frm a o g n Zdc) (x.hx.ext e fun zz q=>nomatch q)
theorem Frm.ext {T:Tp}{env:Env}{F:List Addr}{ρ:Loc}{ι ι':Inj}{h h':Heap}(x:Frm T env F ρ ι h) (e:Ext T [] ι h ι' h'):Frm T env F ρ ι' h' :=
 x.keeps e.mono (fun zz n l=>e.not_own n l) (fun a o g ha zz=>Zh (e.frm a o g (x.apart a ha).1 Zdc) fun zz g=>⟨_,g,rfl⟩) fun a o g n zz zz=>e.frm a o g n Zdc
theorem Inv.ext {T:Tp}{A:Around}{fs:List Env}{d:Nat}{env:Env}{F:List Addr}{ρ:Loc}{ι ι':Inj}{σ σ':Hp}{s s':Shared}(x:Inv T A fs d env F ρ ι σ s) (e:Ext T [] ι s.heap ι' s'.heap) (r:Rep T ι' σ' s'.heap)
   (hg:s'.gens = #[]) (ho:s'.os=T.os):Inv T A fs d env F ρ ι' σ' s' :=
 ⟨r,x.aok.ext0 e,x.frm.ext e,x.top,hg,ho⟩
noncomputable abbrev QE:=V→Hp→Prop
noncomputable abbrev QX:=Str→Hp→Prop
inductive Yte (lo:Nat) (ea:Addr) (h:Heap) (v:Value):Prop where
 | mk (tb:Addr) (ot:Obj) (ts:Array Value) (h0:v=.ref tb) (h1:lo≤tb) (h2:tb≠ea) (h3:h.get? tb=some ot) (h4:ot.cls=.type "traceback") (h5:ot.data=.fields ts) (h6:3 < ts.size):Yte lo ea h v
inductive Fly (T:Tp) (lo:Nat) (ea:Addr) (c:Str) (h:Heap):Prop where
 | mk (C:Addr) (oe:Obj) (vs:Array Value) (v:Value) (h0:T.hd=false∧T.c c=some C) (h1:lo≤ea) (h2:h.get? ea=some oe) (h3:oe.cls=.ref C) (h4:oe.data=.fields vs) (h5:5 < vs.size) (h6:vs[2]?=some .none) (h7:vs[1]?=some v) (h8:(v=.none∨Yte lo ea h v)):Fly T lo ea c h
inductive Yop (T:Tp) (lo:Nat) (ea:Addr) (c:Str) (h:Heap):Prop where
 | mk (C:Addr) (oe:Obj) (vs:Array Value) (v:Value) (h0:T.hd=false∧T.c c=some C) (h1:lo≤ea) (h2:h.get? ea=some oe) (h3:oe.cls=.ref C) (h4:oe.data=.fields vs) (h5:5 < vs.size) (h6:vs[2]?=some .none) (h7:vs[1]?=some v) (h8:Yte lo ea h v):Yop T lo ea c h
theorem Yop.fly {T:Tp}{lo:Nat}{ea:Addr}{c:Str}{h:Heap}(x:Yop T lo ea c h):Fly T lo ea c h :=
 by obtain ⟨C,oe,vs,v,a,b,d,e,f,g,i,j,k⟩:=x; exact ⟨C,oe,vs,v,a,b,d,e,f,g,i,j,.inr k⟩
inductive Ybb (T:Tp) (F:List Addr) (Q:QE) (ι:Inj) (h:Heap) (x:Value) (s':Shared):Prop where
 | mk (v:V) (σ':Hp) (ι':Inj) (h0:Q v σ') (h1:Yar T ι' s'.heap v x) (h2:Rep T ι' σ' s'.heap) (h3:Ext T F ι h ι' s'.heap) (h4:s'.gens = #[]) (h5:s'.os=T.os):Ybb T F Q ι h x s'
inductive Yav (T:Tp) (F:List Addr) (X:QX) (ι:Inj) (h:Heap) (x:Value) (s':Shared):Prop where
 | mk (ea:Addr) (c:Str) (σ':Hp) (ι':Inj) (h0:x=.ref ea) (h1:X c σ') (h2:Fly T h.objs.size ea c s'.heap) (h3:ea∉own ι') (h4:Rep T ι' σ' s'.heap) (h5:Ext T F ι h ι' s'.heap) (h6:s'.gens = #[]) (h7:s'.os=T.os):Yav T F X ι h x s'
theorem Ybb.trans {T:Tp}{F:List Addr}{Q:QE}{ι ι₁:Inj}{h h₁:Heap}{x:Value}{s':Shared}(e:Ext T F ι h ι₁ h₁) (p:Ybb T F Q ι₁ h₁ x s'):Ybb T F Q ι h x s' :=
 by obtain ⟨v,σ',ι',q,r,rp,e',g,o⟩:=p; exact ⟨v,σ',ι',q,r,rp,e.trans e',g,o⟩
theorem Yte.lo {lo lo':Nat}{ea:Addr}{h:Heap}{v:Value}(x:Yte lo ea h v) (hl:lo'≤lo):Yte lo' ea h v :=
 by obtain ⟨tb,ot,ts,a,b,r1,r2,r3,r4,r5⟩:=x; exact ⟨tb,ot,ts,a,Za hl b,r1,r2,r3,r4,r5⟩
theorem Fly.lo {T:Tp}{lo lo':Nat}{ea:Addr}{c:Str}{h:Heap}(x:Fly T lo ea c h) (hl:lo'≤lo):Fly T lo' ea c h:=by
 obtain ⟨C,oe,vs,v,a,b,d,e,f,g,i,j,k⟩:=x
 exact ⟨C,oe,vs,v,a,Za hl b,d,e,f,g,i,j,k.imp id (·.lo hl)⟩
theorem Yav.trans {T:Tp}{F:List Addr}{X:QX}{ι ι₁:Inj}{h h₁:Heap}{x:Value}{s':Shared}(e:Ext T F ι h ι₁ h₁) (p:Yav T F X ι₁ h₁ x s'):Yav T F X ι h x s' :=
 by obtain ⟨ea,c,σ',ι',a,b,f,n,rp,e',g,o⟩:=p; exact ⟨ea,c,σ',ι',a,b,f.lo e.size,n,rp,e.trans e',g,o⟩
theorem Ybb.mono {T:Tp}{F:List Addr}{Q Q':QE}{ι:Inj}{h:Heap}{x:Value}{s':Shared}(p:Ybb T F Q ι h x s') (k:∀ v σ,Q v σ→Q' v σ):Ybb T F Q' ι h x s' :=
 by obtain ⟨v,σ',ι',q,r,rp,e',g,o⟩:=p; exact ⟨v,σ',ι',k _ _ q,r,rp,e',g,o⟩
theorem Yav.mono {T:Tp}{F:List Addr}{X X':QX}{ι:Inj}{h:Heap}{x:Value}{s':Shared}(p:Yav T F X ι h x s') (k:∀ c σ,X c σ→X' c σ):Yav T F X' ι h x s' :=
 by obtain ⟨ea,c,σ',ι',a,b,f,n,rp,e',g,o⟩:=p; exact ⟨ea,c,σ',ι',a,k _ _ b,f,n,rp,e',g,o⟩
structure St (T:Tp) (A:Around) (fs:List Env) (d:Nat) (ι:Inj) (σ:Hp) (s:Shared):Prop where
 rep:Rep T ι σ s.heap
 aok:AOk T A fs d ι s.heap
 gens:s.gens = #[]
 os:s.os=T.os
theorem Inv.st {T:Tp}{A:Around}{fs:List Env}{d:Nat}{env:Env}{F:List Addr}{ρ:Loc}{ι:Inj}{σ:Hp}{s:Shared}(x:Inv T A fs d env F ρ ι σ s):St T A fs d ι σ s:=⟨x.rep,x.aok,x.gens,x.os⟩
theorem St.ext {T:Tp}{A:Around}{fs:List Env}{d:Nat}{ι ι':Inj}{σ σ':Hp}{s s':Shared}(x:St T A fs d ι σ s) (e:Ext T [] ι s.heap ι' s'.heap) (r:Rep T ι' σ' s'.heap) (hg:s'.gens = #[]) (ho:s'.os=T.os):St T A fs d ι' σ' s' :=
 ⟨r,x.aok.ext0 e,hg,ho⟩
section
variable {T:Tp}{A:Around}{fs:List Env}{d:Nat}{ι:Inj}{σ:Hp}{s:Shared}{F:List Addr}
theorem St.post {Q:QE}{v:V}{x:Value}(S:St T A fs d ι σ s) (q:Q v σ) (r:Yar T ι s.heap v x) (t:Nat):Ybb T F Q ι s.heap x { s with toks:=t } :=
 ⟨v,σ,ι,q,r,S.rep,.refl ..,S.gens,S.os⟩
theorem St.post0 {Q:QE}{v:V}{x:Value}(S:St T A fs d ι σ s) (q:Q v σ) (r:Yar T ι s.heap v x):Ybb T F Q ι s.heap x s :=
 ⟨v,σ,ι,q,r,S.rep,.refl ..,S.gens,S.os⟩
theorem St.grown {Q:QE}{v:V}{x:Value}{h':Heap}{t:Nat}(S:St T A fs d ι σ s) (hs:s.heap.objs.size≤h'.objs.size) (k:∀ b o,s.heap.get? b=some o→h'.get? b=some o) (q:Q v σ) (r:Yar T ι h' v x) :
   Ybb T F Q ι s.heap x { s with heap:=h',toks:=t } :=
 ⟨v,σ,ι,q,r,S.rep.grow hs k,.of_keeps hs k,S.gens,S.os⟩
end
noncomputable def Yal (T:Tp) (d:Nat) (sc:Scope) (ρ:Loc) (X:QX) (e:Expr) (Q:QE) (σ:Hp):Prop :=
 ∀ env A fs F ι s,env.scope=sc→Inv T A fs d env F ρ ι σ s→wpAny (model T.prog T.w) A (eval e env) (Ybb T [] Q ι s.heap) (Yav T [] X ι s.heap) s
inductive Yei (T:Tp) (Q:Bool→Hp→Prop) (ι:Inj) (h:Heap) (b:Bool) (s':Shared):Prop where
 | mk (σ':Hp) (ι':Inj) (h0:Q b σ') (h1:Rep T ι' σ' s'.heap) (h2:Ext T [] ι h ι' s'.heap) (h3:s'.gens = #[]) (h4:s'.os=T.os):Yei T Q ι h b s'
theorem Yei.trans {T:Tp}{Q:Bool→Hp→Prop}{ι ι₁:Inj}{h h₁:Heap}{b:Bool}{s':Shared}(e:Ext T [] ι h ι₁ h₁) (p:Yei T Q ι₁ h₁ b s'):Yei T Q ι h b s' :=
 by obtain ⟨σ',ι',q,rp,e',g,o⟩:=p; exact ⟨σ',ι',q,rp,e.trans e',g,o⟩
noncomputable def Ydx (T:Tp) (d:Nat) (sc:Scope) (ρ:Loc) (X:QX) (e:Expr) (Q:Bool→Hp→Prop) (σ:Hp):Prop :=
 ∀ env A fs F ι s,env.scope=sc→Inv T A fs d env F ρ ι σ s→wpAny (model T.prog T.w) A (isTrue e env (eval e env)) (Yei T Q ι s.heap) (Yav T [] X ι s.heap) s
inductive Ywe (T:Tp) (Q:List V→Hp→Prop) (ι:Inj) (h:Heap) (xs:List Value) (s':Shared):Prop where
 | mk (vs:List V) (σ':Hp) (ι':Inj) (h0:Q vs σ') (h1:VRels T ι' s'.heap vs xs) (h2:Rep T ι' σ' s'.heap) (h3:Ext T [] ι h ι' s'.heap) (h4:s'.gens = #[]) (h5:s'.os=T.os):Ywe T Q ι h xs s'
noncomputable def Yda (T:Tp) (d:Nat) (sc:Scope) (ρ:Loc) (X:QX) (es:List Expr) (Q:List V→Hp→Prop) (σ:Hp):Prop :=
 ∀ env A fs F ι s,env.scope=sc→Inv T A fs d env F ρ ι σ s→wpAny (model T.prog T.w) A (spliced (es.map fun e=>(false,eval e env))) (Ywe T Q ι s.heap) (Yav T [] X ι s.heap) s
noncomputable def Yaa (T:Tp) (d:Nat) (X:QX) (f:V) (args:List V) (Q:QE) (σ:Hp):Prop :=
 ∀ A fs ι s fv xs,St T A fs d ι σ s→Yar T ι s.heap f fv→VRels T ι s.heap args xs→wpAny (model T.prog T.w) A (call fv xs) (Ybb T [] Q ι s.heap) (Yav T [] X ι s.heap) s
theorem Yaa.mono {T:Tp}{d:Nat}{X X':QX}{f:V}{args:List V}{Q Q':QE}{σ:Hp}(h:Yaa T d X f args Q σ) (k:∀ v σ,Q v σ→Q' v σ) (kx:∀ c σ,X c σ→X' c σ):Yaa T d X' f args Q' σ :=
 fun A fs ι s fv xs S hf hx=>Zib (h A fs ι s fv xs S hf hx) (fun zz zz p=>p.mono k) fun zz zz p=>p.mono kx
theorem AOk.le {T:Tp}{A:Around}{fs:List Env}{d d':Nat}{ι:Inj}{h:Heap}(x:AOk T A fs d' ι h) (hd:d≤d'):AOk T A fs d ι h :=
 ⟨x.frames,x.funs,by have:=x.depth; lia,by have:=x.units; lia,x.hd,x.hx⟩
theorem St.le {T:Tp}{A:Around}{fs:List Env}{d d':Nat}{ι:Inj}{σ:Hp}{s:Shared}(x:St T A fs d' ι σ s) (hd:d≤d'):St T A fs d ι σ s:=⟨x.rep,x.aok.le hd,x.gens,x.os⟩
theorem Yaa.le {T:Tp}{d d':Nat}{X:QX}{f:V}{args:List V}{Q:QE}{σ:Hp}(h:Yaa T d X f args Q σ) (hd:d≤d'):Yaa T d' X f args Q σ :=
 fun A fs ι s fv xs S hf hx=>h A fs ι s fv xs (S.le hd) hf hx
end
section
noncomputable def Ybx (T:Tp) (d:Nat) (X:QX) (t:Value→Value→Sem Value) (a b:V) (Q:QE) (σ:Hp):Prop :=
 ∀ A fs ι s x y,St T A fs d ι σ s→Yar T ι s.heap a x→Yar T ι s.heap b y→wpAny (model T.prog T.w) A (t x y) (Ybb T [] Q ι s.heap) (Yav T [] X ι s.heap) s
noncomputable def Ykf (a:Int):Prop:=-(2 ^ 64) < a∧a < 2 ^ 64
section
variable {T:Tp}{A:Around}{fs:List Env}{d:Nat}{ι:Inj}{σ:Hp}{s:Shared}{F:List Addr}
theorem Yar.int_inv {i:Int}{x:Value}{h:Heap}(e:Yar T ι h (.int i) x):∃ t,x=.int i t:=e
theorem Yar.str_inv {i:Str}{x:Value}{h:Heap}(e:Yar T ι h (.str i) x):∃ t,x=.str i t:=e
theorem Yar.bool_inv {i:Bool}{x:Value}{h:Heap}(e:Yar T ι h (.bool i) x):x=.bool i:=e
theorem Yar.none_inv {x:Value}{h:Heap}(e:Yar T ι h .none x):x=.none:=e
theorem Yar.tup_inv {vs:List V}{x:Value}{h:Heap}(e:Yar T ι h (.tup vs) x):∃ a items n,x=.ref a∧IsT h a items n∧VRels T ι h vs items.toList:=e
theorem Yar.ref_inv {l:Nat}{x:Value}{h:Heap}(e:Yar T ι h (.ref l) x):∃ a d,x=.ref a∧ι[l]?=some (a,d):=e
theorem Yar.int_mk {i:Int}{t:Tok}{h:Heap}:Yar T ι h (.int i) (.int i t):=by exact ⟨t,rfl⟩
theorem Yar.str_mk {i:Str}{t:Tok}{h:Heap}:Yar T ι h (.str i) (.str i t):=by exact ⟨t,rfl⟩
theorem Yar.bool_mk {i:Bool}{h:Heap}:Yar T ι h (.bool i) (.bool i):=rfl
theorem Yar.none_mk {h:Heap}:Yar T ι h .none .none:=rfl
theorem Rep.list_at {h:Heap}(r:Rep T ι σ h) {l:Nat}{vs:List V}{a:Addr}{d:Addr}(e:σ[l]?=some (.list vs)) (q:ι[l]?=some (a,d)) :
   ∃ items n,IsL h a items n∧VRels T ι h vs items.toList:=by
 obtain ⟨zz,items,⟨n,hl⟩,hv⟩:=r.objs l _ _ e q
 exact ⟨items.toArray,n,hl,by simpa using hv⟩
theorem Rep.newList {h:Heap}(r:Rep T ι σ h) {vs:List V}{items:Array Value}(hv:VRels T ι h vs items.toList) :
   Rep T (ι++[(h.objs.size,h.objs.size)]) (σ++[.list vs]) (h.push { cls:=.type "list",data:=.seq items })∧Ext T F ι h (ι++[(h.objs.size,h.objs.size)]) (h.push { cls:=.type "list",data:=.seq items }) ∧
     Yar T (ι++[(h.objs.size,h.objs.size)]) (h.push { cls:=.type "list",data:=.seq items }) (.ref σ.length) (.ref h.objs.size):=by
 have m:Yd7 ι h (ι++[(h.objs.size,h.objs.size)]) (h.push { cls:=.type "list",data:=.seq items }):=⟨⟨_,rfl⟩,(Ext.push T F ι h _).cls,(Ext.push T F ι h _).frz⟩
 have no:h.objs.size∉own ι:=fun q=>absurd (r.own_lt q) (Zub _)
 refine ⟨(r.push _).more (p:=(h.objs.size,h.objs.size)) ⟨rfl,items.toList,⟨0,by simpa using IsL.new h items⟩,hv.mono m⟩ r.size r.size no no,?_,?_⟩
 · have e:=Ext.push T F ι h { cls:=.type "list",data:=.seq items }
   exact ⟨⟨[(h.objs.size,h.objs.size)],rfl,by simp⟩,e.size,e.cls,e.frz,e.keep,e.frm⟩
 · exact ⟨h.objs.size,h.objs.size,rfl,by rw [← r.len]; simp⟩
theorem St.newList {Q:QE}{vs:List V}{items:Array Value}(S:St T A fs d ι σ s) (hv:VRels T ι s.heap vs items.toList) (q:Q (.ref σ.length) (σ++[.list vs])) {t:Nat} :
   Ybb T F Q ι s.heap (.ref s.heap.objs.size) { s with heap:=s.heap.push { cls:=.type "list",data:=.seq items },toks:=t } :=
 let ⟨a,b,c⟩:=S.rep.newList (F:=F) hv
 ⟨_,_,_,q,c,a,b,S.gens,S.os⟩
theorem St.newTup {Q:QE}{vs:List V}{items:Array Value}(S:St T A fs d ι σ s) (hv:VRels T ι s.heap vs items.toList) (q:Q (.tup vs) σ) {t:Nat} :
   Ybb T F Q ι s.heap (.ref s.heap.objs.size) { s with heap:=s.heap.push { cls:=.type "tuple",data:=.seq items },toks:=t }:=by
 refine ⟨_,_,_,q,?_,S.rep.push _,.push ..,S.gens,S.os⟩
 exact ⟨_,items,0,rfl,IsT.new _ _,hv.mono (Ext.push T [] ι s.heap _).mono⟩
end
theorem Ybx.ints {T:Tp}{d:Nat}{X:QX}{t:Value→Value→Sem Value}{x y:Int}{Q:QE}{σ:Hp}
   (k:∀ {A fs ι s u v},St T A fs d ι σ s→wpAny (model T.prog T.w) A (t (.int x u) (.int y v)) (Ybb T [] Q ι s.heap) (Yav T [] X ι s.heap) s):Ybx T d X t (.int x) (.int y) Q σ :=
 fun zz zz zz zz zz zz S hx hy=>Zh hx fun zz e=>Zh hy fun zz e'=>e▸e'▸k S
theorem Ybx.strs {T:Tp}{d:Nat}{X:QX}{t:Value→Value→Sem Value}{x y:Str}{Q:QE}{σ:Hp}
   (k:∀ {A fs ι s u v},St T A fs d ι σ s→wpAny (model T.prog T.w) A (t (.str x u) (.str y v)) (Ybb T [] Q ι s.heap) (Yav T [] X ι s.heap) s):Ybx T d X t (.str x) (.str y) Q σ :=
 fun zz zz zz zz zz zz S hx hy=>Zh hx fun zz e=>Zh hy fun zz e'=>e▸e'▸k S
theorem Ybx.strInt {T:Tp}{d:Nat}{X:QX}{t:Value→Value→Sem Value}{x:Str}{y:Int}{Q:QE}{σ:Hp}
   (k:∀ {A fs ι s u v},St T A fs d ι σ s→wpAny (model T.prog T.w) A (t (.str x u) (.int y v)) (Ybb T [] Q ι s.heap) (Yav T [] X ι s.heap) s):Ybx T d X t (.str x) (.int y) Q σ :=
 fun zz zz zz zz zz zz S hx hy=>Zh hx fun zz e=>Zh hy fun zz e'=>e▸e'▸k S
theorem Ybx.lists {T:Tp}{d:Nat}{X:QX}{t:Value→Value→Sem Value}{l m:Nat}{xs ys:List V}{Q:QE}{σ:Hp}(h1:σ[l]?=some (.list xs)) (h2:σ[m]?=some (.list ys))
   (k:∀ {A fs ι s u v i1 i2 n1 n2},St T A fs d ι σ s→IsL s.heap u i1 n1→VRels T ι s.heap xs i1.toList→IsL s.heap v i2 n2→VRels T ι s.heap ys i2.toList→wpAny (model T.prog T.w) A (t (.ref u) (.ref v)) (Ybb T [] Q ι s.heap) (Yav T [] X ι s.heap) s):Ybx T d X t (.ref l) (.ref m) Q σ :=
 fun zz zz zz zz zz zz S hx hy=>Zh hx fun zz hx=>Zh hx fun zz hx=>Zh hy fun zz hy=>Zh hy fun zz hy=>Zh (S.rep.list_at h1 hx.2) fun zz l1=>Zh l1 fun zz l1=>Zh (S.rep.list_at h2 hy.2) fun zz l2=>Zh l2 fun zz l2=>hx.1▸hy.1▸k S l1.1 l1.2 l2.1 l2.2
inductive Yoi (σ:Hp):Operator→V→V→V→Hp→Prop where
 | add (x y:Int):Yoi σ .Add (.int x) (.int y) (.int (x+y)) σ
 | cat (x y:Str) (h:x.length+y.length≤sizeLine):Yoi σ .Add (.str x) (.str y) (.str (x++y)) σ
 | lists (l m:Nat) (xs ys:List V) (h1:σ[l]?=some (.list xs)) (h2:σ[m]?=some (.list ys)) (h3:xs.length+ys.length≤sizeLine):Yoi σ .Add (.ref l) (.ref m) (.ref σ.length) (σ++[.list (xs++ys)])
 | mul (x y:Int) (h:Ykf x∨Ykf y):Yoi σ .Mult (.int x) (.int y) (.int (x*y)) σ
 | rep (x:Str) (n:Int) (h:MulOk x n):Yoi σ .Mult (.str x) (.int n) (.str (Txt.mul x n)) σ
 | sub (x y:Int):Yoi σ .Sub (.int x) (.int y) (.int (x - y)) σ
 | fdiv (x y:Int) (h:y≠0) (h2:y.natAbs < 1073741824):Yoi σ .FloorDiv (.int x) (.int y) (.int (x.fdiv y)) σ
 | mod (x y:Int) (h:y≠0):Yoi σ .Mod (.int x) (.int y) (.int (x.fmod y)) σ
inductive Ymi (op:Operator) (a b:V) (Q:QE) (σ:Hp):Prop where
 | mk (v:V) (σ':Hp) (r:Yoi σ op a b v σ') (q:Q v σ'):Ymi op a b Q σ
theorem Yn6 {T:Tp}{d:Nat}{X:QX}{l m:Nat}{xs ys:List V}{Q:QE}{σ:Hp}(h1:σ[l]?=some (.list xs)) (h2:σ[m]?=some (.list ys)) (h3:xs.length+ys.length≤sizeLine) (q:Q (.ref σ.length) (σ++[.list (xs++ys)])):Ybx T d X (binaryOp .Add) (.ref l) (.ref m) Q σ :=
 .lists h1 h2 fun {A fs ι s u v i1 i2 n1 n2} S l1 v1 l2 v2=>P.add_list l1 l2 (S.newList (items:=i1++i2) (Array.toList_append (xs:=i1) (ys:=i2)▸v1.append v2) q) (show i1.size+i2.size≤sizeLine by
   rw [← Array.length_toList,← Array.length_toList,v1.length,v2.length]; exact h3)
theorem Yoi.ok {T:Tp}{d:Nat}{X:QX}{Q:QE}{σ:Hp}{op:Operator}{a b v:V}{σ':Hp}(r:Yoi σ op a b v σ'):Q v σ'→Ybx T d X (binaryOp op) a b Q σ:=by
 induction r with
 | add=>exact fun q=>.ints fun S=>PyProof.Rows.add_int (S.post q .int_mk _)
 | cat z1 z2 h=>exact fun q=>.strs fun S=>PyProof.Rows.add_str (fun t' tk=>S.post q .str_mk _) h
 | lists z1 z2 z3 z4 h1 h2 h3=>exact fun q=>Yn6 h1 h2 h3 q
 | mul z1 z2 h=>exact fun q=>.ints fun S=>PyProof.Rows.mul_int (S.post q .int_mk _) (h.elim (fun q=>.of_left (intBits_le_64 q.1 q.2)) fun q=>.of_right (intBits_le_64 q.1 q.2))
 | rep z1 z2 h=>exact fun q=>.strInt fun S=>SB.mul h fun t' k=>S.post q .str_mk _
 | sub=>exact fun q=>.ints fun S=>sub_int' (S.post q .int_mk _)
 | fdiv z1 z2 h h2=>exact fun q=>.ints fun S=>floordiv_int h (S.post q .int_mk _) (.inl (PyProof.noPylong_small h2))
 | mod z1 z2 h=>exact fun q=>.ints fun S=>mod_int' h (S.post q .int_mk _)
theorem Yvp {T:Tp}{d:Nat}{X:QX}{op:Operator}{a b:V}{Q:QE}{σ:Hp}(h:Ymi op a b Q σ):Ybx T d X (binaryOp op) a b Q σ:=h.rec fun zz zz r q=>r.ok q
end
section
mutual
inductive Yer (σ:Hp):PyData→V→Prop where
 | none:Yer σ .none .none
 | bool (b:Bool):Yer σ (.bool b) (.bool b)
 | int (i:Int):Yer σ (.int i) (.int i)
 | str {s:Str}(h:PyData.strOk s=true):Yer σ (.str s) (.str s)
 | tup {ds:List PyData}{vs:List V}(h:Deeps σ ds vs):Yer σ (.tuple ds) (.tup vs)
 | list {ds:List PyData}{vs:List V}{l:Nat}(e:σ[l]?=some (.list vs)) (h:Deeps σ ds vs):Yer σ (.list ds) (.ref l)
inductive Deeps (σ:Hp):List PyData→List V→Prop where
 | nil:Deeps σ [] []
 | cons {d:PyData}{v:V}{ds:List PyData}{vs:List V}(h:Yer σ d v) (t:Deeps σ ds vs):Deeps σ (d::ds) (v::vs)
end
theorem Yer.lay {σ:Hp}{d:PyData}{v:V}(h:Yer σ d v):d.canLay0=true:=by
 refine Yer.rec (motive_1:=fun d v zz=>d.canLay0=true) (motive_2:=fun ds vs zz=>PyData.canLayAll0 ds=true) ?_ ?_ ?_ ?_ ?_ ?_ ?_ ?_ h
 · unfold PyData.canLay0; rfl
 · intro b; unfold PyData.canLay0; rfl
 · intro b; unfold PyData.canLay0; rfl
 · intro s h; unfold PyData.canLay0; exact h
 · intro ds vs h ih; unfold PyData.canLay0; exact ih
 · intro ds vs l e h ih; unfold PyData.canLay0; exact ih
 · unfold PyData.canLayAll0; rfl
 · intro d v ds vs h t ih1 ih2; unfold PyData.canLayAll0; rw [ih1,ih2]; rfl
theorem Deeps.lay {σ:Hp}{ds:List PyData}{vs:List V}(h:Deeps σ ds vs):PyData.canLayAll0 ds=true:=by have:=(Yer.tup h).lay; unfold PyData.canLay0 at this; exact this
section
variable {T:Tp}{ι:Inj}{σ:Hp}{h:Heap}
noncomputable abbrev Yhr (T:Tp) (ι:Inj) (h:Heap) (d:PyData) (v:V):Prop:=∀ {x:Value},Yar T ι h v x→∃ as,Reads h x d as
noncomputable abbrev Yj9 (T:Tp) (ι:Inj) (h:Heap) (ds:List PyData) (vs:List V):Prop:=∀ {xs:List Value},VRels T ι h vs xs→∃ as,ReadsAll h xs ds as
theorem Ypl:Yhr T ι h .none .none:=fun r=>r.none_inv▸⟨_,.none⟩
theorem Ym0 (b:Bool):Yhr T ι h (.bool b) (.bool b):=fun r=>r.bool_inv▸⟨_,.bool b⟩
theorem Yrx (i:Int):Yhr T ι h (.int i) (.int i):=fun r=>r.int_inv.elim fun t e=>e▸⟨_,.int i t⟩
theorem Ysm {s:Str}(zz:PyData.strOk s=true):Yhr T ι h (.str s) (.str s):=fun r=>r.str_inv.elim fun t e=>e▸⟨_,.str s t⟩
theorem Ysg {ds:List PyData}{vs:List V}(zz:Deeps σ ds vs) (ih:Yj9 T ι h ds vs):Yhr T ι h (.tuple ds) (.tup vs):=fun r=>ex3 r.tup_inv fun a items n e=>(ih e.2.2).elim fun as ra=>e.1▸⟨as,.tuple e.2.1 rfl rfl ra⟩
theorem Yoo (R:Rep T ι σ h) {ds:List PyData}{vs:List V}{l:Nat}(e1:σ[l]?=some (.list vs)) (zz:Deeps σ ds vs) (ih:Yj9 T ι h ds vs):Yhr T ι h (.list ds) (.ref l):=fun r=>ex2 r.ref_inv fun a d e=>ex2 (R.list_at e1 e.2) fun items n q=>(ih q.2).elim fun as ra=>e.1▸⟨a::as,.list q.1 rfl rfl ra⟩
theorem Ysp:Yj9 T ι h [] []:=fun r=>VRels.nil_iff.mp r▸⟨[],.nil⟩
theorem Yow {d:PyData}{v:V}{ds:List PyData}{vs:List V}(zz:Yer σ d v) (zz:Deeps σ ds vs) (i1:Yhr T ι h d v) (i2:Yj9 T ι h ds vs):Yj9 T ι h (d::ds) (v::vs):=fun r=>ex2 (VRels.cons_iff.mp r) fun x ys e=>(i1 e.2.1).elim fun as h1=>(i2 e.2.2).elim fun bs h2=>e.1▸⟨as++bs,.cons h1 h2⟩
theorem Yer.reads (R:Rep T ι σ h) {d:PyData}{v:V}{x:Value}(e:Yer σ d v) (r:Yar T ι h v x):∃ as,Reads h x d as :=
 Yer.rec (motive_1:=fun d v zz=>Yhr T ι h d v) (motive_2:=fun ds vs zz=>Yj9 T ι h ds vs) Ypl Ym0 Yrx Ysm Ysg (Yoo R) Ysp Yow e r
theorem Deeps.reads (R:Rep T ι σ h) {ds:List PyData}{vs:List V}{xs:List Value}(e:Deeps σ ds vs) (r:VRels T ι h vs xs):∃ as,ReadsAll h xs ds as :=
 Deeps.rec (motive_1:=fun d v zz=>Yhr T ι h d v) (motive_2:=fun ds vs zz=>Yj9 T ι h ds vs) Ypl Ym0 Yrx Ysm Ysg (Yoo R) Ysp Yow e r
end
end
section
theorem Yrr {M:Model}{A:Around}{E:Value→Shared→Prop}{s:Shared}{x y:Value}{Q:Value→Shared→Prop}(h:wpAny M A (compareOp .In x y) (fun v s'=>∀ b,v=.bool b→Q (.bool (!b)) s') E s) :
   wpAny M A (compareOp .NotIn x y) Q E s:=fun Γ p hΓ=>by
 have h':=h Γ p hΓ
 change Sem.wp M Γ (contains y x >>= fun r=>pure (Value.bool r)) _ _ p s at h'
 show Sem.wp M Γ (contains y x >>= fun r=>pure (Value.bool !r)) _ _ p s
 rw [Sem.wp_bind'] at h' ⊢
 exact Sem.wp_mono M Γ _ (fun r zz zz q=>q r rfl) (fun zz zz zz q=>q) _ _ h'
theorem Yw6 {u d x:Nat}(h:u+10*d+50≤cLine) (hx:x≤40):u+x < cLine:=by lia
theorem Yk8 {u d x:Nat}(h:u+10*d+50≤cLine) (hx:x≤40):u+1+x < cLine:=by lia
noncomputable def Yf1 (vv:V):Option Bool:=vv.casesOn (some true) (fun _=>some false) (fun _=>some false) (fun _=>some false) (fun _=>some false) (fun _=>some false) (fun _=>none) (fun _ _=>none) (fun _=>none) (fun _=>none) (fun _=>none) (fun _=>some false) (fun _=>none) (fun _ _=>none)
noncomputable def Yjv (b:Bool) (vv:V):Option Bool:=vv.casesOn (some false) (fun c=>some (c == b)) (fun _=>some false) (fun _=>some false) (fun _=>some false) (fun _=>some false) (fun _=>none) (fun _ _=>none) (fun _=>none) (fun _=>none) (fun _=>none) (fun _=>some false) (fun _=>none) (fun _ _=>none)
noncomputable def Yq3 (x y:Str):Bool:=!(Builtin.Str.occurrences y x 0 y.length 1).isEmpty
inductive InR (σ:Hp):V→V→Bool→Prop where
 | str (x y:Str):InR σ (.str x) (.str y) (Yq3 x y)
 | list (a:V) (l:Nat) (vs:List V) (ds:List PyData) (d:PyData) (h:σ[l]?=some (.list vs)) (h1:Deeps σ ds vs) (h2:Yer σ d a) (h3:PyData.depthAll ds≤40):InR σ a (.ref l) (ds.any fun y=>PyData.eqv y d)
 | dict (k:Str) (l:Nat) (kvs:List (Str×V)) (h:σ[l]?=some (.sdict kvs)):InR σ (.str k) (.ref l) (kvs.any fun kv=>kv.1=k)
 | tdict (k:Str×Int) (l:Nat) (kvs:List ((Str×Int)×V)) (h:σ[l]?=some (.tdict kvs)):InR σ (.tup [.str k.1,.int k.2]) (.ref l) (kvs.any fun kv=>kv.1=k)
inductive Yg3 (σ:Hp):CmpOp→V→V→Bool→Prop where
 | lt (x y:Int):Yg3 σ .Lt (.int x) (.int y) (decide (x < y))
 | le (x y:Int):Yg3 σ .LtE (.int x) (.int y) (decide (x≤y))
 | gt (x y:Int):Yg3 σ .Gt (.int x) (.int y) (decide (y < x))
 | ge (x y:Int):Yg3 σ .GtE (.int x) (.int y) (decide (y≤x))
 | eqi (x y:Int):Yg3 σ .Eq (.int x) (.int y) (x == y)
 | nei (x y:Int):Yg3 σ .NotEq (.int x) (.int y) (x != y)
 | eqs (x y:Str):Yg3 σ .Eq (.str x) (.str y) (x == y)
 | nes (x y:Str):Yg3 σ .NotEq (.str x) (.str y) (x != y)
 | eq (a b:V) (da db:PyData) (h1:Yer σ da a) (h2:Yer σ db b) (h3:da.depth≤40):Yg3 σ .Eq a b (PyData.eqv da db)
 | ne (a b:V) (da db:PyData) (h1:Yer σ da a) (h2:Yer σ db b) (h3:da.depth≤40):Yg3 σ .NotEq a b (!PyData.eqv da db)
 | isN (a:V) (r:Bool) (h:Yf1 a=some r):Yg3 σ .Is a .none r
 | notN (a:V) (r:Bool) (h:Yf1 a=some r):Yg3 σ .IsNot a .none (!r)
 | isB (a:V) (c r:Bool) (h:Yjv c a=some r):Yg3 σ .Is a (.bool c) r
 | notB (a:V) (c r:Bool) (h:Yjv c a=some r):Yg3 σ .IsNot a (.bool c) (!r)
 | isin (a b:V) (r:Bool) (h:InR σ a b r):Yg3 σ .In a b r
 | nin (a b:V) (r:Bool) (h:InR σ a b r):Yg3 σ .NotIn a b (!r)
 | own (op:CmpOp) (a b:V) (r:Bool) (h:∀ {T:Tp}{d:Nat}{X:QX}{Q:QE},Q (.bool r) σ→Ybx T d X (compareOp op) a b Q σ):Yg3 σ op a b r
inductive Ydf (op:CmpOp) (a b:V) (Q:QE) (σ:Hp):Prop where
 | mk (r:Bool) (c:Yg3 σ op a b r) (q:Q (.bool r) σ):Ydf op a b Q σ
section
variable {T:Tp}{A:Around}{fs:List Env}{d:Nat}{ι:Inj}{σ:Hp}{s:Shared}
theorem Yhv {a:V}{x:Value}{h:Heap}{r:Bool}(e:Yf1 a=some r) (v:Yar T ι h a x):plainIs x .none=true∧(x == .none)=r:=by
 cases a <;> first | (cases (show (Option.none:Option Bool)=some r from e); done) | (obtain rfl:=Zab (show some _=some r from e))
 · cases v.none_inv; exact ⟨rfl,rfl⟩
 · cases v.bool_inv; exact ⟨rfl,rfl⟩
 · obtain ⟨t,rfl⟩:=v.int_inv; exact ⟨rfl,rfl⟩
 · obtain ⟨t,rfl⟩:=v.str_inv; exact ⟨rfl,rfl⟩
 · obtain ⟨a,zz,zz,rfl,zz⟩:=v.tup_inv; exact ⟨rfl,rfl⟩
 · obtain ⟨a,zz,rfl,zz⟩:=v.ref_inv; exact ⟨rfl,rfl⟩
 · obtain ⟨a,zz,zz,rfl,zz⟩:=v; exact ⟨rfl,rfl⟩
set_option tactic.hygienic true in
theorem Yho {a:V}{x:Value}{h:Heap}{b r:Bool}(e:Yjv b a=some r) (v:Yar T ι h a x):plainIs x (.bool b)=true∧(x == .bool b)=r:=by
 cases a <;> first | (cases (show (Option.none:Option Bool)=some r from e); done) | (obtain rfl:=Zab (show some _=some r from e))
 · cases v.none_inv; exact ⟨rfl,rfl⟩
 · cases v.bool_inv; refine ⟨rfl,?_⟩; rename_i c; cases b <;> cases c <;> rfl
 · obtain ⟨t,rfl⟩:=v.int_inv; exact ⟨rfl,rfl⟩
 · obtain ⟨t,rfl⟩:=v.str_inv; exact ⟨rfl,rfl⟩
 · obtain ⟨a,zz,zz,rfl,zz⟩:=v.tup_inv; exact ⟨rfl,rfl⟩
 · obtain ⟨a,zz,rfl,zz⟩:=v.ref_inv; exact ⟨rfl,rfl⟩
 · obtain ⟨a,zz,zz,rfl,zz⟩:=v; exact ⟨rfl,rfl⟩
theorem Yhd.isSome {h:Heap}{kvs:List (Str×V)}{rvs:List (Str×Value)}{k:Str}(e:Yhd T ι h kvs rvs):(valueAt rvs k).isSome=kvs.any fun kv=>kv.1=k:=e.find.isSome.trans Yje
theorem Yis.isSome {h:Heap}{kvs:List ((Str×Int)×V)}{xs:List ((Str×Int)×Addr×Value)}{k:Str×Int}(e:Yis T ι h kvs xs):(atKey xs k).isSome=kvs.any fun kv=>kv.1=k:=e.find.isSome.trans Yje
theorem VRels.two {h:Heap}{v w:V}{xs:List Value}(e:VRels T ι h [v,w] xs):∃ x y,xs=[x,y]∧Yar T ι h v x∧Yar T ι h w y:=by
 obtain ⟨x,r,rfl,h1,h2⟩:=VRels.cons_iff.mp e
 obtain ⟨y,r,rfl,h3,h4⟩:=VRels.cons_iff.mp h2
 cases VRels.nil_iff.mp h4
 exact ⟨x,y,rfl,h1,h3⟩
theorem Yar.pair {h:Heap}{k:Str×Int}{v:Value}(e:Yar T ι h (.tup [.str k.1,.int k.2]) v):∃ a,v=.ref a∧Ya9 h k a:=by
 obtain ⟨a,⟨xs⟩,n,e1,ht,hv⟩:=e.tup_inv
 obtain ⟨x,y,e2,⟨t,e3⟩,⟨u,e4⟩⟩:=hv.two
 cases e2; cases e3; cases e4
 exact ⟨a,e1,_,t,u,n,ht,⟨rfl,rfl,rfl⟩,rfl⟩
theorem Rep.tdict_at {h:Heap}(r:Rep T ι σ h) {l:Nat}{kvs:List ((Str×Int)×V)}{a d:Addr}(e:σ[l]?=some (.tdict kvs)) (q:ι[l]?=some (a,d)) :
   ∃ xs,h.DictOfH (Ydr T.prog T.w) a xs∧Yis T ι h kvs xs∧(a == sysModules)=false:=by
 obtain ⟨zz,rvs,hd,hv⟩:=r.objs l _ _ e q
 refine ⟨rvs,hd,hv,?_⟩
 have h1:=(r.fresh _ (Zn q)).1
 have h2:=r.big
 simp only [Zmc,ne_eq]
 intro hq
 have:(sysModules:Nat)=1:=rfl
 rw [hq] at h1
 have h3:T.b0.objs.size≤1:=h1
 (clear h1 e q; lia)
theorem Rep.sdict_at {h:Heap}(r:Rep T ι σ h) {l:Nat}{kvs:List (Str×V)}{a d:Addr}(e:σ[l]?=some (.sdict kvs)) (q:ι[l]?=some (a,d)) :
   ∃ rvs,h.DictOf (strKind T.prog T.w) a rvs∧Yhd T ι h kvs rvs∧(a == sysModules)=false:=by
 obtain ⟨zz,rvs,hd,hv⟩:=r.objs l _ _ e q
 refine ⟨rvs,hd,hv,?_⟩
 have h1:=(r.fresh _ (Zn q)).1
 have h2:=r.big
 simp only [Zmc,ne_eq]
 intro hq
 have:(sysModules:Nat)=1:=rfl
 rw [hq] at h1
 have h3:T.b0.objs.size≤1:=h1
 (clear h1 e q; lia)
end
theorem Ybx.eqR {T:Tp}{d:Nat}{X:QX}{t:Value→Value→Sem Value}{a b:V}{da db:PyData}{Q:QE}{σ:Hp}(h1:Yer σ da a) (h2:Yer σ db b) (h3:da.depth≤40)
   (k:∀ {A fs ι s x y as bs},St T A fs d ι σ s→Reads s.heap x da as→Reads s.heap y db bs→A.units+min da.depth db.depth < cLine→wpAny (model T.prog T.w) A (t x y) (Ybb T [] Q ι s.heap) (Yav T [] X ι s.heap) s):Ybx T d X t a b Q σ :=
 fun A zz zz zz zz zz S hx hy=>Zh (h1.reads S.rep hx) fun zz ra=>Zh (h2.reads S.rep hy) fun zz rb=>k S ra rb (Yw6 S.aok.units (Za (Nat.min_le_left ..) h3))
theorem Ylq {T:Tp}{d:Nat}{X:QX}{a:V}{l:Nat}{vs:List V}{ds:List PyData}{dd:PyData}{Q:QE}{σ:Hp}(h:σ[l]?=some (.list vs)) (h1:Deeps σ ds vs) (h2:Yer σ dd a) (h3:PyData.depthAll ds≤40) (q:Q (.bool (ds.any fun y=>PyData.eqv y dd)) σ) :
   Ybx T d X (compareOp .In) a (.ref l) Q σ :=
 fun A zz zz zz zz zz S hx hy=>Zh hy fun zz hy=>Zh hy fun zz hy=>hy.1▸Zh (S.rep.list_at h hy.2) fun zz l1=>Zh l1 fun zz l1=>Zh (h1.reads S.rep l1.2) fun zz ra=>Zh (h2.reads S.rep hx) fun zz rx =>
   in_list_reads (.list l1.1 rfl rfl ra) rx h1.lay h2.lay (Yk8 S.aok.units (Za (Nat.min_le_left ..) h3)) (S.post0 (v:=.bool _) q .bool_mk)
theorem Ylj {T:Tp}{d:Nat}{X:QX}{k:Str}{l:Nat}{kvs:List (Str×V)}{Q:QE}{σ:Hp}(h:σ[l]?=some (.sdict kvs)) (q:Q (.bool (kvs.any fun kv=>kv.1=k)) σ):Ybx T d X (compareOp .In) (.str k) (.ref l) Q σ :=
 fun A zz zz zz zz zz S hx hy=>Zh hx fun zz hx=>Zh hy fun zz hy=>Zh hy fun zz hy=>hx▸hy.1▸Zh (S.rep.sdict_at h hy.2) fun zz hd =>
   wpAny_in_of (knd:=strKind T.prog T.w) (k:=k) (by simp [PySem.strKind,Value.isStrOf]) hd.2.2 hd.1.mapOf (S.post (hd.2.1.isSome▸q) .bool_mk _)
theorem Ykh {T:Tp}{d:Nat}{X:QX}{k:Str×Int}{l:Nat}{kvs:List ((Str×Int)×V)}{Q:QE}{σ:Hp}(h:σ[l]?=some (.tdict kvs)) (q:Q (.bool (kvs.any fun kv=>kv.1=k)) σ):Ybx T d X (compareOp .In) (.tup [.str k.1,.int k.2]) (.ref l) Q σ :=
 fun A zz zz zz zz zz S hx hy=>Zh hx.pair fun zz hx=>Zh hy fun zz hy=>Zh hy fun zz hy=>hx.1▸hy.1▸Zh (S.rep.tdict_at h hy.2) fun zz hd =>
   wpAny_in_heap (knd:=Ydr T.prog T.w) (k:=k) (show A.units+1 < cLine from Yk8 (x:=0) S.aok.units (by decide)) hx.2 hd.2.2 hd.1 (S.post (hd.2.1.isSome▸q) .bool_mk _)
theorem Ybx.nin {T:Tp}{d:Nat}{X:QX}{a b:V}{r:Bool}{Q:QE}{σ:Hp}(q:Q (.bool (!r)) σ) (h:Ybx T d X (compareOp .In) a b (fun v σ'=>v=.bool r∧σ'=σ) σ):Ybx T d X (compareOp .NotIn) a b Q σ :=
 fun A fs ι s x y S hx hy=>Yrr (Zib (h A fs ι s x y S hx hy) (fun v s' p b e=>by
   obtain ⟨v,σ',ι',h0,h1,h2,h3,h4,h5⟩:=p
   cases h0.1; cases h0.2; cases e
   cases Yar.bool_inv h1
   exact ⟨_,_,_,q,.bool_mk,h2,h3,h4,h5⟩) fun zz zz p=>p)
theorem InR.ok {T:Tp}{d:Nat}{X:QX}{σ:Hp}{a b:V}{r:Bool}(c:InR σ a b r):∀ {Q:QE},Q (.bool r) σ→Ybx T d X (compareOp .In) a b Q σ:=by
 induction c with
 | str=>exact fun q=>.strs fun S=>in_str (S.post0 q .bool_mk)
 | list z1 z2 z3 z4 z5 h h1 h2 h3=>exact fun q=>Ylq h h1 h2 h3 q
 | dict z1 z2 z3 h=>exact fun q=>Ylj h q
 | tdict z1 z2 z3 h=>exact fun q=>Ykh h q
theorem Yg3.ok {T:Tp}{d:Nat}{X:QX}{σ:Hp}{op:CmpOp}{a b:V}{r:Bool}(c:Yg3 σ op a b r):∀ {Q:QE},Q (.bool r) σ→Ybx T d X (compareOp op) a b Q σ:=by
 induction c with
 | lt=>exact fun q=>.ints fun S=>lt_int (S.post0 q .bool_mk)
 | le=>exact fun q=>.ints fun S=>le_int (S.post0 q .bool_mk)
 | gt=>exact fun q=>.ints fun S=>gt_int (S.post0 q .bool_mk)
 | ge=>exact fun q=>.ints fun S=>ge_int (S.post0 q .bool_mk)
 | eqi=>exact fun q=>.ints fun S=>PyProof.Rows.eq_int (S.post0 q .bool_mk)
 | nei=>exact fun q=>.ints fun S=>ne_int (S.post0 q .bool_mk)
 | eqs=>exact fun q=>.strs fun S=>PyProof.Rows.eq_str (S.post0 q .bool_mk)
 | nes=>exact fun q=>.strs fun S=>ne_str (S.post0 q .bool_mk)
 | eq z1 z2 z3 z4 h1 h2 h3=>exact fun q=>.eqR h1 h2 h3 fun S ra rb hr=>compareEq_reads ra rb h1.lay h2.lay hr (S.post0 q .bool_mk)
 | ne z1 z2 z3 z4 h1 h2 h3=>exact fun q=>.eqR h1 h2 h3 fun S ra rb hr=>compareNe_reads ra rb h1.lay h2.lay hr (S.post0 q .bool_mk)
 | isN z1 z2 e=>exact fun q zz zz zz zz zz zz S hx hy=>hy.none_inv▸wpAny_is_plain (Yhv e hx).1 (S.post0 ((Yhv e hx).2▸q) .bool_mk)
 | notN z1 z2 e=>exact fun q zz zz zz zz zz zz S hx hy=>hy.none_inv▸wpAny_isNot_plain (Yhv e hx).1 (S.post0 ((Yhv e hx).2▸q) .bool_mk)
 | isB z1 z2 z3 e=>exact fun q zz zz zz zz zz zz S hx hy=>hy.bool_inv▸wpAny_is_plain (Yho e hx).1 (S.post0 ((Yho e hx).2▸q) .bool_mk)
 | notB z1 z2 z3 e=>exact fun q zz zz zz zz zz zz S hx hy=>hy.bool_inv▸wpAny_isNot_plain (Yho e hx).1 (S.post0 ((Yho e hx).2▸q) .bool_mk)
 | isin z1 z2 z3 h=>exact fun q=>h.ok q
 | nin z1 z2 z3 h=>exact fun q=>.nin q (h.ok ⟨rfl,rfl⟩)
 | own z1 z2 z3 z4 h=>exact fun q=>h q
theorem Yg0 {T:Tp}{d:Nat}{X:QX}{op:CmpOp}{a b:V}{Q:QE}{σ:Hp}(h:Ydf op a b Q σ):Ybx T d X (compareOp op) a b Q σ:=h.rec fun zz c q=>c.ok q
end
section
structure Yaf (T:Tp):Prop where
 X0:T.K.In T.b0
 lim:T.b0.NoLimit
 own:∀ x C bmB newId,PySem.W.nsIn T.K mainGlobals x=some (some (.ref C))→PySem.W.excIn T.K C bmB newId=true→∃ mg,PyProof.Rows.OwnCls x C bmB newId mg T.b0
 gl:∀ x v,T.gv x=some v→∃ V mg mb,T.b0.Ns mainGlobals mg∧T.b0.Ns builtinsNs mb∧(mg x=some V∨(mg x=none∧mb x=some V))∧Yar T [] T.b0 v V
noncomputable def Yoq (sc:Scope) (x:Str):Bool:=match sc.names.lookup x with
 | some .local | some .cell | some .free=>true
 | z1=>false
theorem Ypi {sc:Scope}{x:Str}(h:Yoq sc x=true):sc.names.lookup x=some .local∨sc.names.lookup x=some .cell∨sc.names.lookup x=some .free:=by
 unfold Yoq at h
 generalize sc.names.lookup x=o at h ⊢
 rcases o with zz | k
 · exact (Zv h).elim
 · cases k <;> first | exact .inl rfl | exact .inr (.inl rfl) | exact .inr (.inr rfl) | exact (Zv h).elim
noncomputable def Yes (sc:Scope):Bool:=sc.names.all fun p => !(p.1 == ("__debug__" : Str)) && !(p.1 == ("__classdict__" : Str))
theorem Ycn {sc:Scope}{x:Str}{k:NameKind}(h:Yes sc=true) (e:sc.names.lookup x=some k):(x == ("__debug__" : Str))=false∧(x == ("__classdict__" : Str))=false:=by
 unfold Yes at h
 have:∀ l:List (Str×NameKind),(l.all fun p => !(p.1 == ("__debug__" : Str)) && !(p.1 == ("__classdict__" : Str)))=true→l.lookup x=some k→(x == ("__debug__" : Str))=false∧(x == ("__classdict__" : Str))=false:=by
   intro l
   induction l with
   | nil=>intro zz e; cases e
   | cons p r ih =>
     intro h e
     simp only [List.all_cons,Zob,Bool.not_eq_true'] at h
     rw [List.lookup_cons] at e
     by_cases q:(x == p.1)=true
     · rw [beq_iff_eq.mp q]; exact h.1
     · rw [Bool.not_eq_true] at q; rw [q] at e
       exact ih (by simpa using h.2) e
 exact this _ h e
noncomputable def Yb4 (es:List Expr):Bool:=es.all fun e=>e.ctorIdx != 22
theorem Yjf {env:Env}{e:Expr}{r:List Expr}(h:(e.ctorIdx != 22)=true):starEach (e::r) env=(false,eval e env)::starEach r env:=by
 cases e <;> first | rfl | cases h
theorem Ybm {env:Env}{pos:Pos}{es:List Expr}(h:Yb4 es=true):backTo pos (starEach es env)=es.map fun e=>(false,eval e env):=by
 induction es with
 | nil=>rfl
 | cons e r ih =>
   have h:=Bool.and_eq_true_iff.mp h
   rw [Yjf h.1]
   exact congrArg (_ :: ·) (ih h.2)
section
variable {T:Tp}{d:Nat}{sc:Scope}{ρ:Loc}{X:QX}{Q:QE}{σ:Hp}
theorem Yal.mono {e:Expr}{Q':QE}{X':QX}(h:Yal T d sc ρ X e Q σ) (k:∀ v σ,Q v σ→Q' v σ) (kx:∀ c σ,X c σ→X' c σ):Yal T d sc ρ X' e Q' σ :=
 fun env A fs F ι s hsc I=>Zib (h env A fs F ι s hsc I) (fun zz zz p=>p.mono k) fun zz zz p=>p.mono kx
theorem Yal.none {k pos}(h:Q .none σ):Yal T d sc ρ X (.Constant .none k pos) Q σ:=fun zz zz zz zz zz zz zz I=>wpAny_Constant_none (I.st.post0 h .none_mk)
theorem Yal.bool {b k pos}(h:Q (.bool b) σ):Yal T d sc ρ X (.Constant (.bool b) k pos) Q σ:=fun zz zz zz zz zz zz zz I=>wpAny_Constant_bool (I.st.post0 h .bool_mk)
theorem Yal.int {i k pos}(h:Q (.int i) σ):Yal T d sc ρ X (.Constant (.int i) k pos) Q σ:=fun zz zz zz zz zz zz zz I=>wpAny_Constant_int (I.st.post h .int_mk _)
theorem Yal.str {i k pos}(h:Q (.str i) σ):Yal T d sc ρ X (.Constant (.str i) k pos) Q σ:=fun zz zz zz zz zz zz zz I=>wpAny_Constant_str (I.st.post h .str_mk _)
theorem Yng.at {α β:Type}{R:α→β→Prop}{x:Option α}{y:Option β}(h:Yng R x y):∀ {a:α},x=Option.some a→∃ b,y=Option.some b∧R a b:=h.rec (fun e=>(by cases e)) fun h e=>⟨_,rfl,Zab e▸h⟩
theorem Yal.local {x:Str}{pos:Pos}{v:V}(h:Q v σ) (hv:ρ x=some v) (hk:sc.names.lookup x=some .local) (ho:Yes sc=true):Yal T d sc ρ X (.Name x pos) Q σ:=by
 intro env A fs F ι s hsc I
 obtain ⟨c,m,zz,hn,hr⟩:=I.frm.ns
 have hk':env.kindOf x=some .local:=(congrArg (fun z=>z.names.lookup x) hsc).trans hk
 refine ((hr x hk').at hv).elim fun y h9=>h9.elim fun hm r=>?_
 exact wpAny_Name (wpAny_loadName_local I.frm.kind hk' hn.ns hm (I.st.post0 h r)) (Ycn ho hk).1
theorem Yal.cell {x:Str}{pos:Pos}{v:V}{k:NameKind}(h:Q v σ) (hv:ρ x=some v) (hk:sc.names.lookup x=some k) (hk':k=.cell∨k=.free) (ho:Yes sc=true):Yal T d sc ρ X (.Name x pos) Q σ:=by
 intro env A fs F ι s hsc I
 have hkk:env.kindOf x=some k:=(congrArg (fun z=>z.names.lookup x) hsc).trans hk
 obtain ⟨c,o,y,e1,e2,zz,e4,r,zz⟩:=I.frm.cells x (hk'.imp (fun e=>hkk.trans (congrArg some e)) fun e=>hkk.trans (congrArg some e))
 refine (r.at hv).elim fun y h9=>h9.elim fun e r=>?_
 have hc:s.heap.IsCell c (some y):=⟨o,e2,e▸e4⟩
 refine wpAny_Name ?_ (Ycn ho hk).1
 rcases hk' with e | e
 · exact wpAny_loadName_cell I.frm.kind (e▸hkk) e1 hc (I.st.post0 h r)
 · exact wpAny_loadName_free I.frm.kind (e▸hkk) e1 hc (I.st.post0 h r) (Ycn ho hk).2
theorem Yal.var {x:Str}{pos:Pos}{v:V}(h:Q v σ) (hv:ρ x=some v) (hk:Yoq sc x=true) (ho:Yes sc=true):Yal T d sc ρ X (.Name x pos) Q σ :=
 (Ypi hk).elim (fun e=>.local h hv e ho) fun e=>e.elim (fun e=>.cell h hv e (.inl rfl) ho) fun e=>.cell h hv e (.inr rfl) ho
theorem Yar.up {ι:Inj}{h:Heap}{v:V}{x:Value}(R:Rep T ι σ h) (r:Yar T [] T.b0 v x):Yar T ι h v x :=
 r.mono ⟨⟨ι,rfl⟩,fun zz o e zz=>⟨o,R.base _ _ e,rfl⟩,fun zz zz e zz=>R.base _ _ e⟩
theorem Yal.glob {x:Str}{pos:Pos}{v:V}(TO:Yaf T) (h:Q v σ) (hv:T.gv x=some v) (hk:sc.names.lookup x=some .globalImplicit) (ho:Yes sc=true):Yal T d sc ρ X (.Name x pos) Q σ:=by
 intro env A fs F ι s hsc I
 subst hsc
 refine ex3 (TO.gl x v hv) fun V mg mb h9=>Yqo h9 fun n1 n2 hm r=>?_
 have N1:=n1.keeps I.rep.base
 have N2:=n2.keeps I.rep.base
 have p:=I.st.post0 (F:=[]) h (r.up I.rep)
 refine Name_function_global I.frm.kind hk ?_ (Ycn ho hk).1
 rw [← I.frm.glb] at N1
 rw [← I.frm.blt] at N2
 rcases hm with hm | ⟨hm,hb⟩
 · exact loadGlobal_global N1 hm p
 · exact loadGlobal_builtin N1 hm N2 hb p
theorem Yal.two {l r:Expr}{t:Value→Value→Sem Value}{P:V→V→Hp→Prop}{env:Env}{A:Around}{fs:List Env}{F:List Addr}{ι:Inj}{s:Shared}(hk:∀ {a b σ},P a b σ→Ybx T d X t a b Q σ)
   (h:Yal T d sc ρ X l (fun a σ₁=>Yal T d sc ρ X r (fun b σ₂=>P a b σ₂) σ₁) σ) (hsc:env.scope=sc) (I:Inv T A fs d env F ρ ι σ s) :
   wpAny (model T.prog T.w) A (eval l env) (fun x s₁=>wpAny (model T.prog T.w) A (eval r env) (fun y s₂=>wpAny (model T.prog T.w) A (t x y) (Ybb T [] Q ι s.heap) (Yav T [] X ι s.heap) s₂) (Yav T [] X ι s.heap) s₁) (Yav T [] X ι s.heap) s:=by
 refine Zib (h env A fs F ι s hsc I) (fun x s₁ p=>?_) fun zz zz p=>p
 obtain ⟨v,σ₁,ι₁,q,rv,rp,ex,g,o⟩:=p
 have I₁:=I.ext ex rp g o
 refine Zib (q env A fs F ι₁ s₁ hsc I₁) (fun y s₂ p=>?_) fun zz zz p=>p.trans ex
 obtain ⟨v₂,σ₂,ι₂,q₂,rv₂,rp₂,ex₂,g₂,o₂⟩:=p
 exact Zib (hk q₂ A fs ι₂ s₂ x y (I₁.ext ex₂ rp₂ g₂ o₂).st (rv.mono ex₂.mono) rv₂) (fun zz zz p=>p.trans (ex.trans ex₂)) fun zz zz p=>p.trans (ex.trans ex₂)
theorem Yal.bin {l r:Expr}{op:Operator}{pos:Pos}(h:Yal T d sc ρ X l (fun a σ₁=>Yal T d sc ρ X r (fun b σ₂=>Ymi op a b Q σ₂) σ₁) σ):Yal T d sc ρ X (.BinOp l op r pos) Q σ :=
 fun zz zz zz zz zz zz hsc I=>wpAny_BinOp (Yal.two Yvp h hsc I)
theorem Yal.cmp {l r:Expr}{op:CmpOp}{pos:Pos}(h:Yal T d sc ρ X l (fun a σ₁=>Yal T d sc ρ X r (fun b σ₂=>Ydf op a b Q σ₂) σ₁) σ) (hm:behindInMarks op r=false):Yal T d sc ρ X (.Compare l [op] [r] pos) Q σ :=
 fun zz zz zz zz zz zz hsc I=>wpAny_Compare1 (Yal.two Yg0 h hsc I) hm
noncomputable def Ydd (v:V) (σ:Hp):Option Bool:=match v with
 | .bool b=>some b
 | .none=>some false
 | .int i=>some (i != 0)
 | .ref l=>atL (fun vs=>if vs.length < 1000000000 then some (!vs.isEmpty) else none) σ[l]?
 | z1=>none
theorem Yfc {A:Around}{fs:List Env}{ι:Inj}{s:Shared}{v:V}{x:Value}{b:Bool}{Q:Bool→Hp→Prop}(S:St T A fs d ι σ s) (r:Yar T ι s.heap v x) (e:Ydd v σ=some b) (q:Q b σ) :
   wpAny (model T.prog T.w) A (truthy x) (Yei T Q ι s.heap) (Yav T [] X ι s.heap) s:=by
 have fin:∀ t,Yei T Q ι s.heap b { s with toks:=t }:=fun t=>⟨σ,ι,q,S.rep,.refl ..,S.gens,S.os⟩
 cases v <;> first | exact (Yap e).elim | skip
 · cases r.none_inv; cases Yai e; exact Zjb (fin s.toks)
 · cases r.bool_inv; cases Yai e; exact wpAny_truthy_bool (fin s.toks)
 · obtain ⟨t,rfl⟩:=r.int_inv; cases Yai e; exact P.truthy_int (fin s.toks)
 · obtain ⟨a,d',rfl,hl⟩:=r.ref_inv
   obtain ⟨vs,hvs,e⟩:=Ydl e
   · split at e
     · rename_i hlt
       simp only [Option.some.injEq] at e
       refine ex2 (S.rep.list_at hvs hl) fun items n h9=>h9.elim fun hL hv=>?_
       have hlen:=hv.length
       simp only [Array.length_toList] at hlen
       refine wpAny_truthy_list hL.isList (by (clear hvs fin hl; lia)) ?_
       have:(!items.isEmpty)=b:=by
         rw [← e]; congr 1
         rw [Bool.eq_iff_iff,Array.isEmpty_iff_size_eq_zero,List.isEmpty_iff_length_eq_zero,hlen]
       rw [this]; exact fin _
     · cases e
end
end
section
section
variable {T:Tp}{d:Nat}{sc:Scope}{ρ:Loc}{X:QX}{Q:QE}{B:Bool→Hp→Prop}{σ:Hp}
theorem Ydx.cmp {l r:Expr}{op:CmpOp}{pos:Pos}(h:Yal T d sc ρ X l (fun a σ₁=>Yal T d sc ρ X r (fun b σ₂=>Ydf op a b (fun v σ₃=>∃ c,v=.bool c∧B c σ₃) σ₂) σ₁) σ) (hm:behindInMarks op r=false):Ydx T d sc ρ X (.Compare l [op] [r] pos) B σ:=by
 intro env A fs F ι s hsc I
 refine wpAny_isTrue_Compare1 (Zib (h env A fs F ι s hsc I) (fun x s₁ p=>?_) fun zz zz p=>p) hm
 obtain ⟨v,σ₁,ι₁,q,rv,rp,ex,g,o⟩:=p
 have I₁:=I.ext ex rp g o
 refine Zib (q env A fs F ι₁ s₁ hsc I₁) (fun y s₂ p=>?_) fun zz zz p=>p.trans ex
 obtain ⟨v₂,σ₂,ι₂,q₂,rv₂,rp₂,ex₂,g₂,o₂⟩:=p
 have I₂:=I₁.ext ex₂ rp₂ g₂ o₂
 refine Zib (Yg0 q₂ A fs ι₂ s₂ x y I₂.st (rv.mono ex₂.mono) rv₂) (fun z s₃ p=>?_) fun zz zz p=>p.trans (ex.trans ex₂)
 obtain ⟨v₃,σ₃,ι₃,⟨c,rfl,q₃⟩,rv₃,rp₃,ex₃,g₃,o₃⟩:=p
 cases rv₃.bool_inv
 exact wpAny_truthy_bool ⟨σ₃,ι₃,q₃,rp₃,(ex.trans ex₂).trans ex₃,g₃,o₃⟩
theorem Ydx.not {x:Expr}{pos:Pos}(h:Ydx T d sc ρ X x (fun b σ₁=>B (!b) σ₁) σ):Ydx T d sc ρ X (.UnaryOp .Not x pos) B σ:=by
 intro env A fs F ι s hsc I
 exact wpAny_isTrue_Not (Zib (h env A fs F ι s hsc I) (fun b s₁ p=>by obtain ⟨σ₁,ι₁,q,rp,ex,g,o⟩:=p; exact ⟨σ₁,ι₁,q,rp,ex,g,o⟩) fun zz zz p=>p)
noncomputable def Ydv (T:Tp) (d:Nat) (sc:Scope) (ρ:Loc) (X:QX) (op:BoolOp) (es:List Expr) (B:Bool→Hp→Prop) (σ:Hp):Prop :=
 ∀ env A fs F ι s,env.scope=sc→Inv T A fs d env F ρ ι σ s→wpAny (model T.prog T.w) A (allTrue op es env) (Yei T B ι s.heap) (Yav T [] X ι s.heap) s
theorem Ydx.bool {op:BoolOp}{es:List Expr}{pos:Pos}(h:Ydv T d sc ρ X op es B σ):Ydx T d sc ρ X (.BoolOp op es pos) B σ :=
 fun env A fs F ι s hsc I=>wpAny_isTrue_BoolOp (h env A fs F ι s hsc I)
theorem Yei.here {A:Around}{fs:List Env}{ι:Inj}{s:Shared}{b:Bool}(S:St T A fs d ι σ s) (q:B b σ):Yei T B ι s.heap b s:=⟨σ,ι,q,S.rep,.refl ..,S.gens,S.os⟩
theorem Ydv.and_nil (q:B true σ):Ydv T d sc ρ X .And [] B σ:=fun zz zz zz zz zz zz zz I=>wpAny_allTrue_And_nil (.here I.st q)
theorem Ydv.or_nil (q:B false σ):Ydv T d sc ρ X .Or [] B σ:=fun zz zz zz zz zz zz zz I=>wpAny_allTrue_Or_nil (.here I.st q)
theorem Ydv.and_cons {x:Expr}{r:List Expr}(h:Ydx T d sc ρ X x (fun b σ₁=>if b then Ydv T d sc ρ X .And r B σ₁ else B false σ₁) σ):Ydv T d sc ρ X .And (x::r) B σ:=by
 intro env A fs F ι s hsc I
 refine wpAny_allTrue_And_cons (Zib (h env A fs F ι s hsc I) (fun b s₁ p=>?_) fun zz zz p=>p)
 obtain ⟨σ₁,ι₁,q,rp,ex,g,o⟩:=p
 cases b
 · exact ⟨σ₁,ι₁,q,rp,ex,g,o⟩
 · exact Zib (q env A fs F ι₁ s₁ hsc (I.ext ex rp g o)) (fun zz zz p=>p.trans ex) fun zz zz p=>p.trans ex
theorem Ydv.or_cons {x:Expr}{r:List Expr}(h:Ydx T d sc ρ X x (fun b σ₁=>if b then B true σ₁ else Ydv T d sc ρ X .Or r B σ₁) σ):Ydv T d sc ρ X .Or (x::r) B σ:=by
 intro env A fs F ι s hsc I
 refine wpAny_allTrue_Or_cons (Zib (h env A fs F ι s hsc I) (fun b s₁ p=>?_) fun zz zz p=>p)
 obtain ⟨σ₁,ι₁,q,rp,ex,g,o⟩:=p
 cases b
 · exact Zib (q env A fs F ι₁ s₁ hsc (I.ext ex rp g o)) (fun zz zz p=>p.trans ex) fun zz zz p=>p.trans ex
 · exact ⟨σ₁,ι₁,q,rp,ex,g,o⟩
noncomputable def Yh7 (e:Expr):Bool:=!(Nat.beq e.ctorIdx 0 || Nat.beq e.ctorIdx 3 || Nat.beq e.ctorIdx 5 || Nat.beq e.ctorIdx 15)
theorem Ydx.val {e:Expr}(h:Yal T d sc ρ X e (fun v σ₁=>∃ b,Ydd v σ₁=some b∧B b σ₁) σ) (hp:Yh7 e=true):Ydx T d sc ρ X e B σ:=by
 intro env A fs F ι s hsc I
 refine wpAny_isTrue_value (Zib (h env A fs F ι s hsc I) (fun x s₁ p=>?_) fun zz zz p=>p) ?_
 · obtain ⟨v,σ₁,ι₁,⟨b,e1,q⟩,rv,rp,ex,g,o⟩:=p
   exact Zib (Yfc (I.ext ex rp g o).st rv e1 q) (fun zz zz p=>p.trans ex) fun zz zz p=>p.trans ex
 · cases e <;> first | rfl | exact (Zv hp).elim
theorem Ydx.cmp2 {l m r:Expr}{op1 op2:CmpOp}{pos:Pos}(h:Yal T d sc ρ X l (fun a σ₁=>Yal T d sc ρ X m (fun b σ₂=>Ydf op1 a b (fun v σ₃=>∃ c,v=.bool c∧(if c then Yal T d sc ρ X r (fun w σ₄=>Ydf op2 b w (fun v σ₅=>∃ c,v=.bool c∧B c σ₅) σ₄) σ₃ else B false σ₃)) σ₂) σ₁) σ)
   (hm:behindInMarks op2 r=false):Ydx T d sc ρ X (.Compare l [op1,op2] [m,r] pos) B σ:=by
 intro env A fs F ι s hsc I
 show wpAny _ _ (eval l env >>= fun a=>testChain pos a [op1,op2] [eval m env,markedBehindIn op2 r (eval r env)]) _ _ _
 rw [markedBehindIn_of_false hm]
 refine Zhb (Zib (h env A fs F ι s hsc I) (fun x s₁ p=>?_) fun zz zz p=>p)
 obtain ⟨v,σ₁,ι₁,q,rv,rp,ex,g,o⟩:=p
 have I₁:=I.ext ex rp g o
 refine Zhb (wpAny_holding (Zib (q env A fs F ι₁ s₁ hsc I₁) (fun y s₂ p=>?_) fun zz zz p=>p.trans ex))
 obtain ⟨v₂,σ₂,ι₂,q₂,rv₂,rp₂,ex₂,g₂,o₂⟩:=p
 have I₂:=I₁.ext ex₂ rp₂ g₂ o₂
 refine Zhb (wpAny_standAt (Zhb (wpAny_holding (Zib (Yg0 q₂ A fs ι₂ s₂ x y I₂.st (rv.mono ex₂.mono) rv₂) (fun z s₃ p=>?_) fun zz zz p=>p.trans (ex.trans ex₂)))))
 obtain ⟨v₃,σ₃,ι₃,⟨c,rfl,q₃⟩,rv₃,rp₃,ex₃,g₃,o₃⟩:=p
 cases rv₃.bool_inv
 have I₃:=I₂.ext ex₃ rp₃ g₃ o₃
 have ex123:=(ex.trans ex₂).trans ex₃
 refine Zhb (wpAny_release (Zhb (wpAny_holding (wpAny_truthy_bool ?_))))
 cases c
 · exact Zjb ⟨σ₃,ι₃,q₃,rp₃,ex123,g₃,o₃⟩
 · show wpAny _ _ (testChain pos y [op2] [eval r env]) _ _ _
   refine Zhb (wpAny_holding (Zib (q₃ env A fs F ι₃ s₃ hsc I₃) (fun u s₄ p=>?_) fun zz zz p=>p.trans ex123))
   obtain ⟨v₄,σ₄,ι₄,q₄,rv₄,rp₄,ex₄,g₄,o₄⟩:=p
   have I₄:=I₃.ext ex₄ rp₄ g₄ o₄
   have ex1234:=ex123.trans ex₄
   refine Zhb (wpAny_standAt (Zhb (wpAny_operateT (Zib (Yg0 q₄ A fs ι₄ s₄ y u I₄.st (rv₂.mono (ex₃.trans ex₄).mono) rv₄) (fun z s₅ p=>?_) fun zz zz p=>p.trans ex1234))))
   obtain ⟨v₅,σ₅,ι₅,⟨c,rfl,q₅⟩,rv₅,rp₅,ex₅,g₅,o₅⟩:=p
   cases rv₅.bool_inv
   exact wpAny_holding (wpAny_truthy_bool ⟨σ₅,ι₅,q₅,rp₅,ex1234.trans ex₅,g₅,o₅⟩)
theorem Yal.cmp2 {l m r:Expr}{op1 op2:CmpOp}{pos:Pos}(h:Yal T d sc ρ X l (fun a σ₁=>Yal T d sc ρ X m (fun b σ₂=>Ydf op1 a b (fun v σ₃=>∃ c,v=.bool c∧(if c then Yal T d sc ρ X r (fun w σ₄=>Ydf op2 b w Q σ₄) σ₃ else Q (.bool false) σ₃)) σ₂) σ₁) σ)
   (hm:behindInMarks op2 r=false):Yal T d sc ρ X (.Compare l [op1,op2] [m,r] pos) Q σ:=by
 intro env A fs F ι s hsc I
 show wpAny _ _ (eval l env >>= fun a=>compareChain pos a [op1,op2] [eval m env,markedBehindIn op2 r (eval r env)]) _ _ _
 rw [markedBehindIn_of_false hm]
 refine Zhb (Zib (h env A fs F ι s hsc I) (fun x s₁ p=>?_) fun zz zz p=>p)
 obtain ⟨v,σ₁,ι₁,q,rv,rp,ex,g,o⟩:=p
 have I₁:=I.ext ex rp g o
 refine Zhb (wpAny_holding (Zib (q env A fs F ι₁ s₁ hsc I₁) (fun y s₂ p=>?_) fun zz zz p=>p.trans ex))
 obtain ⟨v₂,σ₂,ι₂,q₂,rv₂,rp₂,ex₂,g₂,o₂⟩:=p
 have I₂:=I₁.ext ex₂ rp₂ g₂ o₂
 refine Zhb (wpAny_standAt (Zhb (wpAny_holding (Zib (Yg0 q₂ A fs ι₂ s₂ x y I₂.st (rv.mono ex₂.mono) rv₂) (fun z s₃ p=>?_) fun zz zz p=>p.trans (ex.trans ex₂)))))
 obtain ⟨v₃,σ₃,ι₃,⟨c,rfl,q₃⟩,rv₃,rp₃,ex₃,g₃,o₃⟩:=p
 cases rv₃.bool_inv
 have I₃:=I₂.ext ex₃ rp₃ g₃ o₃
 have ex123:=(ex.trans ex₂).trans ex₃
 refine Zhb (wpAny_release (Zhb (wpAny_holding (wpAny_truthy_bool ?_))))
 cases c
 · exact Zjb ⟨_,σ₃,ι₃,q₃,.bool_mk,rp₃,ex123,g₃,o₃⟩
 · show wpAny _ _ (compareChain pos y [op2] [eval r env]) _ _ _
   refine Zhb (wpAny_holding (Zib (q₃ env A fs F ι₃ s₃ hsc I₃) (fun u s₄ p=>?_) fun zz zz p=>p.trans ex123))
   obtain ⟨v₄,σ₄,ι₄,q₄,rv₄,rp₄,ex₄,g₄,o₄⟩:=p
   have I₄:=I₃.ext ex₄ rp₄ g₄ o₄
   have ex1234:=ex123.trans ex₄
   exact Zhb (wpAny_standAt (wpAny_operateT (Zib (Yg0 q₄ A fs ι₄ s₄ y u I₄.st (rv₂.mono (ex₃.trans ex₄).mono) rv₄) (fun z s₅ p=>p.trans ex1234) fun zz zz p=>p.trans ex1234)))
theorem Yal.not {x:Expr}{pos:Pos}(h:Yal T d sc ρ X x (fun v σ₁=>∃ b,Ydd v σ₁=some b∧Q (.bool (!b)) σ₁) σ):Yal T d sc ρ X (.UnaryOp .Not x pos) Q σ:=by
 intro env A fs F ι s hsc I
 refine wpAny_UnaryOp (Zib (h env A fs F ι s hsc I) (fun x s₁ p=>?_) fun zz zz p=>p)
 obtain ⟨v,σ₁,ι₁,⟨b,e1,q⟩,rv,rp,ex,g,o⟩:=p
 refine not_value (Zib (Yfc (Q:=fun c σ'=>Q (.bool (!c)) σ') (I.ext ex rp g o).st rv e1 q) (fun c s₂ p=>?_) fun zz zz p=>p.trans ex)
 obtain ⟨σ₂,ι₂,q₂,rp₂,ex₂,g₂,o₂⟩:=p
 exact ⟨_,σ₂,ι₂,q₂,.bool_mk,rp₂,ex.trans ex₂,g₂,o₂⟩
theorem Yal.neg {x:Expr}{pos:Pos}(h:Yal T d sc ρ X x (fun v σ₁=>∃ i,v=.int i∧Q (.int (-i)) σ₁) σ):Yal T d sc ρ X (.UnaryOp .USub x pos) Q σ:=by
 intro env A fs F ι s hsc I
 refine wpAny_UnaryOp (Zib (h env A fs F ι s hsc I) (fun x s₁ p=>?_) fun zz zz p=>p)
 obtain ⟨v,σ₁,ι₁,⟨i,rfl,q⟩,rv,rp,ex,g,o⟩:=p
 obtain ⟨t,rfl⟩:=rv.int_inv
 exact P.neg_int (((I.ext ex rp g o).st.post q .int_mk _).trans ex)
noncomputable def Ybr (T:Tp) (d:Nat) (sc:Scope) (ρ:Loc) (X:QX) (op:BoolOp) (es:List Expr) (Q:QE) (σ:Hp):Prop :=
 ∀ env A fs F ι s pos,env.scope=sc→Inv T A fs d env F ρ ι σ s→wpAny (model T.prog T.w) A (boolOp pos op (evalEach es env)) (Ybb T [] Q ι s.heap) (Yav T [] X ι s.heap) s
theorem Yal.bools {op:BoolOp}{es:List Expr}{pos:Pos}(h:Ybr T d sc ρ X op es Q σ):Yal T d sc ρ X (.BoolOp op es pos) Q σ :=
 fun env A fs F ι s hsc I=>h env A fs F ι s pos hsc I
theorem Ybr.one {op:BoolOp}{x:Expr}(h:Yal T d sc ρ X x Q σ):Ybr T d sc ρ X op [x] Q σ :=
 fun env A fs F ι s zz hsc I=>h env A fs F ι s hsc I
theorem Ybr.and {x y:Expr}{r:List Expr}(h:Yal T d sc ρ X x (fun v σ₁=>∃ b,Ydd v σ₁=some b∧(if b then Ybr T d sc ρ X .And (y::r) Q σ₁ else Q v σ₁)) σ):Ybr T d sc ρ X .And (x::y::r) Q σ:=by
 intro env A fs F ι s pos hsc I
 show wpAny _ _ (eval x env >>= fun v=>standAt pos >>= fun zz=>holding [v] (truthy v) >>= fun t=>match BoolOp.And,t with
   | .And,false | .Or,true=>pure v
   | z1,z2=>boolOp pos .And (evalEach (y::r) env)) _ _ _
 refine Zhb (Zib (h env A fs F ι s hsc I) (fun x s₁ p=>?_) fun zz zz p=>p)
 obtain ⟨v,σ₁,ι₁,⟨b,e1,q⟩,rv,rp,ex,g,o⟩:=p
 have I₁:=I.ext ex rp g o
 refine Zhb (wpAny_standAt (Zhb (wpAny_holding (Zib (Yfc (Q:=fun c σ'=>c=b∧σ'=σ₁) I₁.st rv e1 ⟨rfl,rfl⟩) (fun c s₂ p=>?_) fun zz zz p=>p.trans ex))))
 obtain ⟨σ₂,ι₂,⟨rfl,rfl⟩,rp₂,ex₂,g₂,o₂⟩:=p
 cases c
 · exact Zjb ⟨v,σ₂,ι₂,q,rv.mono ex₂.mono,rp₂,ex.trans ex₂,g₂,o₂⟩
 · exact Zib (q env A fs F ι₂ s₂ pos hsc (I₁.ext ex₂ rp₂ g₂ o₂)) (fun zz zz p=>p.trans (ex.trans ex₂)) fun zz zz p=>p.trans (ex.trans ex₂)
theorem Ybr.or {x y:Expr}{r:List Expr}(h:Yal T d sc ρ X x (fun v σ₁=>∃ b,Ydd v σ₁=some b∧(if b then Q v σ₁ else Ybr T d sc ρ X .Or (y::r) Q σ₁)) σ):Ybr T d sc ρ X .Or (x::y::r) Q σ:=by
 intro env A fs F ι s pos hsc I
 show wpAny _ _ (eval x env >>= fun v=>standAt pos >>= fun zz=>holding [v] (truthy v) >>= fun t=>match BoolOp.Or,t with
   | .And,false | .Or,true=>pure v
   | z1,z2=>boolOp pos .Or (evalEach (y::r) env)) _ _ _
 refine Zhb (Zib (h env A fs F ι s hsc I) (fun x s₁ p=>?_) fun zz zz p=>p)
 obtain ⟨v,σ₁,ι₁,⟨b,e1,q⟩,rv,rp,ex,g,o⟩:=p
 have I₁:=I.ext ex rp g o
 refine Zhb (wpAny_standAt (Zhb (wpAny_holding (Zib (Yfc (Q:=fun c σ'=>c=b∧σ'=σ₁) I₁.st rv e1 ⟨rfl,rfl⟩) (fun c s₂ p=>?_) fun zz zz p=>p.trans ex))))
 obtain ⟨σ₂,ι₂,⟨rfl,rfl⟩,rp₂,ex₂,g₂,o₂⟩:=p
 cases c
 · exact Zib (q env A fs F ι₂ s₂ pos hsc (I₁.ext ex₂ rp₂ g₂ o₂)) (fun zz zz p=>p.trans (ex.trans ex₂)) fun zz zz p=>p.trans (ex.trans ex₂)
 · exact Zjb ⟨v,σ₂,ι₂,q,rv.mono ex₂.mono,rp₂,ex.trans ex₂,g₂,o₂⟩
theorem Yda.nil {L:List V→Hp→Prop}(q:L [] σ):Yda T d sc ρ X [] L σ:=fun zz zz zz zz ι zz zz I=>Zjb ⟨[],σ,ι,q,VRels.nil_iff.mpr rfl,I.rep,.refl ..,I.gens,I.os⟩
theorem Yda.cons {L:List V→Hp→Prop}{e:Expr}{r:List Expr}(h:Yal T d sc ρ X e (fun v σ₁=>Yda T d sc ρ X r (fun vs σ₂=>L (v::vs) σ₂) σ₁) σ):Yda T d sc ρ X (e::r) L σ:=by
 intro env A fs F ι s hsc I
 refine spliced_cons (Zib (h env A fs F ι s hsc I) (fun x s₁ p=>?_) fun zz zz p=>p)
 obtain ⟨v,σ₁,ι₁,q,rv,rp,ex,g,o⟩:=p
 refine Zib (q env A fs F ι₁ s₁ hsc (I.ext ex rp g o)) (fun xs s₂ p=>?_) fun zz zz p=>p.trans ex
 obtain ⟨vs,σ₂,ι₂,q₂,rvs,rp₂,ex₂,g₂,o₂⟩:=p
 exact ⟨v::vs,σ₂,ι₂,q₂,VRels.cons_iff.mpr ⟨_,_,rfl,rv.mono ex₂.mono,rvs⟩,rp₂,ex.trans ex₂,g₂,o₂⟩
theorem Yal.tup {es:List Expr}{k:Nat}{pos:Pos}(h:Yda T d sc ρ X es (fun vs σ₁=>vs.length≤sizeLine∧Q (.tup vs) σ₁) σ) (ns:Yb4 es=true):Yal T d sc ρ X (.Tuple es k pos) Q σ:=by
 intro env A fs F ι s hsc I
 refine wpAny_Tuple ?_
 rw [Ybm ns]
 refine Zib (h env A fs F ι s hsc I) (fun xs s₁ p=>?_) fun zz zz p=>p
 obtain ⟨vs,σ₁,ι₁,⟨hl,q⟩,rv,rp,ex,g,o⟩:=p
 exact ⟨by rw [rv.length]; exact hl,((I.ext ex rp g o).st.newTup (items:=xs.toArray) (by simpa using rv) q (t:=s₁.toks)).trans ex⟩
theorem Yal.list {es:List Expr}{pos:Pos}(h:Yda T d sc ρ X es (fun vs σ₁=>vs.length≤sizeLine∧Q (.ref σ₁.length) (σ₁++[.list vs])) σ) (ns:Yb4 es=true):Yal T d sc ρ X (.List es pos) Q σ:=by
 intro env A fs F ι s hsc I
 refine wpAny_List ?_
 rw [Ybm ns]
 refine Zib (h env A fs F ι s hsc I) (fun xs s₁ p=>?_) fun zz zz p=>p
 obtain ⟨vs,σ₁,ι₁,⟨hl,q⟩,rv,rp,ex,g,o⟩:=p
 exact ⟨by rw [rv.length]; exact hl,((I.ext ex rp g o).st.newList (items:=xs.toArray) (by simpa using rv) q (t:=s₁.toks)).trans ex⟩
end
end
section
noncomputable def Yr9 (k:Int):Prop:=-(2 ^ 63)≤k∧k < 2 ^ 63
inductive Yg8 (σ:Hp):V→V→V→Prop where
 | tup (vs:List V) (k:Int) (j:Nat) (v:V) (e1:seqIndex? k vs.length=some j) (e2:vs[j]?=some v) (e3:Yr9 k):Yg8 σ (.tup vs) (.int k) v
 | list (l:Nat) (vs:List V) (k:Int) (j:Nat) (v:V) (e0:σ[l]?=some (.list vs)) (e1:seqIndex? k vs.length=some j) (e2:vs[j]?=some v) (e3:Yr9 k):Yg8 σ (.ref l) (.int k) v
 | str (s:Str) (k:Int) (c:Nat) (e1:(seqIndex? k s.length).bind (s.cps[·]?)=some c) (e3:Yr9 k):Yg8 σ (.str s) (.int k) (.str ⟨#[c]⟩)
 | scr (xs:List Int) (k i:Int) (h0:0≤k) (h1:k < 2 ^ 63) (h2:xs[k.toNat]?=some i):Yg8 σ (.scr xs) (.int k) (.int i)
 | dict (l:Nat) (x:Str) (kvs:List (Str×V)) (v:V) (e0:σ[l]?=some (.sdict kvs)) (e1:(kvs.find? fun kv=>kv.1=x).map (·.2)=some v):Yg8 σ (.ref l) (.str x) v
 | tdict (l:Nat) (k:Str×Int) (kvs:List ((Str×Int)×V)) (v:V) (e0:σ[l]?=some (.tdict kvs)) (e1:(kvs.find? fun kv=>kv.1=k).map (·.2)=some v):Yg8 σ (.ref l) (.tup [.str k.1,.int k.2]) v
inductive Ydy (o i:V) (Q:QE) (σ:Hp):Prop where
 | mk (v:V) (r:Yg8 σ o i v) (q:Q v σ):Ydy o i Q σ
noncomputable def Yeb (e:Expr):Bool:=e.ctorIdx != 26
theorem Ygi {slice:Expr}{o i:Value}(h:Yeb slice=true):subscripted slice false o i=operate [o,i] (getItem o i):=by
 cases slice <;> first | rfl | cases h
section
variable {T:Tp}{d:Nat}{sc:Scope}{ρ:Loc}{X:QX}{Q:QE}{σ:Hp}
theorem Yjg {k:Int}{n j:Nat}(h:seqIndex? k n=some j):(0≤k∧j=k.toNat)∨(k < 0 ∧ -(n:Int)≤k∧j=(k+n).toNat):=by
 unfold seqIndex? at h
 by_cases hk:k < 0
 · right
   simp only [hk,if_true] at h
   split at h
   · rename_i hb
     simp only [Zob,decide_eq_true_eq] at hb
     simp only [Option.some.injEq] at h
     exact ⟨hk,by (clear h hk; lia),h.symm⟩
   · cases h
 · left
   simp only [hk,if_false] at h
   split at h
   · simp only [Option.some.injEq] at h; exact ⟨by (clear h; lia),h.symm⟩
   · cases h
noncomputable def Ygw (T:Tp) (d:Nat) (X:QX) (o i:V) (Q:QE) (σ:Hp):Prop:=∀ A fs ι s x y,St T A fs d ι σ s→Yar T ι s.heap o x→Yar T ι s.heap i y→∃ ty id,s.TypeIs x ty∧typeLookup (.type ty) "__getitem__" = pure (some (.builtin id))∧wpAny (model T.prog T.w) A (getItem x y) (Ybb T [] Q ι s.heap) (Yav T [] X ι s.heap) s
theorem Yd1 {T:Tp}{ι:Inj}{h:Heap}{vs:List V}{items:Array Value}(hv:VRels T ι h vs items.toList):items.size=vs.length:=Array.length_toList.symm.trans hv.length
theorem Yvu {k:Int}(h:Yr9 k):(decide (k < -(2 ^ 63)) || decide (2 ^ 63≤k))=false:=by
 rw [Zrc (Int.not_lt.mpr h.1),Zrc (Int.not_le.mpr h.2)]; rfl
theorem Yq8 {vs:List V}{k:Int}{j:Nat}{v:V}(e1:seqIndex? k vs.length=some j) (e2:vs[j]?=some v) (e3:Yr9 k) (q:Q v σ):Ygw T d X (.tup vs) (.int k) Q σ:=fun A fs ι s x y S rx ry=>by
 obtain ⟨a,items,n,rfl,ht,hv⟩:=rx.tup_inv
 obtain ⟨t,rfl⟩:=ry.int_inv
 obtain ⟨z,hz,rz⟩:=hv.get e2
 exact ⟨_,_,⟨_,ht,rfl⟩,PySem.F.slot_tuple_getitem.lookup,P.getItem_tuple ht e3.1 e3.2 ((Yd1 hv).symm▸e1) (Array.getElem?_toList▸hz) (S.post0 q rz)⟩
theorem Yn9 {l:Nat}{vs:List V}{k:Int}{j:Nat}{v:V}(e0:σ[l]?=some (.list vs)) (e1:seqIndex? k vs.length=some j) (e2:vs[j]?=some v) (e3:Yr9 k) (q:Q v σ):Ygw T d X (.ref l) (.int k) Q σ:=fun A fs ι s x y S rx ry=>by
 obtain ⟨a,d',rfl,hl⟩:=rx.ref_inv
 obtain ⟨t,rfl⟩:=ry.int_inv
 refine ex2 (S.rep.list_at e0 hl) fun items n h9=>h9.elim fun hL hv=>?_
 obtain ⟨z,hz,rz⟩:=hv.get e2
 refine ⟨_,_,⟨_,hL,rfl⟩,PySem.F.slot_list_getitem.lookup,?_⟩
 rcases Yjg e1 with ⟨k0,rfl⟩ | ⟨k0,k1,rfl⟩
 · exact wpAny_getItem_list hL.isList k0 e3.2 (Array.getElem?_toList▸hz) (S.post0 q rz)
 · rw [← Yd1 hv] at k1 hz
   exact wpAny_getItem_list_neg hL.isList k0 k1 e3.1 (Array.getElem?_toList▸hz) (S.post0 q rz)
theorem Ynh {l:Nat}{k:Str}{kvs:List (Str×V)}{v:V}(e0:σ[l]?=some (.sdict kvs)) (e1:(kvs.find? fun kv=>kv.1=k).map (·.2)=some v) (q:Q v σ):Ygw T d X (.ref l) (.str k) Q σ:=fun A fs ι s x y S rx ry=>by
 obtain ⟨a,d',rfl,hl⟩:=rx.ref_inv
 obtain ⟨t,rfl⟩:=ry.str_inv
 refine (S.rep.sdict_at e0 hl).elim fun rvs h9=>Yh5 h9 fun hd hv zz=>?_
 refine (hv.find.at e1).elim fun z h9=>h9.elim fun hm r=>?_
 exact ⟨_,_,hd.mapOf.typeIs,PySem.F.slot_dict_getitem.lookup,wpAny_getItem_of (knd:=strKind T.prog T.w) (k:=k) (by simp [PySem.strKind,Value.isStrOf]) hd.mapOf hm (S.post q r _)⟩
theorem Ymg {l:Nat}{k:Str×Int}{kvs:List ((Str×Int)×V)}{v:V}(e0:σ[l]?=some (.tdict kvs)) (e1:(kvs.find? fun kv=>kv.1=k).map (·.2)=some v) (q:Q v σ):Ygw T d X (.ref l) (.tup [.str k.1,.int k.2]) Q σ:=fun A fs ι s x y S rx ry=>by
 obtain ⟨a,d',rfl,hl⟩:=rx.ref_inv
 obtain ⟨a',rfl,hk⟩:=ry.pair
 refine (S.rep.tdict_at e0 hl).elim fun xs h9=>Yh5 h9 fun hd hv zz=>?_
 obtain ⟨z,hm,r⟩:=hv.find.at e1
 exact ⟨_,_,hd.typeIs,PySem.F.slot_dict_getitem.lookup,wpAny_getItem_heap (knd:=Ydr T.prog T.w) (k:=k) (show A.units+1 < cLine from Yk8 (x:=0) S.aok.units (by decide)) hk hd hm (S.post q r _)⟩
theorem Yqt {xs:List Int}{k i:Int}(k0:0≤k) (k1:k < 2 ^ 63) (e1:xs[k.toNat]?=some i) (q:Q (.int i) σ):Ygw T d X (.scr xs) (.int k) Q σ:=fun A fs ι s x y S rx ry=>by
 obtain ⟨a,ob,items,n,rfl,ho,hc,hd,l,hl,rfl⟩:=rx
 obtain ⟨t,rfl⟩:=ry.int_inv
 have ho':=S.rep.base _ _ ho
 rw [Zdb] at e1
 obtain ⟨p,hp,rfl⟩:=Zpb.mp e1
 refine ⟨_,_,⟨_,ho',hc⟩,PySem.F.slot_list_getitem.lookup,wpAny_getItem_list (x:=.int p.1 p.2) ⟨_,ho',hc,n,hd⟩ k0 k1 ?_ (S.post0 q .int_mk)⟩
 rw [← Array.getElem?_toList,hl,Zdb,hp]; rfl
theorem Yg8.ok {o i v:V}(r:Yg8 σ o i v):∀ {Q:QE},Q v σ→Ygw T d X o i Q σ:=by
 induction r with
 | tup z1 z2 z3 z4 e1 e2 e3=>exact fun q=>Yq8 e1 e2 e3 q
 | list z1 z2 z3 z4 z5 e0 e1 e2 e3=>exact fun q=>Yn9 e0 e1 e2 e3 q
 | str z1 z2 z3 e1 e3=>exact fun q A fs ι s x y S rx ry=>Zh rx fun zz h=>Zh ry fun zz h'=>h▸h'▸⟨"str",_,rfl,PySem.F.slot_str_getitem.lookup,PyProof.Rows.getItem_str (Yvu e3) e1 (S.post q .str_mk _)⟩
 | scr z1 z2 z3 h0 h1 h2=>exact fun q=>Yqt h0 h1 h2 q
 | dict z1 z2 z3 z4 e0 e1=>exact fun q=>Ynh e0 e1 q
 | tdict z1 z2 z3 z4 e0 e1=>exact fun q=>Ymg e0 e1 q
theorem Ysz {o i:V}{value slice:Expr}(ns:Yeb slice=true) (h:Ydy o i Q σ):Ybx T d X (subscriptTail value slice) o i Q σ:=fun A fs ι s x y S rx ry =>
 h.rec fun zz r q=>Zh (r.ok q A fs ι s x y S rx ry) fun zz h=>Zh h fun zz h=>tail_any h.1 h.2.1 h.2.2 (Ygi ns)
theorem Yal.item {value slice:Expr}{pos:Pos}(h:Yal T d sc ρ X value (fun o σ₁=>Yal T d sc ρ X slice (fun i σ₂=>Ydy o i Q σ₂) σ₁) σ) (ns:Yeb slice=true):Yal T d sc ρ X (.Subscript value slice pos) Q σ :=
 fun zz zz zz zz zz zz hsc I=>Subscript_ (Yal.two (Ysz ns) h hsc I)
noncomputable def Yaw (vv:V):Bool:=vv.casesOn (false) (fun _=>false) (fun _=>false) (fun _=>false) (fun _=>false) (fun _=>false) (fun _=>false) (fun _ _=>false) (fun _=>true) (fun _=>true) (fun _=>false) (fun _=>false) (fun _=>false) (fun _ _=>false)
noncomputable def Ymz (T:Tp) (f:V):Prop:=Yaw f=true∨∀ v,(∃ x,f=.glob x∧T.g x=some v)∨(∃ c x,f=.mth c x∧T.m c x=some v)→PySem.W.keepIn T.K v=true
theorem Yi2 {f:V}{fv:Value}{ι:Inj}{h:Heap}{M:Model}(hk:Ymz T f) (r:Yar T ι h f fv) (hc:Yaw f=true∨(∃ x,f=.glob x)∨(∃ c x,f=.mth c x)) :
   ∀ h',T.K.In h'→∃ k,(k=Keeper.frame∨k=Keeper.machine∨k=Keeper.boundFrame)∧PySem.W.Looks M h' (keeperOf fv) k:=by
 intro h' X'
 have triv:(∀ a,fv≠.ref a)→∃ k,(k=Keeper.frame∨k=Keeper.machine∨k=Keeper.boundFrame)∧PySem.W.Looks M h' (keeperOf fv) k:=fun ne =>
   ⟨.machine,.inr (.inl rfl),PySem.W.Looks.of_pure (by cases fv <;> first | rfl | exact absurd rfl (ne _))⟩
 have key:PySem.W.keepIn T.K fv=true→∃ k,(k=Keeper.frame∨k=Keeper.machine∨k=Keeper.boundFrame)∧PySem.W.Looks M h' (keeperOf fv) k:=fun e=>PySem.W.keeps_K e h' X'
 rcases hc with hc | ⟨x,rfl⟩ | ⟨c,x,rfl⟩
 · cases f <;> first | (cases hc; done) | skip
   · subst r; exact triv fun a e=>by cases e
   · subst r; exact triv fun a e=>by cases e
 · rcases hk with hk | hk
   · cases hk
   · exact key (hk fv (.inl ⟨x,rfl,r⟩))
 · rcases hk with hk | hk
   · cases hk
   · exact key (hk fv (.inr ⟨c,x,rfl,r⟩))
theorem Ybz {M:Model}{A:Around}{E:Value→Shared→Prop}{s:Shared}{f:Value}{env:Env}{es:List Expr}{Q:Args→Shared→Prop}
   (h:wpAny M A (spliced (es.map fun e=>(false,eval e env))) (fun vs s'=>Q ⟨vs,[]⟩ s') E s):wpAny M A (evalArgs f true (es.map fun e=>(false,eval e env)) []) Q E s:=by
 cases es with
 | nil =>
   unfold evalArgs
   show wpAny M A (spliced [] >>= _) Q E s
   refine Zhb (Zib h (fun vs s' h'=>?_) fun zz zz x=>x)
   refine wpAny_holding ?_
   exact Zhb (Zjb (Zhb (Zjb (Zjb h'))))
 | cons e r=>exact evalArgs_plain h
theorem Yal.call {x:Str}{np pos:Pos}{args:List Expr}(TO:Yaf T) (ns:Yb4 args=true)
   (h:Yal T d sc ρ X (.Name x np) (fun f σ₁=>(Yaw f=true∨(∃ x,f=.glob x)∨(∃ c x,f=.mth c x))∧Ymz T f∧Yda T d sc ρ X args (fun vs σ₂=>Yaa T d X f vs Q σ₂) σ₁) σ) :
   Yal T d sc ρ X (.Call (.Name x np) args [] pos) Q σ:=by
 intro env A fs F ι s hsc I
 rw [arm_eval_Call_Name']
 refine Zhb (Zib (h env A fs F ι s hsc I) (fun fv s₁ p=>?_) fun zz zz p=>p)
 obtain ⟨f,σ₁,ι₁,⟨hc,hk,q⟩,rv,rp,ex,g,o⟩:=p
 have I₁:=I.ext ex rp g o
 rw [Ybm ns]
 refine PySem.W.callWith_of (P:=T.K.In) (by rw [show backToKw pos (keywordEach [] env)=[] from rfl]; simp) (Yi2 hk rv hc) (Ybz (Zib (q env A fs F ι₁ s₁ hsc I₁) (fun xs s₂ p=>?_) fun zz zz p=>p.trans ex))
 obtain ⟨vs,σ₂,ι₂,q₂,rvs,rp₂,ex₂,g₂,o₂⟩:=p
 have I₂:=I₁.ext ex₂ rp₂ g₂ o₂
 refine ⟨TO.X0.keeps I₂.rep.base,?_⟩
 exact Zib (q₂ A fs ι₂ s₂ fv xs I₂.st (rv.mono ex₂.mono) rvs) (fun zz zz p=>p.trans (ex.trans ex₂)) fun zz zz p=>p.trans (ex.trans ex₂)
end
end
section
structure Ybt (S:List Addr) (lo:Nat) (ea:Addr) (h h':Heap):Prop where
 size:h.objs.size≤h'.objs.size
 cls:∀ a o,h.get? a=some o→∃ o',h'.get? a=some o'∧o'.cls=o.cls
 keep:∀ a o,h.get? a=some o→a≠ea→(a < lo∨o.cls≠.type "traceback")→a∉S→h'.get? a=some o
 frm:∀ a o,h.get? a=some o→a≠ea→(a < lo∨o.cls≠.type "traceback")→∃ sl,h'.get? a=some { o with slots:=sl }
theorem Ybt.refl {S lo ea}(h:Heap):Ybt S lo ea h h:=⟨Zl _,fun zz o e=>⟨o,e,rfl⟩,fun zz zz e zz zz zz=>e,fun zz o e zz zz=>⟨o.slots,e⟩⟩
theorem Ybt.trans {S lo ea}{h h₁ h₂:Heap}(x:Ybt S lo ea h h₁) (y:Ybt S lo ea h₁ h₂):Ybt S lo ea h h₂ where
 size:=Za x.size y.size
 cls:=fun a o e=>(by obtain ⟨o₁,e₁,c₁⟩:=x.cls a o e; obtain ⟨o₂,e₂,c₂⟩:=y.cls a o₁ e₁; exact ⟨o₂,e₂,c₂.trans c₁⟩)
 keep:=fun a o e n c s=>y.keep a o (x.keep a o e n c s) n c s
 frm:=fun a o e n c=>(by obtain ⟨_,e₁⟩:=x.frm a o e n c; obtain ⟨sl,e₂⟩:=y.frm a _ e₁ n c; exact ⟨sl,e₂⟩)
theorem Ybt.of_slots {S lo ea}{h h':Heap}(x:Heap.SlotsOnly S h h'):Ybt S lo ea h h' where
 size:=Zr x.1.symm
 cls:=fun a o e=>(by obtain ⟨_,e₁⟩:=x.2.2 a o e; exact ⟨_,e₁,rfl⟩)
 keep:=fun a o e zz zz s=>(x.2.1 a s).trans e
 frm:=fun a o e zz zz=>x.2.2 a o e
theorem Ybt.of_push {S lo ea}(h:Heap) (o:Obj):Ybt S lo ea h (h.push o) :=
 ⟨by rw [Zqb]; exact Zq (Zs h.objs.size),fun zz o e=>⟨o,Zx _ e,rfl⟩,fun zz zz e zz zz zz=>Zx _ e,fun zz o e zz zz=>⟨o.slots,Zx _ e⟩⟩
theorem Ybt.of_set {S}{lo:Nat}{ea:Addr}{h:Heap}{a:Addr}{o:Obj}{vs:Array Value}(ho:h.get? a=some o) (hd:o.data=.fields vs) (f:Array Value→Array Value) (ha:a=ea∨(lo≤a∧o.cls=.type "traceback")) :
   Ybt S lo ea h (h.update a (Obj.mapFields f)):=by
 have hself:=Heap.get?_update_self (Obj.mapFields f) ho (Obj.isFreed_of_fields (Obj.data_mapFields hd f))
 have ne:∀ b x,h.get? b=some x→b≠ea→(b < lo∨x.cls≠.type "traceback")→b≠a:=fun b x hb n c q=>by
   subst q
   rcases ha with ha | ⟨ha,hc⟩
   · exact n ha
   · rw [ho] at hb; cases hb
     rcases c with c | c
     · exact absurd c (Zo.mpr ha)
     · exact c hc
 refine ⟨Zr (Heap.size_after_update ..).symm,fun b x hb=>?_,fun b x hb n c zz=>?_,fun b x hb n c=>⟨x.slots,?_⟩⟩
 · by_cases q:b=a
   · subst q; rw [ho] at hb; cases hb; exact ⟨_,hself,Obj.cls_mapFields _ _⟩
   · exact ⟨x,(Heap.get?_update_other h _ (Ne.symm q)).trans hb,rfl⟩
 · exact (Heap.get?_update_other h _ (Ne.symm (ne b x hb n c))).trans hb
 · exact (Heap.get?_update_other h _ (Ne.symm (ne b x hb n c))).trans hb
noncomputable def frs (fs:List Env):List Addr:=fs.filterMap (·.frame)
section
variable {T:Tp}{A:Around}{fs:List Env}{d:Nat}{ι:Inj}{σ:Hp}{s:Shared}{F:List Addr}{env:Env}{ρ:Loc}{lo:Nat}{ea:Addr}{c:Str}
theorem AOk.mem {h:Heap}(x:AOk T A fs d ι h) {a:Addr}(ha:a∈frs fs):a∉own ι∧T.b0.objs.size≤a∧∃ o es ep,h.get? a=some o∧o.cls=.type "frame" ∧ o.data=.dict es ep:=by
 refine (List.mem_filterMap.mp ha).elim fun e h9=>h9.elim fun he hf=>?_
 obtain ⟨zz,L,o,es,ep,f,n,b,g,c,dd⟩:=x.funs e he
 rw [hf] at f; cases f
 exact ⟨n,b,o,es,ep,g,c,dd⟩
theorem Rep.own_cls {h:Heap}(r:Rep T ι σ h) {a:Addr}(ha:a∈own ι) {o:Obj}(ho:h.get? a=some o):o.cls≠.type "traceback" ∧ o.cls≠.type "frame":=by
 obtain ⟨p,hp,e⟩:=Ycj.mp ha
 obtain ⟨l,hl,rfl⟩:=List.getElem_of_mem hp
 have hl':l < σ.length:=r.len▸hl
 refine ((r.objs l σ[l] ι[l] (Zp hl') (Zp hl)).cls e).elim fun o' h9=>h9.elim fun ho' hc=>?_
 rw [ho] at ho'
 rw [Yai ho']
 rcases hc with ⟨C,hc⟩ | hc | hc <;> rw [hc]
 · exact ⟨nofun,nofun⟩
 · exact ⟨fun q=>absurd (Value.type.inj q) (by decide),fun q=>absurd (Value.type.inj q) (by decide)⟩
 · exact ⟨fun q=>absurd (Value.type.inj q) (by decide),fun q=>absurd (Value.type.inj q) (by decide)⟩
theorem Ybt.mono {S:List Addr}{h h':Heap}(t:Ybt S lo ea h h') (hS:∀ a∈S,∃ o,h.get? a=some o∧o.cls=.type "frame") (he:∃ o C,h.get? ea=some o∧o.cls=.ref C) (ι:Inj):Yd7 ι h ι h' where
 pre:=⟨[],by simp⟩
 cls:=fun a o e zz=>t.cls a o e
 frz:=fun a o ho hf=>t.keep a o ho (fun q=>by
     obtain ⟨o',C,g,gc⟩:=he
     subst q; rw [ho] at g; cases g
     simp [Yax,gc] at hf) (.inr fun q=>by simp [Yax,q] at hf) fun q=>by
     obtain ⟨o',g,gc⟩:=hS a q
     rw [ho] at g; cases g
     simp [Yax,gc] at hf
theorem Rep.touch {S:List Addr}{h h':Heap}(r:Rep T ι σ h) (t:Ybt S lo ea h h') (hS:∀ a∈S,a∉own ι∧T.b0.objs.size≤a∧∃ o,h.get? a=some o∧o.cls=.type "frame") (he:∃ o C,h.get? ea=some o∧o.cls=.ref C)
   (hn:ea∉own ι) (hl:T.b0.objs.size≤lo) (hle:lo≤ea):Rep T ι σ h' :=
 r.keeps (t.mono (fun a ha=>(hS a ha).2.2) he ι) t.size
   (fun a o e=>t.keep a o (r.base a o e) (fun q=>by
     have:=Zu e; rw [q] at this
     exact absurd (Za hl hle) (Nat.not_le.mpr this)) (.inl (Zz (Zu e) hl)) fun q=>absurd (hS a q).2.1 (Nat.not_le.mpr (Zu e)))
   fun a ha o e=>t.keep a o e (fun q=>hn (q▸ha)) (.inr (r.own_cls ha e).1) fun q=>(hS a q).1 ha
theorem Ext.touch {S:List Addr}{ι':Inj}{h₀ h h':Heap}(x:Ext T F ι h₀ ι' h) (t:Ybt S h₀.objs.size ea h h') (hS:∀ a∈S,∃ o,h.get? a=some o∧o.cls=.type "frame") (hle:h₀.objs.size≤ea):Ext T F ι h₀ ι' h' where
 pre:=x.pre
 size:=Za x.size t.size
 cls:=fun a o e i=>(by obtain ⟨o₁,e₁,c₁⟩:=x.cls a o e i; obtain ⟨o₂,e₂,c₂⟩:=t.cls a o₁ e₁; exact ⟨o₂,e₂,c₂.trans c₁⟩)
 frz:=fun a o e f=>t.keep a o (x.frz a o e f) (fun q=>absurd (Zu e) (Zo.mpr (q▸hle))) (.inl (Zu e)) fun q=>by
   obtain ⟨o',g,gc⟩:=hS a q
   rw [x.frz a o e f] at g; cases g
   simp [Yax,gc] at f
 keep:=fun a o e n f c=>t.keep a o (x.keep a o e n f c) (fun q=>absurd (Zu e) (Zo.mpr (q▸hle))) (.inl (Zu e)) fun q=>by
   obtain ⟨o',g,gc⟩:=hS a q
   rw [x.keep a o e n f c] at g; cases g
   exact c gc
 frm:=fun a o e n f=>by
   obtain ⟨sl,e₁⟩:=x.frm a o e n f
   obtain ⟨sl',e₂⟩:=t.frm a _ e₁ (fun q=>absurd (Zu e) (Zo.mpr (q▸hle))) (.inl (Zu e))
   exact ⟨sl',e₂⟩
theorem AOk.touch {S:List Addr}{h h':Heap}(x:AOk T A fs d ι h) (hT:T.hd=false) (t:Ybt S lo ea h h') (he:∃ o C,h.get? ea=some o∧o.cls=.ref C):AOk T A fs d ι h' :=
 x.keeps (fun zz n zz=>n) (fun a o g zz c=>t.frm a o g (fun q=>Zh he fun zz he=>Zh he fun zz he=>Yof he.2 (Yai ((q▸g).symm.trans he.1)▸c)) (.inr fun q=>absurd (Value.type.inj (c.symm.trans q)) (by decide))) (.none (x.hd hT))
theorem Frm.touch {S:List Addr}{h h':Heap}(x:Frm T env F ρ ι h) (t:Ybt S lo ea h h') (he:∃ o C,h.get? ea=some o∧o.cls=.ref C) (hS:∀ a∈S,∃ o,h.get? a=some o∧o.cls=.type "frame"):Frm T env F ρ ι h' :=
 x.keeps (t.mono hS he ι) (fun zz n zz=>n) (fun a o g zz zz=>t.cls a o g) fun a o g zz hc zz=>t.frm a o g (fun q=>Zh he fun zz he=>Zh he fun zz he=>Yo9 hc.itr ((Yai (he.1.symm.trans (q▸g)))▸he.2)) (.inr hc.tb)
theorem Fly.hd {h:Heap}(x:Fly T lo ea c h):T.hd=false:=by obtain ⟨zz,zz,zz,zz,a,zz⟩:=x; exact a.1
theorem Fly.there {h:Heap}(x:Fly T lo ea c h):∃ o C vs,h.get? ea=some o∧o.cls=.ref C∧o.data=.fields vs:=by obtain ⟨C,oe,vs,zz,zz,zz,d,e,f,zz⟩:=x; exact ⟨oe,C,vs,d,e,f⟩
theorem Inv.touch {h':Heap}(I:Inv T A fs d env F ρ ι σ s) (t:Ybt (frs fs) lo ea s.heap h') (f:Fly T lo ea c s.heap) (hn:ea∉own ι) (hl:T.b0.objs.size≤lo) (hle:lo≤ea):Inv T A fs d env F ρ ι σ { s with heap:=h' }:=by
 have hS:∀ a∈frs fs,a∉own ι∧T.b0.objs.size≤a∧∃ o,s.heap.get? a=some o∧o.cls=.type "frame":=fun a ha=>(by obtain ⟨a1,a2,o,_,_,a3,a4,_⟩:=I.aok.mem ha; exact ⟨a1,a2,o,a3,a4⟩)
 refine ex3 f.there fun o C vs h9=>Yh5 h9 fun e1 e2 e3=>?_
 exact ⟨I.rep.touch t hS ⟨o,C,e1,e2⟩ hn hl hle,I.aok.touch f.hd t ⟨o,C,e1,e2⟩,I.frm.touch t ⟨o,C,e1,e2⟩ fun a ha=>(hS a ha).2.2,I.top,I.gens,I.os⟩
theorem AOk.funFrames {h:Heap}(x:AOk T A fs d ι h):h.FunFrames T.b0 fs:=by
 have:∀ l:List Env,(∀ e∈l,e∈fs)→h.FunFrames T.b0 l:=by
   intro l
   induction l with
   | nil=>intro zz; trivial
   | cons e r ih =>
     intro hl
     obtain ⟨k,L,o,es,ep,f,n,b,g,c,dd⟩:=x.funs e (hl e Zt)
     exact ⟨by rw [k]; decide,⟨L,o,f,Heap.get?_none_of_le b,g,fun vs q=>by rw [dd] at q; cases q⟩,ih fun y hy=>hl y (Zd _ hy)⟩
 exact this fs fun zz h=>h
theorem Yj7 {M:Model}{E:Value→Shared→Prop}{e:Env}{r:List Env}{L:Addr}{base:Heap}{Q:Value→Shared→Prop}(hfr:A.frames=some (e::r)) (hl:s.heap.FunFrames base (e::r)) (hf:e.frame=some L) (hv:env.frame=some L)
   (h:∀ h',Heap.SlotsOnly (frs (e::r)) s.heap h'→Q (.ref L) { s with heap:=h' }):wpAny M A (PySem.frameOf env) Q E s:=by
 unfold PySem.frameOf
 refine Zhb (wpAny_frameEnvs hfr ?_)
 have hdw:((e::r).dropWhile fun x=>x.frame != env.frame)=e::r:=by simp [List.dropWhile,hf,hv]
 rw [hdw]
 unfold frameObject
 refine Zhb (Zhb (wpAny_readyFrames_fun hl fun h₁ hs₁=>Zjb ?_))
 rw [hf]
 exact Zjb (h h₁ hs₁)
theorem Yp3 {M:Model}{E:Value→Shared→Prop}{e:Env}{r:List Env}{L:Addr}{base:Heap}{head:Value}{hadNext:Bool}{Q:Unit→Shared→Prop}{oe:Obj}{vs:Array Value}(hfr:A.frames=some (e::r)) (hl:s.heap.FunFrames base (e::r))
   (hf:e.frame=some L) (hv:env.frame=some L) (he:s.heap.get? ea=some oe) (hd:oe.data=.fields vs) (hsz:1 < vs.size) (hlo:lo≤s.heap.objs.size)
   (h:∀ h' tb,Ybt (frs (e::r)) lo ea s.heap h'→(∃ oe',h'.get? ea=some oe'∧oe'.cls=oe.cls∧oe'.data=.fields (vs.setIfInBounds 1 (.ref tb)))→Yte lo ea h' (.ref tb)→Q () { s with heap:=h' }) :
   wpAny M A (do let a ← PySem.frameOf env; let pl ← entryPlaceOf L hadNext; let b ← EntryCells.newEntry head a .none (rawInt L) .none pl; setField (.ref ea) 1 b) Q E s:=by
 have hene:ea∉frs (e::r):=fun hm=>by
   obtain ⟨zz,o,ho,hnf⟩:=hl.mem hm
   rw [he] at ho; injection ho with ho; subst ho; exact hnf vs hd
 refine Zhb (Yj7 hfr hl hf hv fun h₁ hs₁=>?_)
 refine Zhb (wpAny_entryPlaceOf fun pl hpl=>?_)
 unfold EntryCells.newEntry newFields
 refine Zhb (wpAny_newObj_type ?_ (hpl.sizeOk5 _ _ _ _ _))
 have he₁:h₁.get? ea=some oe:=(hs₁.2.1 ea hene).trans he
 have he₂:=Zx (h:=h₁) { cls:=.type "traceback",dict:=none,data:=.fields ([head,.ref L,.none,rawInt L,.none]++(if pl.isEmpty then List.replicate 6 Value.none else pl)).toArray } he₁
 refine wpAny_setField he₂ hd hsz ?_
 have hTe:h₁.objs.size≠ea:=Zoc (Zu he₁)
 have hd₃:=Obj.data_mapFields hd (·.setIfInBounds 1 (Value.ref h₁.objs.size))
 have he₃:=Heap.get?_update_self (Obj.mapFields (·.setIfInBounds 1 (Value.ref h₁.objs.size))) he₂ (Obj.isFreed_of_fields hd₃)
 have hT₃:=(Heap.get?_update_other (h₁.push { cls:=.type "traceback",dict:=none,data:=.fields ([head,.ref L,.none,rawInt L,.none]++(if pl.isEmpty then List.replicate 6 Value.none else pl)).toArray })
   (Obj.mapFields (·.setIfInBounds 1 (Value.ref h₁.objs.size))) (Ne.symm hTe)).trans (Zsc h₁ rfl)
 refine h _ h₁.objs.size (((Ybt.of_slots hs₁).trans (.of_push ..)).trans (.of_set he₂ hd _ (.inl rfl))) ⟨_,he₃,Obj.cls_mapFields _ _,hd₃⟩ ⟨_,_,_,rfl,?_,hTe,hT₃,rfl,rfl,?_⟩
 · rw [hs₁.1]; exact hlo
 · simp only [List.size_toArray,Zf,List.length_cons,List.length_nil]; (clear hsz hlo h he₂ hTe hd₃ he₃ hT₃; lia)
theorem Yot {M:Model}{E:Value→Shared→Prop}{Q:Unit→Shared→Prop}(I:Inv T A fs d env F ρ ι σ s) (f:Fly T lo ea c s.heap) (hlo:lo≤s.heap.objs.size)
   (h:∀ h',Ybt (frs fs) lo ea s.heap h'→Yop T lo ea c h'→Q () { s with heap:=h' }):wpAny M A (noteFrame (.ref ea) env) Q E s:=by
 obtain ⟨e,r,L,rfl,hf,hv⟩:=I.top
 obtain ⟨C,oe,vs,v,f1,f2,f3,f4,f5,f6,f7,f8,f9⟩:=f
 unfold noteFrame
 simp only [hv]
 refine Zhb (wpAny_field f3 f5 f8 ?_)
 have fin:∀ (s':Shared) (head:Value) (hn:Bool),s'.heap.get? ea=some oe→s'.heap.FunFrames T.b0 (e::r)→lo≤s'.heap.objs.size→(∀ h',Ybt (frs (e::r)) lo ea s'.heap h'→Yop T lo ea c h'→Q () { s' with heap:=h' }) →
     wpAny M A (do let a ← PySem.frameOf env; let pl ← entryPlaceOf L hn; let b ← EntryCells.newEntry head a .none (rawInt L) .none pl; setField (.ref ea) 1 b) Q E s':=fun s' head hn g1 g2 g3 k =>
   Yp3 I.aok.frames g2 hf hv g1 f5 (by (clear f7 f8 g3 f2 hlo; lia)) g3 fun h' tb t o tb'=>k h' t (by
     refine o.elim fun oe' h9=>Yh5 h9 fun o1 o2 o3=>?_
     refine ⟨C,oe',_,.ref tb,f1,f2,o1,o2.trans f4,o3,by simpa using f6,?_,?_,tb'⟩
     · rw [Array.getElem?_setIfInBounds_ne (by decide)]; exact f7
     · rw [Array.getElem?_setIfInBounds_self_of_lt (by (clear f7 f8 g3 o3 f2 hlo; lia))])
 rcases f9 with rfl | ⟨tb,ot,ts,rfl,t2,t3,t4,t5,t6,t7⟩
 · rw [if_neg (by decide)]
   exact fin s _ _ f3 I.aok.funFrames hlo h
 · rw [if_pos (show (Value.ref tb != Value.none)=true from by simp)]
   have t8:ts[3]?=some ts[3]:=Array.getElem?_eq_getElem t7
   refine Zhb (wpAny_field t4 t6 t8 ?_)
   by_cases q:(ts[3] == rawInt L)=true
   · rw [if_pos q]
     exact Zjb (h _ (.refl _) ⟨C,oe,vs,_,f1,f2,f3,f4,f5,f6,f7,f8,⟨tb,ot,ts,rfl,t2,t3,t4,t5,t6,t7⟩⟩)
   · rw [if_neg q]
     refine Zhb (wpAny_setField t4 t6 t7 ?_)
     have other:∀ b,b≠tb→(s.heap.update tb (Obj.mapFields (·.setIfInBounds 3 Value.none))).get? b=s.heap.get? b:=fun b hb=>Heap.get?_update_other _ _ (Ne.symm hb)
     have tt:Ybt (frs (e::r)) lo ea s.heap (s.heap.update tb (Obj.mapFields (·.setIfInBounds 3 Value.none))):=.of_set t4 t6 _ (.inr ⟨t2,t5⟩)
     refine fin _ _ _ ((other ea (Ne.symm t3)).trans f3) (I.aok.touch f1.1 tt ⟨oe,C,f3,f4⟩).funFrames ?_ fun h' t k=>h h' (tt.trans t) k
     rw [Heap.size_after_update]; exact hlo
theorem Ydb {M:Model}{E:Value→Shared→Prop}{Q:Unit→Shared→Prop}{fr:Option Addr}{S:List Addr}(f:Yop T lo ea c s.heap)
   (h:∀ h',Ybt S lo ea s.heap h'→Yop T lo ea c h'→Q () { s with heap:=h' }):wpAny M A (setFlight (.ref ea) fr) Q E s:=by
 obtain ⟨C,oe,vs,v,f1,f2,f3,f4,f5,f6,f7,f8,tb,ot,ts,rfl,t2,t3,t4,t5,t6,t7⟩:=f
 unfold setFlight
 refine Zhb (wpAny_field f3 f5 f8 ?_)
 rw [if_pos (show (Value.ref tb != Value.none)=true from by simp)]
 refine wpAny_setField t4 t6 t7 (h _ (.of_set t4 t6 _ (.inr ⟨t2,t5⟩)) ⟨C,oe,vs,_,f1,f2,(Heap.get?_update_other _ _ t3).trans f3,f4,f5,f6,f7,f8,tb,_,_,rfl,t2,t3,Heap.get?_update_self _ t4 (Obj.isFreed_of_fields (Obj.data_mapFields t6 _)),(Obj.cls_mapFields _ _).trans t5,Obj.data_mapFields t6 _,by simpa using t7⟩)
end
end
set_option genSizeOf false
section
set_option genCtorIdx false in
inductive Fl where
 | next | brk | cont
 | ret (v:V)
inductive Yhh (T:Tp) (ι:Inj) (h:Heap):Fl→Flow→Prop where
 | next:Yhh T ι h .next .next
 | brk:Yhh T ι h .brk .brk
 | cont:Yhh T ι h .cont .cont
 | ret {v:V}{x:Value}(r:Yar T ι h v x):Yhh T ι h (.ret v) (.ret x)
theorem Yhh.imp {T T':Tp}{ι ι':Inj}{h h':Heap}{fl:Fl}{f:Flow}(r:Yhh T ι h fl f) (k:∀ v x,Yar T ι h v x→Yar T' ι' h' v x):Yhh T' ι' h' fl f:=r.rec .next .brk .cont fun r=>.ret (k _ _ r)
noncomputable abbrev QS:=Fl→Loc→Hp→Prop
noncomputable abbrev XS:=Str→Hp→Prop
inductive Yeu (T:Tp) (A:Around) (fs:List Env) (d:Nat) (env:Env) (F:List Addr) (Q:QS) (ι:Inj) (h:Heap) (f:Flow) (s':Shared):Prop where
 | mk (fl:Fl) (ρ':Loc) (σ':Hp) (ι':Inj) (h0:Q fl ρ' σ') (h1:Yhh T ι' s'.heap fl f) (h2:Inv T A fs d env F ρ' ι' σ' s') (h3:Ext T F ι h ι' s'.heap):Yeu T A fs d env F Q ι h f s'
inductive Ybh (T:Tp) (A:Around) (fs:List Env) (d:Nat) (env:Env) (F:List Addr) (X:XS) (ι:Inj) (h:Heap) (x:Value) (s':Shared):Prop where
 | mk (ea:Addr) (c:Str) (ρ':Loc) (σ':Hp) (ι':Inj) (h0:x=.ref ea) (h1:X c σ') (h2:Fly T h.objs.size ea c s'.heap) (h3:ea∉own ι') (h4:Inv T A fs d env F ρ' ι' σ' s') (h5:Ext T F ι h ι' s'.heap):Ybh T A fs d env F X ι h x s'
noncomputable def Yeg (T:Tp) (d:Nat) (sc:Scope) (ρ:Loc) (X:XS) (ss:List Stmt) (Q:QS) (σ:Hp):Prop :=
 ∀ env A fs F ι s,env.scope=sc→Inv T A fs d env F ρ ι σ s→wpAny (model T.prog T.w) A (execs ss env) (Yeu T A fs d env F Q ι s.heap) (Ybh T A fs d env F X ι s.heap) s
noncomputable def Yba (T:Tp) (d:Nat) (sc:Scope) (ρ:Loc) (X:XS) (st:Stmt) (Q:QS) (σ:Hp):Prop :=
 ∀ env A fs F ι s,env.scope=sc→Inv T A fs d env F ρ ι σ s→wpAny (model T.prog T.w) A (exec st env) (Yeu T A fs d env F Q ι s.heap) (Ybh T A fs d env F X ι s.heap) s
section
variable {T:Tp}{A:Around}{fs:List Env}{d:Nat}{env:Env}{F:List Addr}{ι ι₁:Inj}{h h₁:Heap}{s s':Shared}{ρ:Loc}{σ:Hp}{sc:Scope}
theorem Yeu.trans {Q:QS}{f:Flow}(e:Ext T F ι h ι₁ h₁) (p:Yeu T A fs d env F Q ι₁ h₁ f s'):Yeu T A fs d env F Q ι h f s' :=
 by obtain ⟨fl,ρ',σ',ι',q,r,i,e'⟩:=p; exact ⟨fl,ρ',σ',ι',q,r,i,e.trans e'⟩
theorem Ybh.trans {X:XS}{x:Value}(e:Ext T F ι h ι₁ h₁) (p:Ybh T A fs d env F X ι₁ h₁ x s'):Ybh T A fs d env F X ι h x s' :=
 by obtain ⟨ea,c,ρ',σ',ι',a,b,f,n,i,e'⟩:=p; exact ⟨ea,c,ρ',σ',ι',a,b,f.lo e.size,n,i,e.trans e'⟩
theorem Yeu.mono {Q Q':QS}{f:Flow}(p:Yeu T A fs d env F Q ι h f s') (k:∀ fl ρ σ,Q fl ρ σ→Q' fl ρ σ):Yeu T A fs d env F Q' ι h f s' :=
 by obtain ⟨fl,ρ',σ',ι',q,r,i,e'⟩:=p; exact ⟨fl,ρ',σ',ι',k _ _ _ q,r,i,e'⟩
theorem Ybh.mono {X X':XS}{x:Value}(p:Ybh T A fs d env F X ι h x s') (k:∀ c σ,X c σ→X' c σ):Ybh T A fs d env F X' ι h x s' :=
 by obtain ⟨ea,c,ρ',σ',ι',a,b,f,n,i,e'⟩:=p; exact ⟨ea,c,ρ',σ',ι',a,k _ _ b,f,n,i,e'⟩
theorem Ext.up (e:Ext T [] ι h ι₁ h₁):Ext T F ι h ι₁ h₁:=e.weaken fun a ha=>by simp at ha
theorem Yav.sx {X:QX}{XX:XS}{x:Value}(I:Inv T A fs d env F ρ ι σ s) (p:Yav T [] X ι s.heap x s') (k:∀ c σ,X c σ→XX c σ):Ybh T A fs d env F XX ι s.heap x s' :=
 by obtain ⟨ea,c,σ',ι',a,b,f,n,rp,e',g,o⟩:=p; exact ⟨ea,c,ρ,σ',ι',a,k _ _ b,f,n,I.ext e' rp g o,e'.up⟩
theorem Yba.mono {X X':XS}{st:Stmt}{Q Q':QS}(x:Yba T d sc ρ X st Q σ) (k:∀ fl ρ σ,Q fl ρ σ→Q' fl ρ σ) (kx:∀ c σ,X c σ→X' c σ):Yba T d sc ρ X' st Q' σ :=
 fun env A fs F ι s hsc I=>Zib (x env A fs F ι s hsc I) (fun zz zz p=>p.mono k) fun zz zz p=>p.mono kx
theorem Yeg.mono {X X':XS}{st:List Stmt}{Q Q':QS}(x:Yeg T d sc ρ X st Q σ) (k:∀ fl ρ σ,Q fl ρ σ→Q' fl ρ σ) (kx:∀ c σ,X c σ→X' c σ):Yeg T d sc ρ X' st Q' σ :=
 fun env A fs F ι s hsc I=>Zib (x env A fs F ι s hsc I) (fun zz zz p=>p.mono k) fun zz zz p=>p.mono kx
theorem Yeg.nil {X:XS}{Q:QS}(q:Q .next ρ σ):Yeg T d sc ρ X [] Q σ:=fun env A fs F ι s zz I=>wpAny_execs_nil ⟨.next,ρ,σ,ι,q,.next,I,.refl ..⟩
theorem Yeg.cons {X:XS}{Q:QS}{st:Stmt}{r:List Stmt}(x:Yba T d sc ρ X st (fun fl ρ' σ'=>match fl with | .next=>Yeg T d sc ρ' X r Q σ' | fl=>Q fl ρ' σ') σ):Yeg T d sc ρ X (st::r) Q σ:=by
 intro env A fs F ι s hsc I
 refine wpAny_execs_cons (Zib (x env A fs F ι s hsc I) (fun f s₁ p=>?_) fun zz zz p=>p)
 obtain ⟨fl,ρ',σ',ι',q,r,i,e⟩:=p
 induction r with
 | next=>exact Zib (q env A fs F ι' s₁ hsc i) (fun zz zz p=>p.trans e) fun zz zz p=>p.trans e
 | brk=>exact ⟨_,ρ',σ',ι',q,.brk,i,e⟩
 | cont=>exact ⟨_,ρ',σ',ι',q,.cont,i,e⟩
 | ret r=>exact ⟨_,ρ',σ',ι',q,.ret r,i,e⟩
theorem Yba.pass {X:XS}{Q:QS}{pos}(q:Q .next ρ σ):Yba T d sc ρ X (.Pass pos) Q σ:=fun env A fs F ι s zz I=>wpAny_Pass ⟨.next,ρ,σ,ι,q,.next,I,.refl ..⟩
theorem Yba.brk {X:XS}{Q:QS}{pos}(q:Q .brk ρ σ):Yba T d sc ρ X (.Break pos) Q σ:=fun env A fs F ι s zz I=>wpAny_Break ⟨.brk,ρ,σ,ι,q,.brk,I,.refl ..⟩
theorem Yba.cont {X:XS}{Q:QS}{pos}(q:Q .cont ρ σ):Yba T d sc ρ X (.Continue pos) Q σ:=fun env A fs F ι s zz I=>wpAny_Continue ⟨.cont,ρ,σ,ι,q,.cont,I,.refl ..⟩
theorem Yba.retNone {X:XS}{Q:QS}{pos}(q:Q (.ret .none) ρ σ):Yba T d sc ρ X (.Return none pos) Q σ:=fun env A fs F ι s zz I=>wpAny_Return_none ⟨.ret .none,ρ,σ,ι,q,.ret (Yar.none_mk (T:=T) (ι:=ι) (h:=s.heap)),I,.refl ..⟩
theorem Yba.ret {X:XS}{Q:QS}{e:Expr}{pos}(q:Yal T d sc ρ X e (fun v σ'=>Q (.ret v) ρ σ') σ):Yba T d sc ρ X (.Return (some e) pos) Q σ:=by
 intro env A fs F ι s hsc I
 refine wpAny_Return_some (Zib (q env A fs F ι s hsc I) (fun x s₁ p=>?_) fun zz zz p=>p.sx I fun zz zz k=>k)
 obtain ⟨v,σ₁,ι₁,q,rv,rp,ex,g,o⟩:=p
 exact ⟨.ret v,ρ,σ₁,ι₁,q,.ret rv,I.ext ex rp g o,ex.up⟩
noncomputable def Ye3 (e:Expr):Bool:=!(Nat.beq e.ctorIdx 8 || Nat.beq e.ctorIdx 9 || Nat.beq e.ctorIdx 10)
theorem Yfh {e:Expr}{t:Option Expr}{l:Nat}(h:Ye3 e=true):swapsWith e t l env=pure false:=by
 cases e <;> first | rfl | exact (Zv h).elim
theorem Inv.inter (I:Inv T A fs d env F ρ ι σ s):interactive env=false:=by simp [interactive,I.frm.kind]
theorem Yba.expr {X:XS}{Q:QS}{e:Expr}{pos}(q:Yal T d sc ρ X e (fun zz σ'=>Q .next ρ σ') σ) (hc:Ye3 e=true):Yba T d sc ρ X (.Expr e pos) Q σ:=by
 intro env A fs F ι s hsc I
 refine wpAny_Expr_any (Zib (q env A fs F ι s hsc I) (fun x s₁ p=>?_) fun zz zz p=>p.sx I fun zz zz k=>k) I.inter (Yfh hc)
 obtain ⟨v,σ₁,ι₁,q,rv,rp,ex,g,o⟩:=p
 exact ⟨.next,ρ,σ₁,ι₁,q,.next,I.ext ex rp g o,ex.up⟩
theorem Yba.ite {X:XS}{Q:QS}{e:Expr}{b o:List Stmt}{pos}(q:Ydx T d sc ρ X e (fun t σ'=>if t then Yeg T d sc ρ X b Q σ' else Yeg T d sc ρ X o Q σ') σ):Yba T d sc ρ X (.If e b o pos) Q σ:=by
 intro env A fs F ι s hsc I
 refine wpAny_If (Zib (q env A fs F ι s hsc I) (fun t s₁ p=>?_) fun zz zz p=>p.sx I fun zz zz k=>k)
 obtain ⟨σ₁,ι₁,q,rp,ex,g,o⟩:=p
 have I₁:=I.ext ex rp g o
 cases t
 · exact Zib (q env A fs F ι₁ s₁ hsc I₁) (fun zz zz p=>p.trans ex.up) fun zz zz p=>p.trans ex.up
 · exact Zib (q env A fs F ι₁ s₁ hsc I₁) (fun zz zz p=>p.trans ex.up) fun zz zz p=>p.trans ex.up
noncomputable def Yiq (h h':Heap):Prop:=∀ a o es ep,h.get? a=some o→o.data=.dict es ep→∃ o' es' ep',h'.get? a=some o'∧o'.data=.dict es' ep'
noncomputable def Yao (sc:Scope) (x:Str):Bool:=match sc.names.lookup x with
 | some .local | some .cell=>true
 | z1=>false
theorem Yd2 {sc:Scope}{x:Str}(h:Yao sc x=true):sc.names.lookup x=some .local∨sc.names.lookup x=some .cell:=by
 unfold Yao at h
 generalize sc.names.lookup x=o at h ⊢
 rcases o with zz | k
 · exact (Zv h).elim
 · cases k <;> first | exact .inl rfl | exact .inr rfl | exact (Zv h).elim
theorem Yml {sc:Scope}{x:Str}(h:sc.names.lookup x=some .local∨sc.names.lookup x=some .cell):Yao sc x=true:=by
 unfold Yao; rcases h with h | h <;> rw [h]
theorem Yo4 {M:Model}{A:Around}{E:Value→Shared→Prop}{x:Str}{c:Addr}{o:Obj}{v₀:Option Value}{y:Value}{Q:Unit→Shared→Prop}(hk:env.scope.kind=.function) (hl:env.kindOf x=some .cell) (hc:env.cells.lookup x=some c)
   (ho:s.heap.get? c=some o) (hd:o.data=.cell v₀) (k:∀ h',h'.get? c=some { o with data:=.cell (some y) }→Heap.SameBut c s.heap h'→Q () { s with heap:=h' }):wpAny M A (storeName env x y) Q E s:=by
 unfold storeName
 rw [hl,hk]
 refine Zhb (wpAny_cellOf hc ?_)
 unfold cellSet
 refine Zhb (wpAny_load ho ?_)
 rw [hd]
 exact wpAny_update ho (k _ (Heap.get?_update_self _ ho rfl) (Heap.SameBut.update ..))
theorem Frm.at1 {a:Addr}{o:Obj}(H:Frm T env F ρ ι h) (ha:a∈F) (ho:h.get? a=some o):Yax o=false∧itr o=false:=(H.there a ha).at ho
structure Yps (F:List Addr) (h h':Heap) (a:Addr) (o o':Obj):Prop where
 mem:a∈F
 get:h.get? a=some o
 get':h'.get? a=some o'
 cls:o'.cls=o.cls
 same:Heap.SameBut a h h'
section
variable {h':Heap}{a:Addr}{o o':Obj}
theorem Yps.ext (x:Yps F h h' a o o') (H:Frm T env F ρ ι h):Ext T F ι h ι h':=.of_sameBut x.same x.get x.get' x.cls (H.at1 x.mem x.get).1 (.inr x.mem)
theorem Yps.rep (x:Yps F h h' a o o') (R:Rep T ι σ h) (H:Frm T env F ρ ι h):Rep T ι σ h' :=
 R.keeps (x.ext H).mono (x.ext H).size (fun b z hz=>(x.same.2 b fun q=>absurd (Zu hz) (Zo.mpr (q▸(H.apart a x.mem).2))).trans (R.base b z hz)) fun b hb z hz=>(x.same.2 b fun q=>(H.apart a x.mem).1 (q▸hb)).trans hz
theorem Yps.there (x:Yps F h h' a o o') (H:Frm T env F ρ ι h):∀ b∈F,Yjr h' b:=fun b hb =>
 if q:b=a then ⟨o',q▸x.get',(Yh8 x.cls).trans (H.at1 x.mem x.get).1,(Yry x.cls).trans (H.at1 x.mem x.get).2⟩ else (H.there b hb).rec fun z g1 g2 g3=>⟨z,(x.same.2 b q).trans g1,g2,g3⟩
theorem Yps.stay (x:Yps F h h' a o o') (hd:∀ es ep,o.data=.dict es ep→∃ es' ep',o'.data=.dict es' ep'):Yiq h h':=fun b z es ep hz hzd =>
 if q:b=a then Zh (hd es ep (Zab (x.get.symm.trans (q▸hz))▸hzd)) fun es' g=>Zh g fun ep' g=>⟨o',es',ep',q▸x.get',g⟩ else ⟨z,es,ep,(x.same.2 b q).trans hz,hzd⟩
end
theorem Yny {x:Str}{v:Option V}:upd ρ x v x=v:=if_pos rfl
theorem Yiy {x z:Str}{v:Option V}(h:z≠x):upd ρ x v z=ρ z:=if_neg h
theorem Ycz.upd {x z:Str}{v:V}{y:Value}{m:Option Value}(r:Yar T ι h v y) (k:Ycz T ι h (ρ z) m):Ycz T ι h (Mine.upd ρ x (some v) z) (if z=x then some y else m) :=
 if q:z=x then by rw [q,Yny,if_pos rfl]; exact .some r else by rw [Yiy q,if_neg q]; exact k
theorem Frm.locTurn {h':Heap}{x:Str}{v:Option V}{c:String}{m m':Str→Option Value}(R:Rep T ι σ h) (H:Frm T env F ρ ι h) (hk:env.kindOf x=some .local) (hc:Yvm env c) (hn:NsC h env.locals c m) (hn':NsC h' env.locals c m') (hs:Heap.SameBut env.locals h h')
   (hm:∀ z,env.kindOf z=some .local→Yd7 ι h ι h'→Ycz T ι h' (upd ρ x v z) (m' z)):Rep T ι σ h'∧Frm T env F (upd ρ x v) ι h'∧Ext T F ι h ι h'∧Yiq h h':=by
 obtain ⟨o,es,ep,ho,ocl,zz⟩:=hn
 obtain ⟨o',es',ep',ho',ocl',zz,od',zz⟩:=id hn'
 have tn:Yps F h h' env.locals o o':=⟨H.loc,ho,ho',ocl'.trans ocl.symm,hs⟩
 have e:=tn.ext H
 refine ⟨tn.rep R H,⟨H.kind,H.glb,H.blt,⟨c,_,hc,hn',fun z hz=>hm z hz e.mono⟩,fun z hz=>?_,H.inj,H.loc,H.cin,H.apart,tn.there H⟩,e,tn.stay fun zz zz zz=>⟨_,_,od'⟩⟩
 obtain ⟨cc,oc,vc,e1,e2,e3,e4,e5,e6⟩:=H.cells z hz
 have ne:cc≠env.locals:=fun q=>by
   rw [q,ho] at e2; rw [← Yai e2,ocl] at e3
   rcases hc.1 with q | q <;> rw [q] at e3 <;> exact absurd (Value.type.inj e3) (by decide)
 have ne2:z≠x:=fun q=>by rw [q,hk] at hz; rcases hz with hz | hz <;> cases hz
 exact ⟨cc,oc,vc,e1,(hs.2 cc ne).trans e2,e3,e4,Yiy ne2▸e5.mono e.mono,e6⟩
theorem Yjz {M:Model}{A:Around}{E:Value→Shared→Prop}{x:Str}{v:V}{y:Value}{Q:Unit→Shared→Prop}(R:Rep T ι σ s.heap) (H:Frm T env F ρ ι s.heap) (hk:env.kindOf x=some .local) (r:Yar T ι s.heap v y)
   (k:∀ h' t,Rep T ι σ h'→Frm T env F (upd ρ x (some v)) ι h'→Ext T F ι s.heap ι h'→Yiq s.heap h'→(∃ a,Heap.SameBut a s.heap h'∧(a=env.locals∨(env.kindOf x=some .cell∧env.cells.lookup x=some a)))→Q () { s with heap:=h',toks:=t }):wpAny M A (storeName env x y) Q E s:=by
 obtain ⟨c,m,hc,hn,hr⟩:=H.ns
 rw [storeName_local hk (by rw [H.kind]; rfl)]
 refine Yr3 hn fun h' hn' hs=>?_
 refine (H.locTurn R hk hc hn hn' hs fun z hz mo=>.upd (r.mono mo) ((hr z hz).mono mo)).elim fun R' h9=>Yh5 h9 fun H' e ds=>?_
 exact k h' _ R' H' e ds ⟨env.locals,hs,.inl rfl⟩
theorem Yl1 {M:Model}{A:Around}{E:Value→Shared→Prop}{x:Str}{v:V}{y:Value}{Q:Unit→Shared→Prop}(R:Rep T ι σ s.heap) (H:Frm T env F ρ ι s.heap) (hk:env.kindOf x=some .cell) (r:Yar T ι s.heap v y)
   (k:∀ h' t,Rep T ι σ h'→Frm T env F (upd ρ x (some v)) ι h'→Ext T F ι s.heap ι h'→Yiq s.heap h'→(∃ a,Heap.SameBut a s.heap h'∧(a=env.locals∨(env.kindOf x=some .cell∧env.cells.lookup x=some a)))→Q () { s with heap:=h',toks:=t }):wpAny M A (storeName env x y) Q E s:=by
 obtain ⟨c,m,hc,hn,hr⟩:=H.ns
 obtain ⟨cc,oc,vc,e1,e2,e3,e4,e5,e6⟩:=H.cells x (.inl hk)
 refine Yo4 H.kind hk e1 e2 e4 fun h' ho' hs=>?_
 have tn:Yps F s.heap h' cc oc { oc with data:=.cell (some y) }:=⟨H.cin x cc hk e1,e2,ho',rfl,hs⟩
 have e:=tn.ext H
 have lne:env.locals≠cc:=fun q=>by
   obtain ⟨o,es,ep,ho,zz,zz,od,zz⟩:=id hn
   rw [q,e2] at ho; rw [← Yai ho,e4] at od; cases od
 refine k h' _ (tn.rep R H) ⟨H.kind,H.glb,H.blt,⟨c,m,hc,hn.sameBut hs lne,fun z hz=>?_⟩,fun z hz=>?_,H.inj,H.loc,H.cin,H.apart,tn.there H⟩ e (tn.stay fun zz zz q=>by rw [e4] at q; cases q) ⟨cc,hs,.inr ⟨hk,e1⟩⟩
 · have ne:z≠x:=fun q=>by rw [q,hk] at hz; cases hz
   exact Yiy ne▸(hr z hz).mono e.mono
 · by_cases q:z=x
   · exact ⟨cc,_,some y,q▸e1,ho',e3,rfl,by rw [q,Yny]; exact .some (r.mono e.mono),e6⟩
   · obtain ⟨c2,o2,v2,f1,f2,f3,f4,f5,f6⟩:=H.cells z hz
     have ne:c2≠cc:=fun p=>q (H.inj z x c2 hz (.inl hk) f1 (p▸e1))
     exact ⟨c2,o2,v2,f1,(hs.2 c2 ne).trans f2,f3,f4,Yiy q▸f5.mono e.mono,f6⟩
theorem Yha {M:Model}{A:Around}{E:Value→Shared→Prop}{x:Str}{v:V}{y:Value}{Q:Unit→Shared→Prop}(R:Rep T ι σ s.heap) (H:Frm T env F ρ ι s.heap) (hk:Yao env.scope x=true) (r:Yar T ι s.heap v y)
   (k:∀ h' t,Rep T ι σ h'→Frm T env F (upd ρ x (some v)) ι h'→Ext T F ι s.heap ι h'→Yiq s.heap h'→(∃ a,Heap.SameBut a s.heap h'∧(a=env.locals∨(env.kindOf x=some .cell∧env.cells.lookup x=some a)))→Q () { s with heap:=h',toks:=t }):wpAny M A (storeName env x y) Q E s :=
 (Yd2 hk).elim (fun e=>Yjz R H e r k) fun e=>Yl1 R H e r k
theorem Yfk {M:Model}{A:Around}{E:Value→Shared→Prop}{x:Str}{v:V}{y:Value}{Q:Unit→Shared→Prop}(R:Rep T ι σ s.heap) (H:Frm T env F ρ ι s.heap) (hk:Yao env.scope x=true) (r:Yar T ι s.heap v y)
   (k:∀ h' t,Rep T ι σ h'→Frm T env F (upd ρ x (some v)) ι h'→Ext T F ι s.heap ι h'→Yiq s.heap h'→Q () { s with heap:=h',toks:=t }):wpAny M A (storeName env x y) Q E s :=
 Yha R H hk r fun h' t R' H' e ds zz=>k h' t R' H' e ds
theorem Inv.stored {ρ':Loc}{h':Heap}{t:Nat}(I:Inv T A fs d env F ρ ι σ s) (R:Rep T ι σ h') (H:Frm T env F ρ' ι h') (e:Ext T F ι s.heap ι h') (ds:Yiq s.heap h'):Inv T A fs d env F ρ' ι σ { s with heap:=h',toks:=t } :=
 ⟨R,I.aok.ext e (fun en hen L hf zz=>by
   obtain ⟨zz,L',o,es,ep,f,zz,zz,g,zz,dd⟩:=I.aok.funs en hen
   rw [hf] at f; cases f
   exact ds L o es ep g dd) (fun a ha=>(by obtain ⟨o,g,_,gi⟩:=I.frm.there a ha; exact ⟨o,g,gi⟩)),H,I.top,I.gens,I.os⟩
theorem Yba.assign {X:XS}{Q:QS}{x:Str}{pos' pos:Pos}{e:Expr}(q:Yal T d sc ρ X e (fun v σ'=>Q .next (upd ρ x (some v)) σ') σ) (hc:Ye3 e=true) (hk:Yao sc x=true) :
   Yba T d sc ρ X (.Assign [.Name x pos'] e pos) Q σ:=by
 intro env A fs F ι s hsc I
 refine wpAny_Assign_Name (Zib (q env A fs F ι s hsc I) (fun y s₁ p=>?_) fun zz zz p=>p.sx I fun zz zz k=>k) (Yfh hc)
 obtain ⟨v,σ₁,ι₁,q,rv,rp,ex,g,o⟩:=p
 have I₁:=I.ext ex rp g o
 refine Yfk I₁.rep I₁.frm (hsc▸hk) rv fun h' t R' H' e' ds=>?_
 exact ⟨.next,_,σ₁,ι₁,q,.next,I₁.stored R' H' e' ds,ex.up.trans e'⟩
end
end
section
noncomputable def Ycf (ρ:Loc):List Str→List V→Loc
 | p::ps,v::vs=>Ycf (upd ρ p (some v)) ps vs
 | z1,z2=>ρ
noncomputable def Yoa (sc:Scope):Bool:=sc.names.all fun p=>p.2 != .free
inductive Yu0 (T:Tp) (v:Value) (ps:List Str) (body:List Stmt) (sc:Scope):Prop where
 | mk (f:Addr) (o:Obj) (fd:FuncData) (h0:v=.ref f) (ho:T.K.lookup f=some o) (hd:o.data=.func fd) (hs:fd.scope=sc) (hbody:fd.body=.stmts body) (hclo:fd.closure=[]) (hg:fd.globals=mainGlobals) (hbu:fd.builtins=builtinsNs) (hcd:PySem.W.codeIn T.K fd.code fd.qualname=true)
     (hbind:∀ vals:List Value,vals.length=ps.length→bindArgs fd ⟨vals,[]⟩=pure (ps.zip vals)) (co:sc.isCoroutine=false) (gen:sc.isGenerator=false) (kind:sc.kind=.function) (par:(ps.all fun p=>Yao sc p)=true) (free:Yoa sc=true):Yu0 T v ps body sc
noncomputable def Yk2:List Str→Bool
 | []=>true
 | x::r => !r.contains x && Yk2 r
theorem Ygy {n:Str}:∀ {ps:List Str}{vs:List Value},vs.length=ps.length→n∈ps→((ps.zip vs).lookup n).isNone=false
 | p::ps,v::vs,hl,hn=>by
   rw [List.zip_cons_cons,List.lookup_cons]
   cases h:n == p
   · exact Ygy (Nat.succ.inj hl) ((Zg.mp hn).resolve_left fun e=>by rw [e,beq_self_eq_true] at h; cases h)
   · rfl
 | p::ps,[],hl,z1=>(by cases hl)
theorem Yt6 {α β:Type}{f g:α→Option β}:∀ {l:List α},(∀ x∈l,f x=g x)→l.filterMap f=l.filterMap g:=by
 intro xx
 induction xx with
 | nil =>
   intro z1
   exact rfl
 | cons x r ih =>
   intro h
   rw [List.filterMap_cons,List.filterMap_cons,h x Zt,ih fun y hy=>h y (Zd _ hy)]
theorem Ykv:∀ {ps:List Str}{vs:List Value},vs.length=ps.length→Yk2 ps=true→ps.filterMap (fun n=>((ps.zip vs).lookup n).map (n,·))=ps.zip vs
 | [],z1,z2,z3=>rfl
 | p::ps,[],hl,z1=>(by cases hl)
 | p::ps,v::vs,hl,hn=>by
   have h:=Bool.and_eq_true_iff.mp hn
   have hp:p∉ps:=fun q=>by have:=h.1; rw [List.contains_iff_mem.mpr q] at this; cases this
   rw [List.zip_cons_cons,List.filterMap_cons_some (b:=(p,v)) (by rw [List.lookup_cons,beq_self_eq_true]; rfl)]
   refine congrArg ((p,v) :: ·) (.trans (Yt6 fun n hn=>?_) (Ykv (Nat.succ.inj hl) h.2))
   have ne:(n == p)=false:=Zmc.mpr fun e=>hp (e▸hn)
   rw [List.lookup_cons,ne]
theorem Ylm {fd:FuncData}{as:List Arg}{kd:List (Option Expr)}{df:List Expr}{vals:List Value}(hp:fd.params=⟨[],as,none,[],kd,none,df⟩) (hd:fd.defaults=.none) (hn:Yk2 (as.map Arg.arg)=true) (hl:vals.length=(as.map Arg.arg).length) :
   bindArgs fd ⟨vals,[]⟩=pure ((as.map Arg.arg).zip vals):=by
 have e1:((as.map Arg.arg).filter fun n=>(((as.map Arg.arg).zip vals).lookup n).isNone)=[]:=List.filter_eq_nil_iff.mpr fun n h=>by rw [Ygy hl h]; exact Zv
 have e2:=Ykv hl hn
 obtain ⟨nm,qn,pr,bd,sc,g,clo,dfl,kdf,doc,pm,an,code,ct,bu⟩:=fd
 cases hp; cases hd
 have n1:¬ (decide (vals.length > (as.map Arg.arg).length) && (none:Option Arg).isNone)=true:=by rw [hl,Zrc (Zub _)]; exact Zv
 have n2:¬ (!(List.filter (fun n=>(List.lookup n ((as.map Arg.arg).zip vals)).isNone) (List.take ((as.map Arg.arg).length - (List.drop (([]:List Value).length - (as.map Arg.arg).length) ([]:List Value)).length) (as.map Arg.arg))).isEmpty)=true:=by
   rw [List.drop_nil]; show ¬ (!(List.filter _ (List.take (as.map Arg.arg).length (as.map Arg.arg))).isEmpty)=true; rw [Zgc,e1]; exact Zv
 have n3:∀ {α:Type}{f:List (Str×Value)→Sem α}{g:Str×Value→List (Str×Value)→Sem (ForInStep (List (Str×Value)))}{k m:Nat},((forIn ((List.drop k (as.map Arg.arg)).zip (List.drop m ([]:List Value))) ((as.map Arg.arg).zip vals) g:Sem _) >>= f)=f ((as.map Arg.arg).zip vals):=fun {zz f g k m}=>by rw [List.drop_nil,List.zip_nil_right]; rfl
 show (if (decide (vals.length > (as.map Arg.arg).length) && (none:Option Arg).isNone)=true then _ else _)=_
 refine (if_neg n1).trans ?_
 show (if (!(List.filter (fun n=>(List.lookup n ((as.map Arg.arg).zip vals)).isNone) (List.take ((as.map Arg.arg).length - (List.drop (([]:List Value).length - (as.map Arg.arg).length) ([]:List Value)).length) (as.map Arg.arg))).isEmpty)=true then _ else _)=_
 refine (if_neg n2).trans ?_
 show ((forIn ((List.drop _ (as.map Arg.arg)).zip (List.drop _ ([]:List Value))) ((as.map Arg.arg).zip vals) _:Sem _) >>= _)=_
 refine n3.trans ?_
 show (pure (((as.map Arg.arg)++[]).filterMap fun n=>(((as.map Arg.arg).zip vals).lookup n).map (n,·)):Sem _)=_
 rw [Zlc,e2]
noncomputable def Yrz (ps:List Str) (sc:Scope):Bool:=(!sc.isCoroutine && !sc.isGenerator) && ((sc.kind == .function && (ps.all fun p=>Yao sc p)) && (Yoa sc && Yes sc))
noncomputable def Yno (p:Arguments):Bool:=(p.posonlyargs.isEmpty && p.vararg.isNone) && (p.kwonlyargs.isEmpty && p.kwarg.isNone)
noncomputable def Yso:FuncBody→Option (List Stmt)
 | .stmts b=>some b
 | z1=>none
noncomputable def Yyx (K:PySem.W.Frag):FuncData→Option (List Str×List Stmt×Scope)
 | ⟨z1,qual,pr,bd,sc,g,clo,dfl,z2,z3,z4,z5,code,z6,bu⟩ =>
   (Yso bd).bind fun body=>bif ((g == mainGlobals && bu == builtinsNs) && ((clo.isEmpty && dfl == .none) && Yno pr)) && (PySem.W.codeIn K code qual && (Yk2 (pr.args.map (·.arg)) && Yrz (pr.args.map (·.arg)) sc)) then some (pr.args.map (·.arg),body,sc) else none
theorem Yka {p:Arguments}(h:Yno p=true):p=⟨[],p.args,none,[],p.kw_defaults,none,p.defaults⟩:=by
 obtain ⟨po,as,va,ko,kd,kw,df⟩:=p
 have h:=Bool.and_eq_true_iff.mp h
 cases List.isEmpty_iff.mp (Bool.and_eq_true_iff.mp h.1).1; cases Option.isNone_iff_eq_none.mp (Bool.and_eq_true_iff.mp h.1).2
 cases List.isEmpty_iff.mp (Bool.and_eq_true_iff.mp h.2).1; cases Option.isNone_iff_eq_none.mp (Bool.and_eq_true_iff.mp h.2).2
 rfl
theorem Ymc {b:FuncBody}{x:List Stmt}(h:Yso b=some x):b=.stmts x:=by
 cases b <;> first | exact (Yap h).elim | exact congrArg _ (Yai h)
theorem Yo6 {α:Type}{c:Bool}{a x:α}(h:(bif c then some a else none)=some x):c=true∧a=x:=by
 cases c
 · exact (Yap h).elim
 · exact ⟨rfl,Yai h⟩
noncomputable def Yv6 (K:PySem.W.Frag):Data→Option (List Str×List Stmt×Scope)
 | .func fd=>Yyx K fd
 | z1=>none
noncomputable def Ywl (K:PySem.W.Frag):Value→Option (List Str×List Stmt×Scope)
 | .ref f=>(K.lookup f).bind fun o=>Yv6 K o.data
 | z1=>none
theorem Yrf {T:Tp}{f:Addr}{o:Obj}{fd:FuncData}{r:List Str×List Stmt×Scope}(ho:T.K.lookup f=some o) (hd:o.data=.func fd) (h:Yyx T.K fd=some r):Yu0 T (.ref f) r.1 r.2.1 r.2.2∧Yes r.2.2=true:=by
 refine (Option.bind_eq_some_iff.mp h).elim fun body h9=>h9.elim fun h0 h=>?_
 obtain ⟨hb,h⟩:=Yo6 h
 rw [← h]
 unfold Yrz at hb
 simp only [Zob,Bool.not_eq_true',beq_iff_eq] at hb
 obtain ⟨⟨⟨h1,h2⟩,⟨hc,hn⟩,hp⟩,h3,h4,⟨h5,h6⟩,⟨h7,h8⟩,h9,h10⟩:=hb
 exact ⟨⟨_,o,fd,rfl,ho,hd,rfl,Ymc h0,List.isEmpty_iff.mp hc,h1,h2,h3,fun vals hl=>Ylm (Yka hp) hn h4 hl,h5,h6,h7,h8,h9⟩,h10⟩
theorem Yeh {T:Tp}{v:Value}{ps:List Str}{body:List Stmt}{sc:Scope}(h:Ywl T.K v=some (ps,body,sc)):Yu0 T v ps body sc∧Yes sc=true:=by
 cases v <;> first | exact (Yap h).elim | skip
 obtain ⟨o,ho,h⟩:=Option.bind_eq_some_iff.mp h
 generalize hd:o.data=dt at h
 cases dt <;> first | exact (Yap h).elim | exact Yrf ho hd h
noncomputable def FnV (T:Tp) (f:V) (ps:List Str) (body:List Stmt) (sc:Scope):Prop:=∀ ι h fv,Yar T ι h f fv→Yu0 T fv ps body sc
theorem FnV.glob {T:Tp}{x:Str}{v:Value}{ps body sc}(e:T.g x=some v) (h:Yu0 T v ps body sc):FnV T (.glob x) ps body sc:=fun zz zz fv r=>by
 cases e.symm.trans r; exact h
theorem FnV.mth {T:Tp}{c x:Str}{v:Value}{ps body sc}(e:T.m c x=some v) (h:Yu0 T v ps body sc):FnV T (.mth c x) ps body sc:=fun zz zz fv r=>by
 cases e.symm.trans r; exact h
noncomputable def Yt7 (Q:QE):QS:=fun fl zz σ=>match fl with | .ret v=>Q v σ | _=>Q .none σ
theorem Yee:∀ (names:List (Str×NameKind)) (h:Heap) (c:Addr) (o:Obj),(pushCells h names).get? c=some o→h.objs.size≤c→o.cls=.type "cell":=by
 intro xx
 induction xx with
 | nil =>
   intro h c o e hl
   exact absurd (Zu e) (Zo.mpr hl)
 | cons pp r ih =>
   obtain ⟨z1,kind⟩:=pp
   intro h c o e hl
   unfold pushCells at e
   split at e
   · by_cases q:c=h.objs.size
     · subst q
       rw [pushCells_keeps r _ _ _ (Zsc h rfl)] at e
       cases e; rfl
     · exact ih _ c o e (by rw [Zqb]; exact Nat.lt_of_le_of_ne hl (Ne.symm q))
   · exact ih h c o e hl
theorem Yd0:∀ (names:List (Str×NameKind)) (h:Heap),h.objs.size≤(pushCells h names).objs.size:=by
 intro xx
 induction xx with
 | nil =>
   intro z1
   exact Zl _
 | cons pp r ih =>
   obtain ⟨z1,kind⟩:=pp
   intro h
   unfold pushCells
   split
   · exact Za (by rw [Zqb]; exact Zq (Zs h.objs.size)) (ih _)
   · exact ih h
theorem Yhb:∀ (names:List (Str×NameKind)) (n:Nat) (acc:List (Str×Addr)) (x:Str×Addr),x∈acc→x∈cellsFrom n names acc:=by
 intro xx
 induction xx with
 | nil =>
   intro z1 z2 z3 h
   exact h
 | cons pp r ih =>
   obtain ⟨z1,kind⟩:=pp
   intro n acc x h
   unfold cellsFrom
   split
   · exact ih _ _ x (Zd _ h)
   · exact ih _ _ x h
theorem Yd9:∀ (names:List (Str×NameKind)) (n:Nat) (acc:List (Str×Addr)) (x:Str),(x,NameKind.cell)∈names→∃ c,(x,c)∈cellsFrom n names acc:=by
 intro xx
 induction xx with
 | nil=>intros; contradiction
 | cons pp r ih =>
   obtain ⟨y,kind⟩:=pp
   intro n acc x h
   unfold cellsFrom
   rcases Zg.mp h with e | h
   · cases e
     exact ⟨n,Yhb r _ _ _ (by simp)⟩
   · split
     · exact ih _ _ x h
     · exact ih _ _ x h
theorem Yb0 {α:Type}:∀ {l:List (Str×α)}{x:Str}{c:α},(x,c)∈l→∃ c',l.lookup x=some c':=by
 intro xx
 induction xx with
 | nil=>intros; contradiction
 | cons pp r ih =>
   obtain ⟨k,v⟩:=pp
   intro x c h
   rw [List.lookup_cons]
   cases hb:x == k with
   | true=>exact ⟨v,rfl⟩
   | false =>
     rcases Zg.mp h with e | h
     · cases e; simp at hb
     · exact ih h
section
variable {T:Tp}{A:Around}{fs:List Env}{d:Nat}{ι:Inj}{σ:Hp}{s:Shared}{sc:Scope}
theorem Yk0 {M:Model}{A:Around}{E:Value→Shared→Prop}{env:Env}{F:List Addr}(f:Str×Value→PUnit→Sem (ForInStep PUnit)) (hf:∀ n v u,f (n,v) u=(do storeName env n v; pure (.yield ⟨⟩))) :
   ∀ (ps:List Str) (vs:List V) (xs:List Value) (ρ:Loc) (s:Shared) (Q:PUnit→Shared→Prop),Rep T ι σ s.heap→Frm T env F ρ ι s.heap→VRels T ι s.heap vs xs→xs.length=ps.length→(ps.all fun p=>Yao env.scope p)=true →
     (∀ h' t,Rep T ι σ h'→Frm T env F (Ycf ρ ps vs) ι h'→Ext T F ι s.heap ι h'→Yiq s.heap h'→Q ⟨⟩ { s with heap:=h',toks:=t })→wpAny M A (forIn (ps.zip xs) ⟨⟩ f) Q E s
 | [],vs,xs,ρ,s,Q,R,H,r,hl,z1,k=>by
   cases xs with
   | nil =>
     cases vs with
     | nil=>rw [List.zip_nil_left,List.forIn_nil]; exact Zjb (k s.heap s.toks R H (.refl ..) fun a o es ep e q=>⟨o,es,ep,e,q⟩)
     | cons=>exact (show False from r).elim
   | cons=>simp at hl
 | p::ps,vs,xs,ρ,s,Q,R,H,r,hl,ha,k=>by
   cases xs with
   | nil=>simp at hl
   | cons x xs =>
     cases vs with
     | nil=>exact (show False from r).elim
     | cons v vs =>
       rw [List.zip_cons_cons,List.forIn_cons,hf]
       simp only [List.all_cons,Zob] at ha
       refine Zhb (Zhb (Yfk R H ha.1 r.1 fun h' t R' H' e' ds=>Zjb ?_))
       refine Yk0 f hf ps vs xs _ _ Q R' H' (r.2.mono e'.mono) (by simpa using hl) (by simpa using ha.2) fun h'' t' R'' H'' e'' ds'=>?_
       exact k h'' t' R'' H'' (e'.trans e'') fun a o es ep e q=>by
         refine ex3 (ds a o es ep e q) fun o₁ es₁ ep₁ h9=>h9.elim fun g gd=>?_
         exact ds' a o₁ es₁ ep₁ g gd
theorem Ynk {L:Addr}{qual:Str}{func:Option Addr}{code:Value}(R:Rep T ι σ s.heap) (hL:L=s.heap.objs.size) (hk:sc.kind=.function) (hf:Yoa sc=true) (h₁:Heap) (hh:h₁=pushCells (s.heap.push { cls:=.type "frame",data:=.dict #[] }) sc.names)
   (env:Env) (he:env=newEnv sc L mainGlobals (cellsFrom (L+1) sc.names []) qual func code none builtinsNs) :
   ∃ F,(∀ a∈F,s.heap.objs.size≤a)∧Rep T ι σ h₁∧Frm T env F (fun zz=>none) ι h₁∧Ext T F ι s.heap ι h₁∧(∃ o,h₁.get? L=some o∧o.cls=.type "frame" ∧ o.data=.dict #[] 0):=by
 subst hh he hL
 have ok:=cellsFrom_ok sc.names (s.heap.push { cls:=.type "frame",data:=.dict #[] }) (s.heap.objs.size+1) [] ⟨fun zz zz hm=>((by cases hm)),List.Pairwise.nil⟩ (by rw [Zqb]; exact Zl _)
 rw [Zqb] at ok
 have keep:∀ b o,s.heap.get? b=some o→(pushCells (s.heap.push { cls:=.type "frame",data:=.dict #[] }) sc.names).get? b=some o:=fun b o e=>pushCells_keeps _ _ b o (Zx _ e)
 have hsz:s.heap.objs.size≤(pushCells (s.heap.push { cls:=.type "frame",data:=.dict #[] }) sc.names).objs.size:=Za (by rw [Zqb]; (clear ok keep; exact Zq (Zs s.heap.objs.size))) (Yd0 _ _)
 have hL:=pushCells_keeps sc.names (s.heap.push { cls:=.type "frame",data:=.dict #[] }) _ _ (Zsc s.heap rfl)
 have no:∀ a,s.heap.objs.size≤a→a∉own ι:=fun a ha q=>absurd (R.own_lt q) (Zo.mpr ha)
 have cellAt:∀ x c,(x,c)∈cellsFrom (s.heap.objs.size+1) sc.names []→s.heap.objs.size+1≤c∧∃ o,(pushCells (s.heap.push { cls:=.type "frame",data:=.dict #[] }) sc.names).get? c=some o∧o.cls=.type "cell" ∧ o.data=.cell none:=fun x c hm=>by
   obtain ⟨⟨o,g,gd⟩,hc⟩:=ok.empty x c hm
   exact ⟨hc,o,g,Yee _ _ c o g (by rw [Zqb]; exact hc),gd⟩
 refine ⟨s.heap.objs.size::(cellsFrom (s.heap.objs.size+1) sc.names []).map (·.2),fun a ha=>?_,R.grow hsz keep,?_,.of_keeps hsz keep,⟨_,hL,rfl,rfl⟩⟩
 · rcases Zg.mp ha with rfl | ha
   · exact Zl _
   · obtain ⟨⟨x,c⟩,hm,rfl⟩:=Zsb.mp ha
     exact Zkc (cellAt x c hm).1
 · refine ⟨hk,rfl,rfl,⟨"frame",fun zz=>none,⟨.inl rfl,fun q=>absurd rfl q⟩,⟨_,#[],0,hL,rfl,rfl,rfl,fun e he=>by simp at he,List.Pairwise.nil,fun zz=>rfl⟩,fun x zz=>.none⟩,fun x hx=>?_,fun x y c hx hy h1 h2=>name_of_addr ok.apart (mem_of_lookup h1) (mem_of_lookup h2),Zt,fun x c zz h=>Zd _ (Zsb.mpr ⟨(x,c),mem_of_lookup h,rfl⟩),fun a ha=>?_,fun a ha=>?_⟩
   · have hx':sc.names.lookup x=some .cell:=by
       rcases hx with hx | hx
       · exact hx
       · have:=List.all_eq_true.mp hf _ (mem_of_lookup (show sc.names.lookup x=some .free from hx))
         simp at this
     obtain ⟨c,hc⟩:=Yd9 sc.names (s.heap.objs.size+1) [] x (mem_of_lookup hx')
     obtain ⟨c',hc'⟩:=Yb0 hc
     obtain ⟨g1,o,g2,g3,g4⟩:=cellAt x c' (mem_of_lookup hc')
     exact ⟨c',o,none,hc',g2,g3,g4,.none,no c' (Zkc g1)⟩
   · have hs:s.heap.objs.size≤a:=by
       rcases Zg.mp ha with rfl | ha
       · exact Zl _
       · obtain ⟨⟨x,c⟩,hm,rfl⟩:=Zsb.mp ha
         exact Zkc (cellAt x c hm).1
     exact ⟨no a hs,Za R.size hs⟩
   · rcases Zg.mp ha with rfl | ha
     · exact ⟨_,hL,rfl,rfl⟩
     · obtain ⟨⟨x,c⟩,hm,rfl⟩:=Zsb.mp ha
       obtain ⟨zz,o,g2,g3,zz⟩:=cellAt x c hm
       exact ⟨o,g2,by simp [Yax,g3],Ynq g3 (by decide)⟩
end
end
section
section
variable {T:Tp}{A:Around}{fs:List Env}{d:Nat}{ι:Inj}{σ:Hp}{s:Shared}{sc:Scope}
theorem Ybh.touched {env:Env}{F:List Addr}{X:XS}{h:Heap}{ρ':Loc}{σ':Hp}{ι':Inj}{ea:Addr}{c:Str}{h':Heap}(x:X c σ') (hn:ea∉own ι') (I:Inv T A fs d env F ρ' ι' σ' s) (e:Ext T F ι h ι' s.heap) (f:Fly T h.objs.size ea c s.heap) (hb:T.b0.objs.size≤h.objs.size)
   (t:Ybt (frs fs) h.objs.size ea s.heap h'):Inv T A fs d env F ρ' ι' σ' { s with heap:=h' }∧Ext T F ι h ι' h':=by
 have hle:h.objs.size≤ea:=by obtain ⟨zz,zz,zz,zz,zz,q,zz⟩:=f; exact q
 exact ⟨I.touch t f hn hb hle,e.touch t (fun a ha=>(by obtain ⟨_,_,o,_,_,g,gc,_⟩:=I.aok.mem ha; exact ⟨o,g,gc⟩)) hle⟩
theorem Yg7 {env:Env}{F:List Addr}{X:XS}{h:Heap}{x:Value}{E:Value→Shared→Prop}{Q:Unit→Shared→Prop}(hb:T.b0.objs.size≤h.objs.size) (p:Ybh T A fs d env F X ι h x s)
   (k:∀ ea c ρ' σ' ι' h',x=.ref ea→X c σ'→Yop T h.objs.size ea c h'→ea∉own ι'→Inv T A fs d env F ρ' ι' σ' { s with heap:=h' }→Ext T F ι h ι' h'→Q () { s with heap:=h' }) :
   wpAny (model T.prog T.w) A (noteFrame x env) Q E s:=by
 obtain ⟨ea,c,ρ',σ',ι',rfl,b,f,n,I,e⟩:=p
 refine Yot I f e.size fun h' t f'=>?_
 obtain ⟨I',e'⟩:=Ybh.touched b n I e f hb t
 exact k ea c ρ' σ' ι' h' rfl b f' n I' e'
theorem Yl4 {env:Env}{F:List Addr}{X:XS}{h:Heap}{x:Value}{E:Value→Shared→Prop}{Q:Unit→Shared→Prop}(hb:T.b0.objs.size≤h.objs.size) (p:Ybh T A fs d env F X ι h x s)
   (k:∀ s',Ybh T A fs d env F X ι h x s'→Q () s'):wpAny (model T.prog T.w) A (leaving env x) Q E s:=by
 unfold leaving
 refine Zhb (Yg7 hb p fun ea c ρ' σ' ι' h' hx b f n I e=>?_)
 subst hx
 refine Ydb (S:=frs fs) f fun h'' t f'=>?_
 obtain ⟨I',e'⟩:=Ybh.touched b n I e f.fly hb t
 exact k _ ⟨ea,c,ρ',σ',ι',rfl,b,f'.fly,n,I',e'⟩
theorem Yj4 {env:Env}{F:List Addr}{X:XS}{h:Heap}{x:Value}(hb:T.b0.objs.size≤h.objs.size) (p:Ybh T A fs d env F X ι h x s) :
   notedBy (model T.prog T.w) A env (fun e s'=>cameBackBy (model T.prog T.w) A env (Ybh T A fs d env F X ι h) e s') x s:=by
 unfold notedBy
 refine Yg7 hb p fun ea c ρ' σ' ι' h' hx b f n I e=>?_
 subst hx
 unfold cameBackBy
 have f₀:=f
 obtain ⟨C,oe,vs,v,f1,f2,f3,f4,f5,f6,f7,f8,tb,ot,ts,rfl,zz⟩:=f
 refine Zhb (wpAny_field f3 f5 f8 ?_)
 rw [if_neg (by simp)]
 refine Ydb (S:=frs fs) f₀ fun h'' t f'=>?_
 obtain ⟨I',e'⟩:=Ybh.touched b n I e f₀.fly hb t
 exact ⟨ea,c,ρ',σ',ι',rfl,b,f'.fly,n,I',e'⟩
noncomputable def Yb5 (T:Tp) (d:Nat) (X:QX) (f:V) (args:List V) (Q:QE) (σ:Hp):Prop :=
 ∀ A fs ι s fv xs,St T A fs d ι σ s→Yar T ι s.heap f fv→VRels T ι s.heap args xs→codeAny (model T.prog T.w) A (.call fv ⟨xs,[]⟩)
   (fun r s'=>match r with | .ok (.ret v)=>Ybb T [] Q ι s.heap v s' | .ok _=>False | .error e=>Yav T [] X ι s.heap e s') s
theorem Yb5.call {f:V}{args:List V}{Q:QE}{X:QX}(h:Yb5 T d X f args Q σ):Yaa T d X f args Q σ:=fun A fs ι s fv xs S rf rxs=>wpAny_call (h A fs ι s fv xs S rf rxs)
set_option tactic.hygienic true in
theorem Yb5.fn {f:V}{ps:List Str}{body:List Stmt}{args:List V}{Q:QE}{X:QX}(TO:Yaf T) (hf:FnV T f ps body sc) (hl:args.length=ps.length)
   (hb:Yeg T d sc (Ycf (fun _=>none) ps args) X body (Yt7 Q) σ):Yb5 T (d+1) X f args Q σ:=by
 intro A fs ι s fv xs S rf rxs
 obtain ⟨fa,o,fd,rfl,ho,hd,rfl,hbody,hclo,hg,hbu,hcd,hbind,co,gen,kind,par,free⟩:=hf ι s.heap fv rf
 have X₁:=TO.X0.keeps S.rep.base
 refine codeAny_call_function (by have:=S.aok.depth; (clear hbind hl S; lia)) (X₁ _ _ ho) hd co gen hbody (PySem.W.codeRec_of X₁ hcd) ?_
 have hlen:xs.length=ps.length:=rxs.length.trans hl
 rw [hbind xs hlen,hclo,hg,hbu]
 refine Zjb ?_
 simp only [newFunctionEnv,Option.isSome_none,Bool.false_eq_true,if_false]
 refine Zhb (wpAny_alloc ?_)
 refine Zhb (wpAny_layCells _ (fun name kind cells=>by cases hkc:kind == NameKind.cell <;> simp [hkc]) _ _ _ _ ?_)
 rw [show ({ s with heap:=s.heap.push { cls:=.type "frame",data:=.dict #[] } }:Shared).heap.objs.size=s.heap.objs.size+1 from Zqb ..]
 refine (Ynk (T:=T) (L:=s.heap.objs.size) (sc:=fd.scope) (qual:=fd.qualname ++ ".<locals>.") (func:=some fa) (code:=fd.code) S.rep rfl kind free _ rfl _ rfl).elim fun F h=>Yzd h fun hF R₁ H₁ e₁ h=>h.elim fun oL h=>Yh5 h fun hoL hcL hdL=>?_
 have d0:A.depth+1+d≤recursionLimit:=Za (Zr (Nat.succ_add_eq_add_succ A.depth d)) S.aok.depth
 have u0:A.units+3+10*d+50≤cLine:=by have:=S.aok.units; clear hbind hl hlen hF R₁ H₁ e₁ hoL hdL; lia
 unfold newEnv at H₁
 generalize hE:({ scope:=fd.scope,locals:=s.heap.objs.size,globals:=mainGlobals,cells:=cellsFrom (s.heap.objs.size+1) fd.scope.names [],qual:=fd.qualname ++ ".<locals>.",func:=some fa,code:=fd.code,frame:=some s.heap.objs.size,builtins:=builtinsNs }:Env)=env at H₁ ⊢
 have fE:env.frame=some s.heap.objs.size:=hE▸rfl
 have sE:env.scope=fd.scope:=hE▸rfl
 refine Zhb (Yk0 (T:=T) (ι:=ι) (σ:=σ) (env:=env) (F:=F) _ (fun _ _ _=>rfl) ps args xs (fun _=>none) _ _ R₁ H₁ (rxs.mono e₁.mono) hlen (sE▸par) fun h₂ t R₂ H₂ e₂ ds=>Zjb ⟨?_,codeAny_func ?_⟩)
 · exact TO.lim.keeps R₂.base
 have e₃:=e₁.trans e₂
 clear e₁ H₁ R₁
 refine ex3 (ds _ _ _ _ hoL hdL) fun oL₂ es ep hL2=>(e₂.cls _ _ hoL (by simp [Yb6,hcL])).elim fun oL' hL'=>?_
 have hcL₂:oL₂.cls=.type "frame":=(congrArg Obj.cls (Yai (hL2.1.symm.trans hL'.1))).trans (hL'.2.trans hcL)
 clear hL' ds e₂ hoL hdL
 have no:∀ a,s.heap.objs.size≤a→a∉own ι:=fun a ha q=>absurd (S.rep.own_lt q) (Zo.mpr ha)
 have aok:AOk T (A.deeper env) (env::fs) d ι h₂ :=
   ⟨Around.frames_deeper S.aok.frames,fun e he=>(Zg.mp he).elim (fun q=>q▸⟨sE▸kind,s.heap.objs.size,oL₂,es,ep,fE,no _ (Zl _),S.rep.size,hL2.1,hcL₂,hL2.2⟩) fun he=>(S.aok.funs e he).rec fun k1 L' o' es' ep' f1 n1 b1 g1 c1 d1=>(e₃.frm L' o' g1 n1 fun q=>absurd (Zu g1) (Zo.mpr (hF L' q))).elim fun sl g2=>⟨k1,L',_,es',ep',f1,n1,b1,g2,c1,d1⟩,
     d0,u0,S.aok.hd,S.aok.hx.keep fun a o C e1 e2 e3=>⟨e₃.keep a o e1 e3 (fun q=>absurd (Zu e1) (Zo.mpr (hF a q))) (by rw [e2]; simp),e3⟩⟩
 have I:Inv T (A.deeper env) (env::fs) d _ F (Ycf (fun _=>none) ps args) ι σ { s with heap:=h₂,toks:=t }:=⟨R₂,aok,H₂,⟨env,fs,s.heap.objs.size,rfl,fE,fE⟩,S.gens,S.os⟩
 have dn:∀ {ι':Inj}{h':Heap},Ext T F ι s.heap ι' h'→Ext T [] ι s.heap ι' h':=fun e=>e.weaken fun a ha hlt=>absurd hlt (Zo.mpr (hF a ha))
 refine Zib (hb _ _ _ F ι _ sE I) (fun fl s' p=>?_) fun e s' p=>?_
 · exact p.rec fun fl' ρ' σ' ι' q r i ex=>by
     have ex':=dn (e₃.trans ex)
     induction r with
     | ret r=>exact ⟨_,σ',ι',q,r,i.rep,ex',i.gens,i.os⟩
     | _=>exact ⟨.none,σ',ι',q,.none_mk,i.rep,ex',i.gens,i.os⟩
 · refine Yl4 R₂.size p fun s'' p'=>?_
   obtain ⟨ea,c,ρ',σ',ι',rfl,b,f,n,i,ex⟩:=p'
   exact ⟨ea,c,σ',ι',rfl,b,f.lo e₃.size,n,i.rep,dn (e₃.trans ex),i.gens,i.os⟩
theorem Yaa.fn {f:V}{ps:List Str}{body:List Stmt}{args:List V}{Q:QE}{X:QX}(TO:Yaf T) (hf:FnV T f ps body sc) (hl:args.length=ps.length)
 (hb:Yeg T d sc (Ycf (fun zz=>none) ps args) X body (Yt7 Q) σ):Yaa T (d+1) X f args Q σ:=(Yb5.fn TO hf hl hb).call
end
end
section
structure Yx1 (P:Heap→Prop):Prop where
 upd:∀ h a f,(h.get? a).isSome=true→P h→P (h.update a f)
 new:∀ h o,P h→P (h.push o)
set_option tactic.hygienic true in
theorem Yfp {P:Heap→Prop}(K:Yx1 P) {M:Model}{Γ:Ctx}{p:Pos}{t:Sem Fin}{fs:List Frame}{s s':Shared}{e:End}(h:Runs M Γ p t fs s e s'):P s.heap→P s'.heap:=by
 induction h with
 | done | raise | yield=>exact id
 | update ho _ ih=>exact fun x=>ih (K.upd _ _ _ ho x)
 | alloc _ ih=>exact fun x=>ih (K.new _ _ x)
 | call _ _ i1 i2=>exact fun x=>i2 (i1 x)
 | resumeFresh _ _ _ _ i1 i2=>exact fun x=>i2 (i1 x)
 | resumeSuspended _ _ _ _ i1 i2=>exact fun x=>i2 (i1 x)
 | segRet _ _ i1 i2=>exact fun x=>i2 (i1 x)
 | segGen _ _ i1 i2=>exact fun x=>i2 (i1 x)
 | segSuspGen _ _ _ _ i1 i2=>exact fun x=>i2 (i1 x)
 | _=>assumption
set_option tactic.hygienic true in
theorem Yuo {P:Heap→Prop}(K:Yx1 P) {α:Type}{M:Model}{Γ:Ctx}:∀ (m:Sem α) (Q:α→Pos→Shared→Prop) (E:Value→Pos→Shared→Prop) (p:Pos) (s:Shared),P s.heap→Sem.wp M Γ m Q E p s →
   Sem.wp M Γ m (fun a p' s'=>Q a p' s'∧P s'.heap) (fun a p' s'=>E a p' s'∧P s'.heap) p s:=by
 intro m
 induction m with
 | pure a=>intro Q E p s hn h; exact ⟨h,hn⟩
 | raise e=>intro Q E p s hn h; exact ⟨h,hn⟩
 | unsupported=>intro Q E p s hn h; exact h
 | finish=>intro Q E p s hn h; exact h
 | update a part f k ih=>intro Q E p s hn h; exact ⟨h.1,ih () Q E p _ (K.upd _ _ _ h.1 hn) h.2⟩
 | alloc o k ih=>intro Q E p s hn h; exact ih _ Q E p _ (K.new _ _ hn) h
 | load a part k ih=>intro Q E p s hn h; obtain ⟨o,ho,h⟩:=h; exact ⟨o,ho,ih o Q E p s hn h⟩
 | call c hh g l k ih=>intro Q E p s hn h; obtain ⟨r,s',hr,h⟩:=h; exact ⟨r,s',hr,ih r Q E p s' (Yfp K hr hn) h⟩
 | choose src m k ih=>intro Q E p s hn h; exact ⟨h.1,ih _ Q E p _ hn h.2⟩
 | genState g k ih=>intro Q E p s hn h; obtain ⟨st,hs,h⟩:=h; exact ⟨st,hs,ih _ Q E p s hn h⟩
 | resume g r l k ih =>
   intro Q E p s hn h
   obtain ⟨res,s',hw,h⟩:=h
   refine ⟨res,s',hw,ih _ Q E p s' ?_ h⟩
   unfold Wakes at hw
   split at hw
   · exact hw.elim
   · split at hw
     · obtain ⟨e₁,s₁,hr,_,_,rfl⟩:=hw; exact (Yfp K hr hn :)
     · rw [hw.2]; exact hn
     · rw [hw.2]; exact hn
   · obtain ⟨e₁,s₁,hr,_,_,rfl⟩:=hw; exact (Yfp K hr hn :)
   · rw [hw.2]; exact hn
   · rw [hw.2]; exact hn
 | await=>intro Q E p s hn h; exact h.elim
 | register=>intro Q E p s hn h; exact h
 | yield=>intro Q E p s hn h; exact h
 | fork=>intro Q E p s hn h; exact h
 | _=>rename_i ih; intro Q E p s hn h; exact ih _ Q E _ _ hn h
theorem Ygr {P:Heap→Prop}(K:Yx1 P) {α:Type}{M:Model}{A:Around}{m:Sem α}{Q:α→Shared→Prop}{E:Value→Shared→Prop}{s:Shared}(hn:P s.heap) (h:wpAny M A m Q E s) :
 wpAny M A m (fun a s'=>Q a s'∧P s'.heap) (fun a s'=>E a s'∧P s'.heap) s:=fun Γ p hΓ=>Yuo K m _ _ p s hn (h Γ p hΓ)
theorem Yb1 {α:Type}{M:Model}{A:Around}{m:Sem α}{Q:α→Shared→Prop}{E:Value→Shared→Prop}{s:Shared}(h:wpAny M A m Q E s) :
   wpAny M A m (fun a s'=>Q a s'∧s.heap.objs.size≤s'.heap.objs.size) (fun a s'=>E a s'∧s.heap.objs.size≤s'.heap.objs.size) s :=
 Ygr (P:=fun h=>s.heap.objs.size≤h.objs.size) ⟨fun zz zz zz zz x=>by rw [Heap.size_after_update]; exact x,fun zz zz x=>by rw [Zqb]; exact Zeb x⟩ (Zl _) h
end
section
noncomputable def Ye6 (σ:Hp) (vv:V):Option (List V):=vv.casesOn (none) (fun _=>none) (fun _=>none) (fun x=>some (x.cps.toList.map fun c=>.str ⟨#[c]⟩)) (fun vs=>some vs) (fun l=>atL some σ[l]?) (fun _=>none) (fun _ _=>none) (fun _=>none) (fun _=>none) (fun n=>if -(2 ^ 62)≤n∧n < 2 ^ 62 then some ((List.range n.toNat).map fun (k:Nat)=>.int k) else none) (fun _=>none) (fun _=>none) (fun l n=>atL (fun vs=>if vs.length=n then some vs.reverse else none) σ[l]?)
inductive ItI (T:Tp) (ι:Inj) (h:Heap) (I:Addr) (i:Nat):V→Prop where
 | asc (x:Str) (t:Tok) (it:h.IsStrIter I "str_ascii_iterator" x t i):ItI T ι h I i (.str x)
 | wide (x:Str) (t:Tok) (it:h.IsStrIter I "str_iterator" x t i):ItI T ι h I i (.str x)
 | tup (vs:List V) (a:Addr) (items:Array Value) (n:Nat) (ht:IsT h a items n) (hv:VRels T ι h vs items.toList) (it:h.IsTupleIter I a i):ItI T ι h I i (.tup vs)
 | lst (l:Nat) (a d:Addr) (e:ι[l]?=some (a,d)) (it:h.IsListIter I a i):ItI T ι h I i (.ref l)
 | rng (n:Int) (it:IsRangeIter h I i ((n.toNat:Int) - i) 1):ItI T ι h I i (.rng n)
 | rev (l n:Nat) (a d:Addr) (hi:i≤n) (e:ι[l]?=some (a,d)) (it:h.IsRevIter I a ((n:Int) - 1 - i)):ItI T ι h I i (.rev l n)
noncomputable abbrev Yi1 (T:Tp) (ι:Inj) (h:Heap) (v:V) (I:Addr) (i:Nat):Prop:=ItI T ι h I i v
section
variable {T:Tp}{A:Around}{fs:List Env}{d:Nat}{env:Env}{F:List Addr}{ι ι':Inj}{h h':Heap}{s:Shared}{ρ:Loc}{σ:Hp}{sc:Scope}{v:V}{I:Addr}{i:Nat}
inductive ItO (h:Heap) (I:Addr):Prop where
 | mk (o:Obj) (n:String) (vs:Array Value) (ho:h.get? I=some o) (hc:o.cls=.type n) (hn:n∈Yc2) (hd:o.data=.fields vs):ItO h I
theorem ItO.of {n:String}{P:Obj→Prop}(hn:n∈Yc2) (x:∃ o,h.get? I=some o∧o.cls=.type n∧P o) (k:∀ o,P o→∃ vs,o.data=.fields vs):ItO h I :=
 Zh x fun o x=>Zh (k o x.2.2) fun vs hd=>⟨o,n,vs,x.1,x.2.1,hn,hd⟩
theorem ItI.obj (x:Yi1 T ι h v I i):ItO h I:=by
 induction x with
 | asc x t it=>exact .of (by decide) it fun zz hd=>⟨_,hd⟩
 | wide x t it=>exact .of (by decide) it fun zz hd=>⟨_,hd⟩
 | tup vs a items n ht hv it=>exact .of (by decide) it fun zz hd=>⟨_,hd⟩
 | lst l a d e it=>exact .of (by decide) it fun zz hd=>⟨_,hd⟩
 | rng n it=>exact ⟨_,_,_,it,rfl,by decide,rfl⟩
 | rev l n a d hi e it=>exact .of (by decide) it fun zz hd=>⟨_,hd⟩
theorem ItI.iterish (x:Yi1 T ι h v I i):∃ o,h.get? I=some o∧iterish o=true:=x.obj.rec fun o n zz ho hc hn zz=>⟨o,ho,Ymn hc hn⟩
theorem Yft {P:Obj→Prop}(k:∀ o,h.get? I=some o→h'.get? I=some o) (x:∃ o,h.get? I=some o∧P o):∃ o,h'.get? I=some o∧P o:=Zh x fun o x=>⟨o,k o x.1,x.2⟩
theorem ItI.keep (x:Yi1 T ι h v I i) (m:Yd7 ι h ι' h') (k:∀ o,h.get? I=some o→h'.get? I=some o):Yi1 T ι' h' v I i:=by
 induction x with
 | asc x t it=>exact .asc x t (Yft k it)
 | wide x t it=>exact .wide x t (Yft k it)
 | tup vs a items n ht hv it=>exact .tup vs a items n (m.frz a _ ht (by simp [Yax])) (hv.mono m) (Yft k it)
 | lst l a d e it=>exact .lst l a d (m.get e) (Yft k it)
 | rng n it=>exact .rng n (k _ it)
 | rev l n a d hi e it=>exact .rev l n a d hi (m.get e) (Yft k it)
theorem Yd7.but (hs:∀ b o,b≠I→h.get? b=some o→h'.get? b=some o) (ho:∃ o,h.get? I=some o∧Yb6 o=true∧Yax o=false) (ι:Inj):Yd7 ι h ι h' where
 pre:=⟨[],by simp⟩
 cls:=fun b o e i=>⟨o,hs b o (fun q=>by obtain ⟨o',g,gi,zz⟩:=ho; subst q; rw [e] at g; cases g; rw [i] at gi; cases gi) e,rfl⟩
 frz:=fun b o e f=>hs b o (fun q=>by
   obtain ⟨o',g,zz,gi⟩:=ho; subst q; rw [e] at g; cases g
   rw [f] at gi; cases gi) e
theorem Ygg {o:Obj}(h:iterish o=true):Yax o=false:=by
 cases f:Yax o with
 | false=>rfl
 | true =>
   simp only [Yax,Bool.or_eq_true,beq_iff_eq] at f
   rcases f with f | f <;> rw [Ycm f (by decide)] at h <;> cases h
theorem Yd7.free (hs:∀ b o,b≠I→h.get? b=some o→h'.get? b=some o) (ho:∃ o,h.get? I=some o∧iterish o=true) (ι:Inj):Yd7 ι h ι h' :=
 .but hs ((by obtain ⟨o,a,b⟩:=ho; exact ⟨o,a,Yhm b,Ygg b⟩)) ι
theorem Inv.free {t:Nat}(I0:Inv T A fs d env F ρ ι σ s) (hs:∀ b o,b≠I→s.heap.get? b=some o→h'.get? b=some o) (hz:s.heap.objs.size≤h'.objs.size) (ho:∃ o,s.heap.get? I=some o∧iterish o=true) (hn:I∉own ι) (hb:T.b0.objs.size≤I) :
   Inv T A fs d env F ρ ι σ { s with heap:=h',toks:=t }:=by
 have m:Yd7 ι s.heap ι h':=.free hs ho ι
 have ne:∀ b o,s.heap.get? b=some o→iterish o=false→b≠I:=fun b o e i q=>Zh ho fun o' g=>Zv (i.symm.trans (Yai (g.1.symm.trans (q▸e))▸g.2))
 exact ⟨I0.rep.keeps m hz (fun a o e=>hs a o (fun q=>absurd (Zu e) (Zo.mpr (q▸hb))) (I0.rep.base a o e)) fun a ha o e=>hs a o (fun q=>hn (q▸ha)) e,
   I0.aok.keeps (fun zz n zz=>n) (fun a o g zz c=>⟨o.slots,hs a o (ne a o g (Ycu (nsO.itr ⟨_,c,.inl rfl⟩))) g⟩) (I0.aok.hx.keep fun a o C e1 e2 e3=>⟨hs a o (ne a o e1 (Ykb e2)) e1,e3⟩),
   I0.frm.keeps m (fun zz n zz=>n) (fun a o g zz i=>⟨o,hs a o (ne a o g (Ycu i)) g,rfl⟩) fun a o g zz c zz=>⟨o.slots,hs a o (ne a o g (Ycu c.itr)) g⟩,I0.top,I0.gens,I0.os⟩
theorem Ext.free {h₀:Heap}(x:Ext T F ι h₀ ι' h) (hs:∀ b o,b≠I→h.get? b=some o→h'.get? b=some o) (hz:h.objs.size≤h'.objs.size) (hI:h₀.objs.size≤I):Ext T F ι h₀ ι' h':=by
 have ne:∀ b o,h₀.get? b=some o→b≠I:=fun b o e q=>absurd (Zu e) (Zo.mpr (q▸hI))
 refine ⟨x.pre,Za x.size hz,fun a o e i=>?_,fun a o e f=>hs a o (ne a o e) (x.frz a o e f),fun a o e n f c=>hs a o (ne a o e) (x.keep a o e n f c),fun a o e n f=>?_⟩
 · obtain ⟨o',g,gc⟩:=x.cls a o e i
   exact ⟨o',hs a o' (ne a o e) g,gc⟩
 · obtain ⟨sl,g⟩:=x.frm a o e n f
   exact ⟨sl,hs a _ (ne a o e) g⟩
set_option tactic.hygienic true in
theorem Ysy {E:Value→Shared→Prop}{x:Value}{items:List V}{Q:Value→Shared→Prop}(R:Rep T ι σ s.heap) (r:Yar T ι s.heap v x) (hi:Ye6 σ v=some items)
   (k:∀ o,Yi1 T ι (s.heap.push o) v s.heap.objs.size 0→Q (.ref s.heap.objs.size) { s with heap:=s.heap.push o }):wpAny (model T.prog T.w) A (pyIter x) Q E s:=by
 cases v <;> first | exact (Yap hi).elim | skip
 · obtain ⟨t,rfl⟩:=r.str_inv
   rename_i x
   cases ha:x.cps.all (· < 128)
   · exact wpAny_pyIter_wide ha (k _ (.wide _ t ⟨_,Zsc _ rfl,rfl,rfl⟩))
   · exact wpAny_pyIter_ascii ha (k _ (.asc _ t ⟨_,Zsc _ rfl,rfl,rfl⟩))
 · obtain ⟨a,its,n,rfl,ht,hv⟩:=r.tup_inv
   exact wpAny_pyIter_tuple ⟨_,ht,rfl,n,rfl⟩ (k _ (.tup _ a its n (Zx _ ht) (hv.mono (Ext.push T [] ι s.heap _).mono) ⟨_,Zsc _ rfl,rfl,rfl⟩))
 · obtain ⟨a,dd,rfl,e⟩:=r.ref_inv
   obtain ⟨vs,hvs,hi⟩:=Ydl hi
   obtain ⟨its,n,hL,hv⟩:=R.list_at hvs e
   exact wpAny_pyIter_list hL.isList (k _ (.lst _ a dd e ⟨_,Zsc _ rfl,rfl,rfl⟩))
 · rename_i n
   obtain ⟨hn,hi⟩:=Ydo hi
   obtain ⟨a,t1,t2,t3,rfl,hr⟩:=r
   refine wpAny_pyIter_range hr (small_one (by decide) (by decide) hn.1 hn.2) (k _ (.rng n ?_))
   have:Builtin.Range.rangeSize 0 n 1=(n.toNat:Int):=by unfold Builtin.Range.rangeSize; simp; split <;> (clear k hn hi hr; lia)
   rw [this]
   show _=_
   rw [Zsc _ rfl]; simp [rawInt]
 · exact r.elim
theorem Yk3 {x:Str}{i:Nat}{y:V}(hy:(x.cps.toList.map fun c=>V.str ⟨#[c]⟩)[i]?=some y):∃ c,x.cps[i]?=some c∧y=.str ⟨#[c]⟩:=by
 rw [Zdb] at hy
 obtain ⟨c,hc,e⟩:=Zpb.mp hy
 exact ⟨c,Array.getElem?_toList▸hc,e.symm⟩
theorem Yo8 {E:Value→Shared→Prop}{items:List V}{y:V}{Q:Option Value→Shared→Prop}(R:Rep T ι σ s.heap) (it:Yi1 T ι s.heap v I i) (hn:I∉own ι) (hi:Ye6 σ v=some items) (hy:items[i]?=some y)
   (k:∀ h' t x,Heap.SameBut I s.heap h'→Yar T ι h' y x→Yi1 T ι h' v I (i+1)→Q (some x) { s with heap:=h',toks:=t }):wpAny (model T.prog T.w) A (pyNext (.ref I)) Q E s:=by
 have hit:=it.iterish
 have mono:∀ {h'},Heap.SameBut I s.heap h'→Yd7 ι s.heap ι h':=fun hs=>.free (fun b o hb e=>(hs.2 b hb).trans e) hit ι
 induction it with
 | asc x t it =>
   obtain ⟨c,hc,rfl⟩:=Yk3 (Yai hi▸hy)
   exact wpAny_pyNext_ascii_item it hc fun h' it' hs=>k h' _ _ hs .str_mk (.asc x t it')
 | wide x t it =>
   obtain ⟨c,hc,rfl⟩:=Yk3 (Yai hi▸hy)
   exact wpAny_pyNext_wide_item it hc fun h' it' hs=>k h' _ _ hs .str_mk (.wide x t it')
 | tup vs a its n ht hv it =>
   obtain ⟨x,hx,rx⟩:=hv.get (Yai hi▸hy)
   exact wpAny_pyNext_tuple_item it ⟨_,ht,rfl,n,rfl⟩ (Array.getElem?_toList▸hx) fun h' it' hs=>k h' s.toks x hs (rx.mono (mono hs)) (.tup vs a its n ((mono hs).frz a _ ht (by simp [Yax])) (hv.mono (mono hs)) it')
 | lst l a dd e it =>
   obtain ⟨vs,hvs,hi⟩:=Ydl hi
   obtain ⟨its,n,hL,hv⟩:=R.list_at hvs e
   obtain ⟨x,hx,rx⟩:=hv.get (Yai hi▸hy)
   exact wpAny_pyNext_list_item it hL.isList (Array.getElem?_toList▸hx) fun h' it' hs=>k h' s.toks x hs (rx.mono (mono hs)) (.lst l a dd e it')
 | rng n it =>
   obtain ⟨zz,rfl⟩:=Ydo hi
   rw [Zdb] at hy
   obtain ⟨j,hj,rfl⟩:=Zpb.mp hy
   obtain ⟨hlt,hj⟩:=Zb.mp hj
   rw [List.getElem_range] at hj
   rw [List.length_range] at hlt
   subst hj
   refine wpAny_pyNext_range_item it (by (clear k it; lia)) fun h' it' hs=>k h' _ _ hs .int_mk (.rng n ?_)
   rw [show ((n.toNat:Int) - ((i+1:Nat):Int))=(n.toNat:Int) - i - 1 by (clear it hlt k it'; lia)]
   exact it'
 | rev l n a dd hin e it =>
   obtain ⟨vs,hvs,hi⟩:=Ydl hi
   obtain ⟨hl,rfl⟩:=Ydo hi
   subst hl
   obtain ⟨its,m,hL,hv⟩:=R.list_at hvs e
   have hlt:i < vs.length:=by have:=(Zb.mp hy).1; rwa [Zec] at this
   rw [List.getElem?_reverse hlt] at hy
   obtain ⟨x,hx,rx⟩:=hv.get hy
   have e1:(vs.length:Int) - 1 - i=((vs.length - 1 - i:Nat):Int):=by clear k hv it rx; lia
   rw [e1] at it
   refine wpAny_pyNext_rev_item it hL.isList (Array.getElem?_toList▸hx) fun h' it' hs=>k h' s.toks x hs (rx.mono (mono hs)) (.rev l _ a dd hlt e ?_)
   rw [show (vs.length:Int) - 1 - ((i+1:Nat):Int)=((vs.length - 1 - i:Nat):Int) - 1 by clear k hv it rx it'; lia]; exact it'
theorem Yhp:entryFor table "proto.unchain" = some Builtin.«proto.unchain»:=entryFor_of_fast (by kernel_rfl)
theorem Ymj {α:Type}{E:Value→Shared→Prop}{e:Addr}{oe:Obj}{vs:Array Value}{Q:α→Shared→Prop}(hx:Yb9 A ι s.heap) (he:s.heap.get? e=some oe) (hd:oe.data=.fields vs) (h2:2 < vs.size)
   (k:∀ h',Heap.SameBut e s.heap h'→(∃ oe',h'.get? e=some oe'∧oe'.cls=oe.cls)→E (.ref e) { s with heap:=h' }) :
   wpAny (model T.prog T.w) A (raiseNew (.ref e):Sem α) Q E s:=by
 unfold raiseNew
 refine Zhb (wpAny_handled ?_)
 cases hA:A.handled with
 | none=>exact Zhb (Zjb (wpAny_throw (k _ (.refl ..) ⟨_,he,rfl⟩)))
 | some v =>
   obtain ⟨ea,o,C,ws,rfl,g1,g2,g3,g4,g5⟩:=hx v hA
   dsimp only
   by_cases q:(Value.ref ea != Value.ref e)=true
   · rw [if_pos q]
     refine Zhb (wpAny_holding (runValue_entry Yhp ?_))
     unfold Builtin.«proto.unchain»
     dsimp only
     refine Zhb (wpAny_field g1 g3 g4 ?_)
     rw [if_pos (by decide)]
     refine Zhb (Zjb (Zjb ⟨_,rfl,?_⟩))
     refine Zhb (show wpAny _ _ (setField (.ref e) 2 (.ref ea)) _ _ _ from wpAny_setField he hd h2 (wpAny_throw (k _ (Heap.SameBut.update ..) ⟨_,Heap.get?_update_self _ he (Obj.isFreed_of_fields (Obj.data_mapFields hd _)),Obj.cls_mapFields _ _⟩)))
   · rw [if_neg q]
     exact Zhb (Zjb (wpAny_throw (k _ (.refl ..) ⟨_,he,rfl⟩)))
theorem Ykj {E:Value→Shared→Prop}{it:Addr}{x left step:Int}{Q:Option Value→Shared→Prop}(hx:Yb9 A ι s.heap) (hit:IsRangeIter s.heap it x left step) (hleft:left≤0)
   (hQ:∀ h',Heap.ExtBut it s.heap h'→Q none { s with heap:=h' }):wpAny (model T.prog T.w) A (pyNext (.ref it)) Q E s:=by
 have hT:s.TypeIs (.ref it) "range_iterator":=⟨_,hit,rfl⟩
 unfold pyNext
 refine Zhb (wpAny_attempt (wpAny_callSpecial?_slot (name:=Str.ofString "__next__") hT F.slot_range_iterator_next
   (wpAny_call_entry F.slot_range_iterator_next hT F.entry_range_iterator_next ?_ (F.args_range_iterator_next_1 _))))
 show wpAny _ _ (field (.ref it) 0 >>= _) _ _ s
 refine Zhb (wpAny_field hit rfl (x:=rawInt x) rfl ?_)
 show wpAny _ _ (field (.ref it) 1 >>= _) _ _ s
 refine Zhb (wpAny_field hit rfl (x:=rawInt left) rfl ?_)
 show wpAny _ _ (field (.ref it) 2 >>= _) _ _ s
 refine Zhb (wpAny_field hit rfl (x:=rawInt step) rfl ?_)
 show wpAny _ _ (if left≤0 then _ else _) _ _ s
 rw [if_pos hleft]
 refine Zhb (wpAny_rule ?_)
 refine Zhb ?_
 show wpAny _ _ (newExc (.type "StopIteration") [] >>= _) _ _ _
 refine Zhb ?_
 simp only [newExc,newTuple]
 refine Zhb (wpAny_newObj_type ?_ (by size_fits))
 refine Zhb (m:=firstArgMember _ _) (wpAny_of_eq (a:=Value.none) (by first | rfl | (simp only [firstArgMember]; rfl)) ?_)
 refine wpAny_newObj_type ?_ (by size_fits)
 have kp:∀ (o₁ o₂:Obj) b o,s.heap.get? b=some o→((s.heap.push o₁).push o₂).get? b=some o:=fun zz zz b o e=>Zx _ (Zx _ e)
 have hx1:Yb9 A.in1 ι s.heap:=hx
 refine Ymj (ι:=ι) (hx1.keep fun a o C e1 e2 e3=>⟨kp _ _ _ _ e1,e3⟩) (Zsc _ rfl) rfl (by simp; (clear hleft; exact Zq (Ztb (Nat.succ 2).succ 2))) fun h' hs ho=>?_
 obtain ⟨oe',ho1,ho2⟩:=ho
 refine Zhb (wpAny_isInstance (T:="StopIteration") (b:=true) ⟨_,ho1,ho2⟩ isSubtype_stop ?_)
 refine Zjb (hQ _ fun b o hb e=>(hs.2 b (fun q=>?_)).trans (kp _ _ _ _ e))
 have:=Zu e
 rw [q,Zqb] at this
 exact absurd this (Zo.mpr (Nat.le_succ _))
theorem Yst {E:Value→Shared→Prop}{items:List V}{Q:Option Value→Shared→Prop}(hh:A.handled=none∨(Yb9 A ι s.heap∧∃ n,v=.rng n)) (R:Rep T ι σ s.heap) (it:Yi1 T ι s.heap v I i) (hi:Ye6 σ v=some items) (hy:items.length≤i)
   (k:∀ h',Heap.ExtBut I s.heap h'→s.heap.objs.size≤h'.objs.size→Q none { s with heap:=h' }):wpAny (model T.prog T.w) A (pyNext (.ref I)) Q E s:=by
 have hN:(∀ n,v≠.rng n)→A.handled=none:=fun q=>hh.elim id fun p=>p.2.elim fun n e=>absurd e (q n)
 have fin:wpAny (model T.prog T.w) A (pyNext (.ref I)) (fun r s'=>r=none∧∃ h',s'={ s with heap:=h' }∧Heap.ExtBut I s.heap h') E s:=by
   clear k
   induction it with
   | asc x t it=>exact wpAny_pyNext_ascii_end (hN nofun) it (by cases Yai hi; simpa using hy) fun h' e=>⟨rfl,h',rfl,e⟩
   | wide x t it=>exact wpAny_pyNext_wide_end (hN nofun) it (by cases Yai hi; simpa using hy) fun h' e=>⟨rfl,h',rfl,e⟩
   | tup vs a its n ht hv it=>exact wpAny_pyNext_tuple_end (hN nofun) it ⟨_,ht,rfl,n,rfl⟩ (Array.getElem?_eq_none (by rw [Yd1 hv,Yai hi]; exact hy)) fun h' e=>⟨rfl,h',rfl,e⟩
   | lst l a dd e it =>
     obtain ⟨vs,hvs,hi⟩:=Ydl hi
     obtain ⟨its,n,hL,hv⟩:=R.list_at hvs e
     exact wpAny_pyNext_list_end (hN nofun) it hL.isList (Array.getElem?_eq_none (by rw [Yd1 hv,Yai hi]; exact hy)) fun h' e=>⟨rfl,h',rfl,e⟩
   | rng n it =>
     obtain ⟨zz,rfl⟩:=Ydo hi
     simp only [Zc,List.length_range] at hy
     exact hh.elim (fun hh=>wpAny_pyNext_range_end hh it (by (clear hN it; lia)) fun h' e=>⟨rfl,h',rfl,e⟩) fun hh=>Ykj hh.1 it (by (clear hh hN it; lia)) fun h' e=>⟨rfl,h',rfl,e⟩
   | rev l n a dd hin e it =>
     obtain ⟨vs,hvs,hi⟩:=Ydl hi
     obtain ⟨hl,rfl⟩:=Ydo hi
     rw [Zec,hl] at hy
     rw [show (n:Int) - 1 - (i:Int) = -1 from by rw [Zpc hin hy]; clear hN it; lia] at it
     exact wpAny_pyNext_rev_end (hN nofun) it fun h' e=>⟨rfl,h',rfl,e⟩
 refine Zib (Yb1 fin) (fun r s' p=>?_) fun zz zz p=>p.1
 obtain ⟨⟨rfl,h',rfl,e⟩,hz⟩:=p
 exact k h' e hz
theorem Yfx {E:Value→Shared→Prop}{target:Expr}{x:Value}{Q:Unit→Shared→Prop}(it:Yi1 T ι s.heap v I i) (k:Q () s):wpAny (model T.prog T.w) A (letOwnedTupleGo target (.ref I) x) Q E s:=by
 obtain ⟨o,n,vs,ho,hc,hn,hd⟩:=it.obj
 have no:["enumerate", "zip", "dict_itemiterator", "dict_reverseitemiterator", "odict_iterator", "itertools.zip_longest", "itertools.pairwise"].contains n=false:=(by decide:∀ n∈Yc2,["enumerate", "zip", "dict_itemiterator", "dict_reverseitemiterator", "odict_iterator", "itertools.zip_longest", "itertools.pairwise"].contains n=false) n hn
 have main:∀ a,wpAny (model T.prog T.w) A (do
     let o ← load I
     match o.cls,o.data with
     | .type n,.fields vs =>
       if ["enumerate", "zip", "dict_itemiterator", "dict_reverseitemiterator", "odict_iterator", "itertools.zip_longest", "itertools.pairwise"].contains n && vs[0]? == some (rawInt a) then
         rule "for.unpacks-the-owned-tuple"
         updateField I 0 .none
     | z1,z2=>pure ()) Q E s:=fun a=>by
   refine Zhb (wpAny_load ho ?_)
   rw [hc,hd]
   simp only [no,Bool.false_and,Bool.false_eq_true,if_false]
   exact Zjb k
 cases target <;> first | exact Zjb k | (cases x <;> first | exact main _ | exact Zjb k)
end
end
section
noncomputable def nx1 (x:Str) (v:V) (ρ:Loc):Option Loc:=some (upd ρ x (some v))
noncomputable def nx2 (a b:Str) (v:V) (ρ:Loc):Option Loc:=match v with
 | .tup [p,q]=>some (upd (upd ρ a (some p)) b (some q))
 | z1=>none
set_option tactic.hygienic true in
theorem Ytb {a b:Str}{v:V}{ρ ρ':Loc}(h:nx2 a b v ρ=some ρ'):∃ p q,v=.tup [p,q]∧upd (upd ρ a (some p)) b (some q)=ρ':=by
 cases v <;> first | exact (Yap h).elim | skip
 rename_i vs
 rcases vs with zz | ⟨p,zz | ⟨q,zz | zz⟩⟩ <;> first | exact (Yap h).elim | exact ⟨p,q,rfl,Yai h⟩
noncomputable def Ys7 (Q:QS) (N:Loc→Hp→Prop):QS:=fun fl ρ σ=>match fl with
 | .next | .cont=>N ρ σ
 | .brk=>Q .next ρ σ
 | .ret v=>Q (.ret v) ρ σ
section
variable {T:Tp}{A:Around}{fs:List Env}{d:Nat}{env:Env}{F:List Addr}{ι ι':Inj}{h h':Heap}{s:Shared}{ρ:Loc}{σ:Hp}{sc:Scope}{v:V}{I:Addr}{i:Nat}
theorem Yjc {M:Model}{A':Around}{E:Value→Shared→Prop}{x:Str}{v:V}{y:Value}{Q:Unit→Shared→Prop}(I:Inv T A fs d env F ρ ι σ s) (hk:Yao env.scope x=true) (r:Yar T ι s.heap v y)
   (k:∀ h' t,Inv T A fs d env F (upd ρ x (some v)) ι σ { s with heap:=h',toks:=t }→Ext T F ι s.heap ι h'→Q () { s with heap:=h',toks:=t }):wpAny M A' (storeName env x y) Q E s :=
 Yfk I.rep I.frm hk r fun h' t R' H' e' ds=>k h' t (I.stored R' H' e' ds) e'
theorem Inv.grown {h':Heap}(I0:Inv T A fs d env F ρ ι σ s) (hz:s.heap.objs.size≤h'.objs.size) (k:∀ b o,s.heap.get? b=some o→h'.get? b=some o):Inv T A fs d env F ρ ι σ { s with heap:=h' } :=
 I0.ext (.of_keeps hz k) (I0.rep.grow hz k) I0.gens I0.os
theorem Yq6 {E:Value→Shared→Prop}{a:Addr}{items:Array Value}{n:Nat}{Q:List Value→Shared→Prop}(hh:A.handled=none) (ht:IsT s.heap a items n)
   (k:∀ h',s.heap.objs.size≤h'.objs.size→(∀ b o,s.heap.get? b=some o→h'.get? b=some o)→Q items.toList { s with heap:=h' }):wpAny (model T.prog T.w) A (unpackItems (.ref a) items.size none) Q E s:=by
 have fin:wpAny (model T.prog T.w) A (unpackItems (.ref a) items.size none) (fun r s'=>r=items.toList∧∃ h',s'={ s with heap:=h' }∧Heap.ExtBut s.heap.objs.size s.heap h') E s :=
   unpackItems_tuple hh ⟨_,ht,rfl,n,rfl⟩ fun h' e=>⟨rfl,h',rfl,e⟩
 refine Zib (Yb1 fin) (fun r s' p=>?_) fun zz zz p=>p.1
 obtain ⟨⟨rfl,h',rfl,e⟩,hz⟩:=p
 exact k h' hz fun b o hb=>e b o (Znc (Zu hb)) hb
noncomputable def Ytg (T:Tp) (d:Nat) (sc:Scope) (t:Expr) (nx:V→Loc→Option Loc):Prop :=
 ∀ {E:Value→Shared→Prop}{Q:Unit→Shared→Prop}{env:Env}{A:Around}{fs:List Env}{F:List Addr}{ρ ρ':Loc}{ι:Inj}{σ:Hp}{s:Shared}{v:V}{x:Value},env.scope=sc→Inv T A fs d env F ρ ι σ s→Yar T ι s.heap v x→nx v ρ=some ρ' →
   (∀ h' tk,Inv T A fs d env F ρ' ι σ { s with heap:=h',toks:=tk }→Ext T F ι s.heap ι h'→Q () { s with heap:=h',toks:=tk })→wpAny (model T.prog T.w) A (assign t env x) Q E s
theorem Yu4 {x:Str}{p:Pos}(ht:Yao sc x=true):Ytg T d sc (.Name x p) (nx1 x):=fun hsc I r hl k=>by
 cases hl; exact wpAny_assign_Name (Yjc I (hsc▸ht) r k)
theorem Yuq {na nb:Str}{pa pb pp:Pos}{kk:Nat}(hd:T.hd=false) (ha:Yao sc na=true) (hb:Yao sc nb=true):Ytg T d sc (.Tuple [.Name na pa,.Name nb pb] kk pp) (nx2 na nb):=by
 intro E Q env A fs F ρ ρ' ι σ s v x hsc I r hl k
 subst hsc
 obtain ⟨p,q,rfl,rfl⟩:=Ytb hl
 · obtain ⟨a,items,n,rfl,hT,hv⟩:=r.tup_inv
   refine ex2 (VRels.cons_iff.mp hv) fun y₁ r₁ h9=>Yh5 h9 fun e₁ v₁ hv=>?_
   obtain ⟨y₂,r₂,rfl,v₂,hv⟩:=VRels.cons_iff.mp hv
   cases VRels.nil_iff.mp hv
   have hsz:items.size=2:=by rw [← Array.length_toList,e₁]; rfl
   rw [arm_assign_Tuple]
   refine Zhb (wpAny_standAt ?_)
   unfold unpack
   show wpAny _ _ (do assignInOrder [assign (.Name na _) env,assign (.Name nb _) env] (← holding [.ref a] (unpackItems (.ref a) 2 none))) _ _ _
   refine Zhb (wpAny_holding (hsz▸Yq6 (I.aok.hd hd) hT fun h' hz hk=>?_))
   have e0:Ext T F ι s.heap ι h':=.of_keeps hz hk
   rw [e₁]
   refine assignInOrder_cons (wpAny_assign_Name (Yjc (I.grown hz hk) ha (v₁.mono e0.mono) fun h₂ t₂ I₂ e₂=>?_))
   refine assignInOrder_cons (wpAny_assign_Name (Yjc I₂ hb (v₂.mono (e0.trans e₂).mono) fun h₃ t₃ I₃ e₃=>?_))
   exact assignInOrder_nil (k h₃ t₃ I₃ (e0.trans (e₂.trans e₃)))
theorem Yba.while {X:XS}{Q:QS}{test:Expr}{body:List Stmt}{pos:Pos}(J:Nat→Loc→Hp→Prop) (n:Nat) (h0:J n ρ σ)
   (turn:∀ n ρ σ,J n ρ σ→Ydx T d sc ρ X test (fun b σ₁=>if b then Yeg T d sc ρ X body (Ys7 Q fun ρ₂ σ₂=>∃ m,m < n∧J m ρ₂ σ₂) σ₁ else Q .next ρ σ₁) σ):Yba T d sc ρ X (.While test body [] pos) Q σ:=by
 intro env A fs F ι s hsc I
 have hb:=I.rep.size
 refine wpAny_While (codeAny_whileLoop (fun n s'=>∃ ρ' σ' ι',J n ρ' σ'∧Inv T A fs d env F ρ' ι' σ' s'∧Ext T F ι s.heap ι' s'.heap) (fun n s' hJ=>?_) n ⟨ρ,σ,ι,h0,I,.refl ..⟩)
 refine ex3 hJ fun ρ' σ' ι' h=>Yh5 h fun j I' e'=>?_
 refine Zib (turn n ρ' σ' j env A fs F ι' s' hsc I') (fun b s₁ p=>?_) fun x s₁ p=>Yj4 hb ((p.sx I' fun zz zz k=>k).trans e')
 obtain ⟨σ₁,ι₁,q,rp,ex,g,o⟩:=p
 have I₁:=I'.ext ex rp g o
 have e₁:=e'.trans ex.up
 cases b
 · exact wpAny_execs_nil ⟨.next,ρ',σ₁,ι₁,q,.next,I₁,e₁⟩
 · refine Zib (q env A fs F ι₁ s₁ hsc I₁) (fun f s₂ p=>?_) fun x s₂ p=>Yj4 hb (p.trans e₁)
   obtain ⟨fl,ρ₂,σ₂,ι₂,q₂,r₂,I₂,e₂⟩:=p
   induction r₂ with
   | next=>obtain ⟨m,hm,jm⟩:=q₂; exact ⟨m,hm,ρ₂,σ₂,ι₂,jm,I₂,e₁.trans e₂⟩
   | brk=>exact ⟨.next,ρ₂,σ₂,ι₂,q₂,.next,I₂,e₁.trans e₂⟩
   | cont=>obtain ⟨m,hm,jm⟩:=q₂; exact ⟨m,hm,ρ₂,σ₂,ι₂,jm,I₂,e₁.trans e₂⟩
   | ret r₂=>exact ⟨.ret _,ρ₂,σ₂,ι₂,q₂,.ret r₂,I₂,e₁.trans e₂⟩
theorem Yj1 {prog:Program}{w:World}{R:Result→Shared→Prop}{target:Expr}{it:Value}{body orelse:List Stmt}(J:Nat→Shared→Prop)
   (turn:∀ n s,J n s→wpAny (model prog w) A (pyNext it) (fun r s₁=>match r with
     | none=>wpAny (model prog w) A (execs orelse env) (fun f s₃=>R (.ok f) s₃) (notedBy (model prog w) A env fun e s'=>R (.error e) s') s₁
     | some v=>wpAny (model prog w) A (letOwnedTupleGo target it v) (fun zz s₁=>wpAny (model prog w) A (assign target env v) (fun zz s₂=>wpAny (model prog w) A (execs body env) (fun f s₃=>match f with
         | .next | .cont=>∃ m,m < n∧J m s₃
         | .brk=>R (.ok .next) s₃
         | .ret v=>R (.ok (.ret v)) s₃) (notedBy (model prog w) A env fun e s'=>R (.error e) s') s₂) (notedBy (model prog w) A env fun e s'=>R (.error e) s') s₁) (notedBy (model prog w) A env fun e s'=>R (.error e) s') s₁)
     (notedBy (model prog w) A env fun e s'=>R (.error e) s') s)
   (n:Nat) (h:J n s):codeAny (model prog w) A (.forLoop target it body orelse env) R s:=by
 refine codeAny_loop' rfl J (fun n s hJ=>?_) n h
 show wpAny _ _ ((forTurn target it body orelse env).onRaise (fun x=>do noteFrame x env; theTreesLotGoes x)) _ _ s
 refine wpAny_noted ?_
 simp only [forTurn]
 refine Zhb (wpAny_standAt (Zhb (wpAny_onRaise (Zib (turn n s hJ) (fun r s₁ h₁=>?_) fun zz zz h'=>wpAny_standAt h'))))
 cases r with
 | none=>exact Zjb (.inr ⟨rfl,codeAny_block h₁⟩)
 | some v =>
   refine Zhb (Zib h₁ (fun zz s₁ h₁=>?_) fun zz zz h'=>h')
   refine Zhb (Zib h₁ (fun zz s₂ h₂=>Zhb (Zib h₂ (fun f s₃ h₃=>?_) fun zz zz h'=>h')) fun zz zz h'=>h')
   cases f with
   | next=>exact Zjb (.inl ⟨rfl,h₃⟩)
   | cont=>exact Zjb (.inl ⟨rfl,h₃⟩)
   | brk=>exact Zjb h₃
   | ret v=>exact Zjb h₃
noncomputable def Yfb (e:Expr):Bool:=!Nat.beq e.ctorIdx 7
theorem Yi7 {e:Expr}{x:Value}(h:Yfb e=true):foldedSetIterable e env x=pure x:=by cases e <;> first | rfl | exact (Zv h).elim
inductive Yc7 (T:Tp) (d:Nat) (sc:Scope) (X:XS) (nx:V→Loc→Option Loc) (body:List Stmt) (Q:QS) (v:V) (ρ:Loc) (σ₁:Hp):Prop where
 | mk (items:List V) (J:Nat→Loc→Hp→Prop) (h0:J 0 ρ σ₁) (h1:∀ i ρ σ,J i ρ σ→Ye6 σ v=some items) (h2:∀ ρ σ,J items.length ρ σ→Q .next ρ σ)
     (h3:∀ i x ρ σ,J i ρ σ→items[i]?=some x→∃ ρ',nx x ρ=some ρ'∧Yeg T d sc ρ' X body (Ys7 Q (J (i+1))) σ):Yc7 T d sc X nx body Q v ρ σ₁
inductive ItR (T:Tp) (K:V→Hp→Prop) (ι:Inj) (h:Heap) (x:Value) (s':Shared):Prop where
 | of (v:V) (σ':Hp) (ι':Inj) (h0:K v σ') (h1:Yar T ι' s'.heap v x) (h2:Rep T ι' σ' s'.heap) (h3:Ext T [] ι h ι' s'.heap) (h4:s'.gens = #[]) (h5:s'.os=T.os):ItR T K ι h x s'
 | rev (l n:Nat) (I:Addr) (σ':Hp) (ι':Inj) (h0:K (.rev l n) σ') (h1:x=.ref I) (hI:Yi1 T ι' s'.heap (.rev l n) I 0) (hn:h.objs.size≤I) (ho:I∉own ι') (h2:Rep T ι' σ' s'.heap) (h3:Ext T [] ι h ι' s'.heap) (h4:s'.gens = #[]) (h5:s'.os=T.os):ItR T K ι h x s'
noncomputable def Ylk (T:Tp) (d:Nat) (sc:Scope) (ρ:Loc) (X:QX) (e:Expr) (K:V→Hp→Prop) (σ:Hp):Prop :=
 ∀ env A fs F ι s,env.scope=sc→Inv T A fs d env F ρ ι σ s→wpAny (model T.prog T.w) A (eval e env) (ItR T K ι s.heap) (Yav T [] X ι s.heap) s
theorem Yal.it {X:QX}{e:Expr}{K:V→Hp→Prop}(h:Yal T d sc ρ X e K σ):Ylk T d sc ρ X e K σ:=fun env A fs F ι s hsc I =>
 Zib (h env A fs F ι s hsc I) (fun zz zz p=>(by obtain ⟨v,σ',ι',a,b,c,e,f,g⟩:=p; exact .of v σ' ι' a b c e f g)) fun zz zz p=>p
theorem Ylk.reversed {X:QX}{x:Str}{np pos:Pos}{e:Expr}{K:V→Hp→Prop}(TO:Yaf T) (hg:Yal T d sc ρ X (.Name x np) (fun f σ₁=>f=.type "reversed" ∧ σ₁=σ) σ) (ns:Yb4 [e]=true)
   (h:Yal T d sc ρ X e (fun v σ₁=>∃ l vs,v=.ref l∧σ₁[l]?=some (.list vs)∧K (.rev l vs.length) σ₁) σ):Ylk T d sc ρ X (.Call (.Name x np) [e] [] pos) K σ:=by
 have h':Yda T d sc ρ X [e] (fun us σ₁=>∃ v,us=[v]∧∃ l vs,v=.ref l∧σ₁[l]?=some (.list vs)∧K (.rev l vs.length) σ₁) σ:=Yda.cons (h.mono (fun v σ₁ q=>Yda.nil ⟨v,rfl,q⟩) fun zz zz k=>k)
 intro env A fs F ι s hsc I
 rw [arm_eval_Call_Name']
 refine Zhb (Zib (hg env A fs F ι s hsc I) (fun fv s₁ p=>?_) fun zz zz p=>p)
 obtain ⟨f,σ₁,ι₁,⟨rfl,rfl⟩,rv,rp,ex,g,o⟩:=p
 subst rv
 have I₁:=I.ext ex rp g o
 rw [Ybm ns]
 refine PySem.W.callWith_of (P:=T.K.In) (by rw [show backToKw pos (keywordEach [] env)=[] from rfl]; simp) (Yi2 (f:=.type "reversed") (ι:=ι₁) (h:=s₁.heap) (.inl rfl) (rfl) (.inl rfl)) (Ybz (Zib (h' env A fs F ι₁ s₁ hsc I₁) (fun xs s₂ p=>?_) fun zz zz p=>p.trans ex))
 obtain ⟨vs,σ₂,ι₂,⟨v,rfl,l,ls,rfl,hl,q⟩,rvs,rp₂,ex₂,g₂,o₂⟩:=p
 have I₂:=I₁.ext ex₂ rp₂ g₂ o₂
 refine ⟨TO.X0.keeps I₂.rep.base,?_⟩
 obtain ⟨y,r',rfl,ry,rr⟩:=VRels.cons_iff.mp rvs
 cases VRels.nil_iff.mp rr
 obtain ⟨a,dd,rfl,e1⟩:=ry.ref_inv
 refine ex2 (rp₂.list_at hl e1) fun its n h9=>h9.elim fun hL hv=>?_
 refine call_reversed_list hL.isList ?_
 have hz:(its.size:Int)=ls.length:=by have:=hv.length; simp only [Array.length_toList] at this; rw [this]
 have e2:Ext T [] ι₂ s₂.heap ι₂ (s₂.heap.push (revObj a ((its.size:Int) - 1))):=.push ..
 refine .rev l ls.length s₂.heap.objs.size σ₂ ι₂ q rfl (.rev l ls.length a dd (Zkb _) e1 ⟨_,Zsc _ rfl,rfl,?_⟩) (Za ex.size ex₂.size) (fun h=>absurd (rp₂.own_lt h) (Zub _)) (rp₂.grow e2.size fun b o e=>Zx _ e) (ex.trans (ex₂.trans e2)) g₂ o₂
 simp only [revObj,hz]; simp
theorem Ym1 {K:V→Hp→Prop}{E:Value→Shared→Prop}{x:Value}{Q:Value→Shared→Prop}{s₁:Shared}(I:Inv T A fs d env F ρ ι σ s) (p:ItR T K ι s.heap x s₁) (hi:∀ v σ,K v σ→∃ items,Ye6 σ v=some items)
   (k:∀ v σ₁ ι₁ I h₂,K v σ₁→Inv T A fs d env F ρ ι₁ σ₁ { s₁ with heap:=h₂ }→Ext T [] ι s.heap ι₁ h₂→Yi1 T ι₁ h₂ v I 0→I∉own ι₁→s.heap.objs.size≤I→Q (.ref I) { s₁ with heap:=h₂ }):wpAny (model T.prog T.w) A (pyIter x) Q E s₁:=by
 cases p with
 | of v σ₁ ι₁ q rv rp ex g o =>
   have I₁:=I.ext ex rp g o
   obtain ⟨items,hit⟩:=hi v σ₁ q
   refine Ysy I₁.rep rv hit fun ob it0=>?_
   have e1:Ext T [] ι₁ s₁.heap ι₁ (s₁.heap.push ob):=.push ..
   exact k v σ₁ ι₁ _ _ q (I₁.grown (h':=s₁.heap.push ob) e1.size fun b o e=>Zx _ e) (ex.trans e1) it0 (fun q=>absurd (I₁.rep.own_lt q) (Zub _)) ex.size
 | rev l n J σ₁ ι₁ q e hI hn ho rp ex g o =>
   subst e
   have hr:∃ a j,s₁.heap.IsRevIter J a j:=by cases hI; exact ⟨_,_,by assumption⟩
   refine ex2 hr fun a zz hr=>?_
   exact wpAny_pyIter_revIter hr (k _ σ₁ ι₁ J s₁.heap q (I.ext ex rp g o) ex hI ho hn)
theorem Yba.forG {X:XS}{Q:QS}{target iter:Expr}{body:List Stmt}{pos:Pos}{nx:V→Loc→Option Loc}
   (he:Ylk T d sc ρ X iter (fun v σ₁=>Yc7 T d sc X nx body Q v ρ σ₁) σ)
   (ha:Ytg T d sc target nx) (hs:Yfb iter=true) (hd:T.hd=false):Yba T d sc ρ X (.For target iter body [] pos) Q σ:=by
 intro env A fs F ι s hsc I
 have hb:=I.rep.size
 refine wpAny_For (Zib (he env A fs F ι s hsc I) (fun x s₁ p=>?_) fun zz zz p=>p.sx I fun zz zz k=>k) fun zz=>Yi7 hs
 refine Ym1 I p (fun v σ ⟨items,J,h0,h1,_,_⟩=>⟨items,h1 0 _ _ h0⟩) fun v σ₁ ι₁ Ia h₂ ⟨items,J,j0,jit,jend,jturn⟩ I₂ e1 it0 hn0 hI0=>?_
 have hbI:T.b0.objs.size≤Ia:=Za hb hI0
 obtain ⟨JJ,hJJ⟩:∃ JJ:Nat→Shared→Prop,∀ n s',JJ n s'↔∃ i ρ' σ' ι',n=items.length - i∧i≤items.length∧J i ρ' σ'∧Inv T A fs d env F ρ' ι' σ' s'∧Ext T F ι s.heap ι' s'.heap∧Yi1 T ι' s'.heap v Ia i∧Ia∉own ι':=⟨_,fun zz zz=>Iff.rfl⟩
 refine Yj1 JJ (fun n s' hJ=>?_) items.length ((hJJ _ _).mpr ⟨0,ρ,σ₁,ι₁,rfl,Zkb _,j0,I₂,e1.up,it0,hn0⟩)
 refine ex4 ((hJJ _ _).mp hJ) fun i ρ' σ' ι' h=>Yyk h fun hn0 hi j I' e' it hn=>?_
 clear h
 subst hn0
 have isit:=it.iterish
 have hF:Ia∉F:=fun q=>by
   obtain ⟨o1,g1,zz,g3⟩:=I'.frm.there _ q
   obtain ⟨o2,g4,g5⟩:=isit
   rw [g1] at g4; cases g4; rw [Ycu g3] at g5; cases g5
 by_cases hlt:i < items.length
 · have hx:items[i]?=some items[i]:=Zp hlt
   refine Yo8 I'.rep it hn (jit i ρ' σ' j) hx fun h' t y hs' ry it'=>?_
   have hk:∀ b o,b≠Ia→s'.heap.get? b=some o→h'.get? b=some o:=fun b o hb e=>(hs'.2 b hb).trans e
   have I₃:Inv T A fs d env F ρ' ι' σ' { s' with heap:=h',toks:=t }:=I'.free hk (Zr hs'.1.symm) isit hn hbI
   have e₃:Ext T F ι s.heap ι' h':=e'.free hk (Zr hs'.1.symm) hI0
   refine Yfx (s:={ s' with heap:=h',toks:=t }) it' ?_
   refine (jturn i _ ρ' σ' j hx).elim fun ρ'' h9=>h9.elim fun hl hbody=>?_
   refine ha hsc I₃ ry hl fun h₄ t₄ I₄ e₄=>?_
   refine Zib (hbody env A fs F ι' _ hsc I₄) (fun f s₅ p=>?_) fun x s₅ p=>Yj4 hb (p.trans (e₃.trans e₄))
   obtain ⟨fl,ρ₅,σ₅,ι₅,q₅,r₅,I₅,e₅⟩:=p
   have e₆:=e₃.trans (e₄.trans e₅)
   have e45:=e₄.trans e₅
   have next:J (i+1) ρ₅ σ₅→∃ m,m < items.length - i∧JJ m s₅:=fun q=>by
     refine ⟨items.length - (i+1),Zqc hlt (Zs i),(hJJ _ _).mpr ⟨i+1,ρ₅,σ₅,ι₅,rfl,hlt,q,I₅,e₆,?_,?_⟩⟩
     · refine it'.keep e45.mono fun o ho=>?_
       obtain ⟨o',g,gi⟩:=it'.iterish
       rw [ho] at g; cases g
       exact e45.keep _ o ho hn hF fun q=>Zv ((Ycm q (by decide)).symm.trans gi)
     · obtain ⟨o',g,gi⟩:=it'.iterish
       exact e45.not_own hn (Zu g)
   induction r₅ with
   | next=>exact next q₅
   | brk=>exact ⟨.next,ρ₅,σ₅,ι₅,q₅,.next,I₅,e₆⟩
   | cont=>exact next q₅
   | ret r₅=>exact ⟨.ret _,ρ₅,σ₅,ι₅,q₅,.ret r₅,I₅,e₆⟩
 · have:i=items.length:=Zpc hi (Zo.mp hlt)
   subst this
   refine Yst (.inl (I'.aok.hd hd)) I'.rep it (jit _ ρ' σ' j) (Zl _) fun h' he hz=>?_
   have I₃:Inv T A fs d env F ρ' ι' σ' { s' with heap:=h' }:=I'.free (t:=s'.toks) (fun b o hb e=>he b o hb e) hz isit hn hbI
   exact wpAny_execs_nil ⟨.next,ρ',σ',ι',jend ρ' σ' j,.next,I₃,e'.free (fun b o hb e=>he b o hb e) hz hI0⟩
end
end
section
structure Yeo (T:Tp) (c:Str) (C:Addr):Prop where
 addr:T.c c=some C
 ga:PySem.W.findIn T.K (.ref C) "__getattribute__" = some (some (.builtin "object.__getattribute__"))
 gx:PySem.W.findIn T.K (.ref C) "__getattr__" = some none
 sa:PySem.W.findIn T.K (.ref C) "__setattr__" = some (some (.builtin "object.__setattr__"))
 dict:((PySem.W.clsIn T.K C).any (·.hasDict))=true
 over:PySem.W.plainOver T.K C=true
noncomputable def Ynu (vv:V):Bool:=vv.casesOn (true) (fun _=>true) (fun _=>true) (fun _=>true) (fun _=>true) (fun _=>true) (fun _=>false) (fun _ _=>false) (fun _=>false) (fun _=>false) (fun _=>true) (fun _=>true) (fun _=>false) (fun _ _=>false)
theorem Ywp {T:Tp}{ι:Inj}{h:Heap}{v:V}{x:Value}(e:Ynu v=true) (r:Yar T ι h v x):PySem.W.handedIn x=true:=by
 cases v <;> first | (cases e; done) | skip
 · cases r.none_inv; rfl
 · cases r.bool_inv; rfl
 · obtain ⟨zz,rfl⟩:=r.int_inv; rfl
 · obtain ⟨zz,rfl⟩:=r.str_inv; rfl
 · obtain ⟨zz,zz,zz,rfl,zz⟩:=r.tup_inv; rfl
 · obtain ⟨zz,zz,rfl,zz⟩:=r.ref_inv; rfl
 · obtain ⟨zz,zz,zz,zz,rfl,zz⟩:=r; rfl
 · obtain ⟨zz,zz,zz,rfl,zz⟩:=r; rfl
theorem Yol {α:Type}{o:Option α}{f:α→Bool}(h:o.any f=true):∃ x,o=some x∧f x=true:=by
 cases o with
 | none=>cases h
 | some x=>exact ⟨x,rfl,h⟩
theorem Yh9 {o:Obj}{es:Array DictEntry}{ep:Nat}(hd:o.data=.dict es ep) (hk:StrKeys es) (name:Str):PySem.W.lookIn name o=some (nsFind es name):=by
 unfold PySem.W.lookIn
 rw [hd]
 dsimp only
 have hn:nsFind es name=(es.toList.find? (·.key.isStr name)).map (·.val):=by
   rw [Array.find?_toList]; rfl
 rw [hn]
 cases hf:es.toList.find? (·.key.isStr name) with
 | some e=>rfl
 | none =>
   have:es.toList.any (·.refKey)=false:=by
     rw [Array.any_toList,Array.any_eq_false']
     intro e he
     refine ex2 (hk e he) fun n t h=>?_
     simp [DictEntry.refKey,h]
   simp [this]
section
variable {T:Tp}{A:Around}{fs:List Env}{d:Nat}{env:Env}{F:List Addr}{ι ι':Inj}{h h':Heap}{s:Shared}{ρ:Loc}{σ:Hp}{sc:Scope}{X:QX}{Q:QE}
inductive Ywc (T:Tp) (ι:Inj) (h:Heap) (a dx C:Addr) (fs:List (Str×V)):Prop where
 | mk (sl:Array (Option Value)) (o:Obj) (es:Array DictEntry) (ep:Nat) (h1:h.get? a=some ⟨.ref C,some dx,.plain,sl⟩) (h2:h.get? dx=some o) (h3:PySem.W.InstAt h a ⟨.ref C,some dx,.plain,sl⟩ C (some o)) (h4:o.cls=.type "dict") (h5:o.data=.dict es ep) (h6:StrKeys es) (h7:∀ x,Ycz T ι h (fs.lookup x) (nsFind es x)):Ywc T ι h a dx C fs
theorem Rep.inst_at (r:Rep T ι σ h) {l:Nat}{c:Str}{fs:List (Str×V)}{a dx:Addr}{C:Addr}(e:σ[l]?=some (.inst c fs)) (q:ι[l]?=some (a,dx)) (hc:T.c c=some C):Ywc T ι h a dx C fs:=by
 obtain ⟨C',m,sl,c1,c2,⟨o,es,ep,d1,d2,d3,d4,d5,d6,d7⟩,c4⟩:=r.objs l _ _ e q
 cases Yai (hc.symm.trans c1)
 exact ⟨sl,o,es,ep,c2,d1,⟨c2,rfl,rfl,d1⟩,d2,d4,d5,fun x=>d7 x▸c4 x⟩
theorem Yrb {K:PySem.W.Frag}{C:Addr}{attr:Str}{o:Obj}{es:Array DictEntry}{ep:Nat}{y:Value}(hd:((PySem.W.clsIn K C).any (·.hasDict))=true) (hf:PySem.W.findIn K (.ref C) attr=some none) (h4:o.data=.dict es ep) (h5:StrKeys es) (hm:nsFind es attr=some y) :
   PySem.W.findObj K C (some o) attr=some (.value y):=by
 refine (Yol hd).elim fun cd h9=>h9.elim fun hcd hdict=>?_
 unfold PySem.W.findObj
 rw [hcd,Option.bind_some,hf,Option.bind_some]
 have ow:PySem.W.ownOf cd (some o) attr=some (some y):=by
   unfold PySem.W.ownOf
   rw [hdict,if_pos rfl]
   exact (Yh9 h4 h5 attr).trans (congrArg some hm)
 show (PySem.W.ownOf cd (some o) attr).bind _=_
 rw [ow]
 rfl
theorem Ytd {ov v:V}{x:Value}{attr:Str}{l:Nat}{c:Str}{gs:List (Str×V)}{C:Addr}{e:Bool}(TO:Yaf T) (S:St T A fs d ι σ s) (r:Yar T ι s.heap (.ref l) x) (hl:σ[l]?=some (.inst c gs)) (hv:gs.lookup attr=some v) (hh:Ynu v=true)
   (hc:Yeo T c C) (hf:PySem.W.findIn T.K (.ref C) attr=some none) (q:Q v σ):wpAny (model T.prog T.w) A (getAttr x attr e) (Ybb T [] Q ι s.heap) (Yav T [] X ι s.heap) s:=by
 obtain ⟨a,dx,rfl,hι⟩:=r.ref_inv
 obtain ⟨sl,o,es,ep,h1,h2,IA,h3,h4,h5,h6⟩:=S.rep.inst_at hl hι hc.addr
 obtain ⟨y,hm,rv⟩:=(h6 attr).at hv
 exact PySem.W.get_value (TO.X0.keeps S.rep.base) IA hc.ga (Yrb hc.dict hf h4 h5 hm) (Ywp hh rv) (S.post q rv _)
noncomputable def Yck (o:Expr):Bool:=o.casesOn (fun _ _ _=>true) (fun _ _ _=>true) (fun _ _ _ _=>true) (fun _ _ _=>true) (fun _ _ _ _=>true) (fun _ _ _ _=>true) (fun _ _ _=>true) (fun _ _ _=>true) (fun _ _ _ _=>true) (fun _ _ _ _=>true) (fun _ _ _ _ _=>true) (fun _ _ _ _=>true) (fun _ _=>true) (fun _ _=>true) (fun _ _=>true) (fun _ _ _ _=>true) (fun f _ _ _=>Nat.beq f.ctorIdx 20) (fun _ _ _ _=>true) (fun _ _=>true) (fun _ _ _=>true) (fun _ _ _=>true) (fun _ _ _=>true) (fun _ _=>true) (fun _ _=>true) (fun _ _=>true) (fun _ _ _=>true) (fun _ _ _ _=>true)
theorem Ygv {o:Expr}{attr:Str}{whole:Sem Value}(h:Yck o=true):attributeBase o attr env whole=whole:=by
 cases o <;> first | rfl | skip
 cases func <;> first | exact (Zv h).elim | rfl
inductive Yad (T:Tp) (attr:Str) (Q:QE) (o:V) (σ₁:Hp):Prop where
 | mk (l:Nat) (c:Str) (gs:List (Str×V)) (v:V) (C:Addr) (h0:o=.ref l) (h1:σ₁[l]?=some (.inst c gs)) (h2:gs.lookup attr=some v) (h3:Ynu v=true) (h4:Yeo T c C) (h5:PySem.W.findIn T.K (.ref C) attr=some Option.none) (h6:Q v σ₁):Yad T attr Q o σ₁
theorem Yal.attr {value:Expr}{attr:Str}{pos:Pos}(TO:Yaf T) (hp:Yck value=true)
   (he:Yal T d sc ρ X value (fun o σ₁=>Yad T attr Q o σ₁) σ) :
   Yal T d sc ρ X (.Attribute value attr pos) Q σ:=by
 intro env A fs F ι s hsc I
 rw [arm_eval_Attribute,Ygv hp]
 refine Zhb (Zib (he env A fs F ι s hsc I) (fun x s₁ p=>?_) fun zz zz p=>p)
 obtain ⟨o,σ₁,ι₁,⟨l,c,gs,v,C,rfl,h1,h2,h3,h4,h5,q⟩,rv,rp,ex,g,oo⟩:=p
 have I₁:=I.ext ex rp g oo
 refine Zhb (wpAny_standAt (Zhb (wpAny_holding (Zib (Ytd (ov:=.none) TO I₁.st rv h1 h2 h3 h4 h5 q) (fun r s₂ p=>?_) fun zz zz p=>p.trans ex))))
 exact Zhb (wpAny_letTemporaryGo (Zjb (p.trans ex)))
structure Ybu (ty:String) (name:Str) (id:String):Prop where
 pa:PlainAttrs ty
 slot:Slot ty name id
 ty:typeOf (.builtin id)=pure (.type "method_descriptor")
noncomputable def Ysw:Option Yas→Option String
 | some (.list z1)=>some "list"
 | some (.sdict z1)=>some "dict"
 | z1=>none
theorem Yor {o:Option Yas}{ty:String}(h:Ysw o=some ty):("list" = ty∧∃ vs,o=some (.list vs))∨("dict" = ty∧∃ vs,o=some (.sdict vs)):=by
 rcases o with zz | o
 · exact (Yap h).elim
 · cases o <;> first | exact .inl ⟨Yai h,_,rfl⟩ | exact .inr ⟨Yai h,_,rfl⟩ | exact (Yap h).elim
noncomputable def Yo3 (σ:Hp) (vv:V):Option String:=vv.casesOn (none) (fun _=>none) (fun _=>none) (fun z1=>some "str") (fun _=>none) (fun l=>Ysw σ[l]?) (fun _=>none) (fun _ _=>none) (fun _=>none) (fun _=>none) (fun _=>none) (fun _=>none) (fun _=>none) (fun _ _=>none)
inductive Yd8 (T:Tp) (σ:Hp) (name:Str):V→V→Prop where
 | mth (l:Nat) (c:Str) (gs:List (Str×V)) (C fa:Addr) (h1:σ[l]?=some (.inst c gs)) (h2:gs.lookup name=none) (h3:Yeo T c C) (h4:PySem.W.findIn T.K (.ref C) name=some (some (.ref fa))) (h5:PySem.W.typeIn T.K (.ref fa)=some (.type "function")) (h6:PySem.W.keepIn T.K (.ref fa)=true):Yd8 T σ name (.ref l) (.mth c name)
 | bi {ov:V}{ty id:String}(h1:Yo3 σ ov=some ty) (h2:Ybu ty name id):Yd8 T σ name ov (.bi id)
noncomputable def Yu9 (T:Tp) (fv:Value):Prop:=∀ h',T.K.In h'→∃ k,(k=Keeper.frame∨k=Keeper.machine∨k=Keeper.boundFrame)∧PySem.W.Looks (model T.prog T.w) h' (keeperOf fv) k
theorem Yiv {ov:V}{x:Value}{ty:String}(R:Rep T ι σ s.heap) (r:Yar T ι s.heap ov x) (h1:Yo3 σ ov=some ty):s.TypeIs x ty∧∀ a,x=.ref a→∃ o,s.heap.get? a=some o∧o.dict=none:=by
 cases ov <;> first | exact (Yap h1).elim | skip
 · obtain ⟨t,rfl⟩:=r.str_inv
   cases Yai h1
   exact ⟨rfl,fun zz e=>(by cases e)⟩
 · obtain ⟨a,dx,rfl,hι⟩:=r.ref_inv
   rcases Yor h1 with ⟨rfl,vs,hvs⟩ | ⟨rfl,kvs,hvs⟩
   · refine ex2 (R.list_at hvs hι) fun items n h9=>h9.elim fun hL hv=>?_
     exact ⟨⟨_,hL,rfl⟩,fun zz e=>Value.ref.inj e▸⟨_,hL,rfl⟩⟩
   · refine (R.sdict_at hvs hι).elim fun rvs h9=>Yh5 h9 fun hd hv zz=>?_
     exact ⟨hd.mapOf.typeIs,hd.mapOf.noDict⟩
set_option maxRecDepth 20000 in
theorem Ys3 {ov:V}{id ty:String}{x:Value}{name:Str}{pl:Sem Bool}{E:Value→Shared→Prop}{R:Value×List Value→Shared→Prop}(S:St T A fs d ι σ s) (r:Yar T ι s.heap ov x) (h1:Yo3 σ ov=some ty) (h2:Ybu ty name id) (k:R (.builtin id,[x]) s):wpAny (model T.prog T.w) A (getMethod x name pl) R E s :=
 getMethod_builtin (Yiv S.rep r h1).1 h2.pa h2.slot h2.ty (Yiv S.rep r h1).2 k
theorem Yuk {ov f:V}{x:Value}{name:Str}{pl:Sem Bool}{E:Value→Shared→Prop}{R:Value×List Value→Shared→Prop}(TO:Yaf T) (S:St T A fs d ι σ s) (r:Yar T ι s.heap ov x) (hr:Yd8 T σ name ov f)
   (k:∀ fv,Yar T ι s.heap f fv→Yu9 T fv→R (fv,[x]) s):wpAny (model T.prog T.w) A (getMethod x name pl) R E s:=by
 revert r k
 induction hr with
 | mth l c gs C fa h1 h2 h3 h4 h5 h6 =>
   intro r k
   obtain ⟨a,dx,rfl,hι⟩:=r.ref_inv
   obtain ⟨sl,o,es,ep,g1,g2,IA,g3,g4,g5,g6⟩:=S.rep.inst_at h1 hι h3.addr
   have hm:nsFind es name=none:=by
     have e:=(g6 name).isSome
     rw [h2] at e
     exact Option.not_isSome_iff_eq_none.mp fun q=>Zv (e.symm.trans q)
   refine PySem.W.method_fn (TO.X0.keeps S.rep.base) IA h3.ga h3.gx h4 h5 (by unfold PySem.W.shadowIn; simp only [Yh9 g4 g5,hm]; rfl) (k _ ?_ fun h' X'=>PySem.W.keeps_K h6 h' X')
   show Tp.m _ _ _=_; unfold Tp.m
   rw [h3.addr,Option.bind_some,h4]; rfl
 | bi h1 h2=>exact fun r k=>Ys3 S r h1 h2 (k _ rfl fun h' zz=>⟨.machine,.inr (.inl rfl),PySem.W.Looks.of_pure (by unfold keeperOf; rfl)⟩)
theorem Yal.meth {o:Expr}{name:Str}{apos pos:Pos}{args:List Expr}(TO:Yaf T) (hp:Yck o=true) (ns:Yb4 args=true) (hl:(apos.endLine == pos.line)=true) (hn:args.length < 30)
   (he:Yal T d sc ρ X o (fun ov σ₁=>∃ f,Yd8 T σ₁ name ov f∧Yda T d sc ρ X args (fun vs σ₂=>Yaa T d X f (ov::vs) Q σ₂) σ₁) σ) :
   Yal T d sc ρ X (.Call (.Attribute o name apos) args [] pos) Q σ:=by
 intro env A fs F ι s hsc I
 rw [arm_eval_Call,Ygv hp]
 refine Zhb (Zib (he env A fs F ι s hsc I) (fun x s₁ p=>?_) fun zz zz p=>p)
 obtain ⟨ov,σ₁,ι₁,⟨f,hr,q⟩,rv,rp,ex,g,oo⟩:=p
 have I₁:=I.ext ex rp g oo
 refine Zhb (wpAny_standAt ?_)
 rw [Ybm ns]
 have hform:methodCallForm (args.length+([]:List Keyword).length) (args.map fun e=>(false,eval e env)) (backToKw pos (keywordEach [] env))=true:=by
   show ((args.map fun e=>(false,eval e env)).all (fun x => !x.1) && (backToKw pos (keywordEach [] env)).all (fun x=>x.1.isSome) && decide (args.length+([]:List Keyword).length+(if ([]:List Keyword).isEmpty then 0 else 1) < 30))=true
   rw [show backToKw pos (keywordEach [] env)=[] from rfl]
   simp; (clear hl; omega)
 have hpos:methodCallPos true o env apos pos=pure pos:=by unfold methodCallPos; simp [hl]
 unfold methodCall
 rw [hform]
 refine Zhb (wpAny_holding (Yuk TO I₁.st rv hr fun fv rf hk=>?_))
 refine Zhb (wpAny_of_eq hpos ?_)
 refine PySem.W.callWith_of (P:=T.K.In) (by rw [show backToKw pos (keywordEach [] env)=[] from rfl]; simp) hk (Ybz (Zib (q env A fs F ι₁ s₁ hsc I₁) (fun xs s₂ p=>?_) fun zz zz p=>p.trans ex))
 obtain ⟨vs,σ₂,ι₂,q₂,rvs,rp₂,ex₂,g₂,o₂⟩:=p
 have I₂:=I₁.ext ex₂ rp₂ g₂ o₂
 refine ⟨TO.X0.keeps I₂.rep.base,?_⟩
 refine Zib (q₂ A fs ι₂ s₂ fv (x::xs) I₂.st (rf.mono ex₂.mono) ?_) (fun zz zz p=>p.trans (ex.trans ex₂)) fun zz zz p=>p.trans (ex.trans ex₂)
 show VRels T ι₂ s₂.heap (ov::vs) (x::xs)
 exact ⟨rv.mono ex₂.mono,rvs⟩
end
end
section
noncomputable def Yca (kvs:List (Str×V)) (k:Str) (v:V):List (Str×V) :=
 if kvs.any (fun kv=>kv.1=k) then kvs.map (fun kv=>if kv.1=k then (kv.1,v) else kv) else kvs++[(k,v)]
theorem Ygx {α:Type}:∀ (kvs:List (Str×α)) (k:Str),(kvs.lookup k).isSome=kvs.any fun kv=>kv.1=k:=by
 intro xx
 induction xx with
 | nil =>
   intro z1
   exact rfl
 | cons pp r ih =>
   obtain ⟨k',v⟩:=pp
   intro k
   rw [List.lookup_cons,List.any_cons]
   by_cases h:k=k'
   · subst h; simp
   · have h1:(k == k')=false:=Zmc.mpr h
     have h2:decide (k'=k)=false:=Zrc (Ne.symm h)
     rw [h1,h2]; simpa using ih k
theorem Yc3 {α:Type}:∀ (a b:List (Str×α)) (k:Str),(a++b).lookup k=(a.lookup k).or (b.lookup k):=by
 intro xx
 induction xx with
 | nil =>
   intro b k
   simp
 | cons pp r ih =>
   obtain ⟨k',v⟩:=pp
   intro b k
   rw [List.cons_append,List.lookup_cons,List.lookup_cons]
   cases (k == k')
   · exact ih b k
   · simp
theorem Ymk {v:V}{k:Str}:∀ (kvs:List (Str×V)) (x:Str),(kvs.map fun kv=>if kv.1=k then (kv.1,v) else kv).lookup x=if x=k then (kvs.lookup k).map fun zz=>v else kvs.lookup x:=by
 intro xx
 induction xx with
 | nil =>
   intro x
   simp
 | cons pp r ih =>
   obtain ⟨k',w⟩:=pp
   intro x
   rw [List.map_cons]
   by_cases h:k'=k
   · subst h
     simp only [if_true,List.lookup_cons]
     by_cases hx:x=k'
     · subst hx; simp
     · rw [Zmc.mpr hx,if_neg hx,ih x,if_neg hx]
   · simp only [h,if_false,List.lookup_cons]
     by_cases hx:x=k'
     · subst hx; simp [h]
     · rw [Zmc.mpr hx,ih x,Zmc.mpr (Ne.symm h)]
theorem Ye5 (kvs:List (Str×V)) (k x:Str) (v:V):(Yca kvs k v).lookup x=if x=k then some v else kvs.lookup x:=by
 unfold Yca
 have ha:=Ygx kvs k
 split
 · rename_i h
   rw [h] at ha
   rw [Ymk]
   by_cases hx:x=k
   · rw [if_pos hx,if_pos hx]
     obtain ⟨w,hw⟩:=Option.isSome_iff_exists.mp ha
     rw [hw]; rfl
   · rw [if_neg hx,if_neg hx]
 · rename_i h
   rw [Bool.not_eq_true] at h
   rw [h] at ha
   have hn:kvs.lookup k=none:=by cases q:kvs.lookup k with | none=>rfl | some _=>rw [q] at ha; cases ha
   rw [Yc3]
   by_cases hx:x=k
   · subst hx; rw [hn,if_pos rfl]; simp
   · rw [if_neg hx]
     have:([(k,v)]:List (Str×V)).lookup x=none:=by rw [List.lookup_cons,Zmc.mpr hx]; rfl
     rw [this]; simp
theorem Yi5 (kvs:List (Str×V)) (k:Str) (v:V):(Yca kvs k v).length=if (kvs.lookup k).isSome then kvs.length else kvs.length+1:=by
 rw [Ygx]; unfold Yca; split <;> simp
section
variable {T:Tp}{A:Around}{fs:List Env}{d:Nat}{env:Env}{F:List Addr}{ι ι':Inj}{h h':Heap}{s:Shared}{ρ:Loc}{σ:Hp}{sc:Scope}{X:XS}{Q:QS}
theorem Yhd.set {rvs:List (Str×Value)}{kvs:List (Str×V)}{k:Str}{v:V}{x:Value}(e:Yhd T ι h kvs rvs) (r:Yar T ι h v x):Yhd T ι h (Yca kvs k v) (stored rvs k x):=by
 unfold Yca stored
 rw [e.any (k:=k)]
 cases (kvs.any fun kv=>decide (kv.1=k))
 · exact e.push r
 · exact e.put (fun zz=>rfl) r
noncomputable def Ydw (kvs:List ((Str×Int)×V)) (k:Str×Int) (v:V):List ((Str×Int)×V) :=
 if kvs.any (fun kv=>kv.1=k) then kvs.map (fun kv=>if kv.1=k then (kv.1,v) else kv) else kvs++[(k,v)]
theorem Ye1.putA {R:V→Value→Prop}{xs:List ((Str×Int)×Addr×Value)}{kvs:List ((Str×Int)×V)}{k:Str×Int}{v:V}{x:Value}(e:Ye1 (fun v p=>R v p.2) kvs xs) (r:R v x):Ye1 (fun v p=>R v p.2) (kvs.map fun kv=>if kv.1=k then (kv.1,v) else kv) (xs.map (putAt k x)):=by
 induction e with
 | nil=>exact .nil
 | @cons k' z1 y z2 z3 h z4 ih =>
   rw [List.map_cons,List.map_cons,putAt]
   by_cases e:k'=k
   · rw [if_pos e,if_pos e]; exact .cons (x:=(y.1,x)) r ih
   · rw [if_neg e,if_neg e]; exact .cons h ih
theorem Yis.set {xs:List ((Str×Int)×Addr×Value)}{kvs:List ((Str×Int)×V)}{k:Str×Int}{v:V}{x:Value}{a:Addr}(e:Yis T ι h kvs xs) (r:Yar T ι h v x):Yis T ι h (Ydw kvs k v) (storedH xs k a x):=by
 unfold Ydw storedH
 rw [e.isSome (k:=k)]
 cases (kvs.any fun kv=>decide (kv.1=k))
 · exact Ye1.push (x:=(a,x)) e r
 · exact Ye1.putA e r
theorem St.turned {l:Nat}{p:Addr×Addr}{o:Yas}{a:Addr}{ob ob':Obj}{t:Nat}(I:St T A fs d ι σ s) (hp:ι[l]?=some p) (hs:Heap.SameBut a s.heap h') (ha:a=p.1∨a=p.2)
   (h1:s.heap.get? a=some ob) (h2:h'.get? a=some ob') (hc:ob'.cls=ob.cls) (hf:Yax ob=false) (ho:Yd7 ι s.heap ι h'→Yh4 T ι h' o p) :
   St T A fs d ι (σ.set l o) { s with heap:=h',toks:=t }∧Ext T [] ι s.heap ι h':=by
 have hin:a∈own ι:=Ycj.mpr ⟨p,Zn hp,ha⟩
 have e:Ext T [] ι s.heap ι h':=.of_sameBut hs h1 h2 hc hf (.inl hin)
 exact ⟨I.ext (s':={ s with heap:=h',toks:=t }) e (I.rep.turn hp e.mono hs ha (ho e.mono)) I.gens I.os,e⟩
theorem szo1 {n:Nat}(h:n < 1000):n+1≤sizeLine:=Za h (by decide)
theorem Ylv {z:Str}{u:V}:∀ {gs:List (Str×V)},gs.lookup z=some u→z∈gs.map (·.1):=by
 intro xx
 induction xx with
 | nil=>intros; contradiction
 | cons pp r ih =>
   obtain ⟨k,v⟩:=pp
   intro h
   rw [List.lookup_cons] at h
   rw [List.map_cons]
   by_cases e:z=k
   · rw [e]; exact Zt
   · rw [Zmc.mpr e] at h; exact Zd _ (ih h)
theorem Yl7 {E:Value→Shared→Prop}{v:V}{x y:Value}{attr:Str}{l:Nat}{c:Str}{gs:List (Str×V)}{C:Addr}{R:Unit→Shared→Prop}(TO:Yaf T) (I:St T A fs d ι σ s) (r:Yar T ι s.heap (.ref l) x) (rv:Yar T ι s.heap v y)
   (hl:σ[l]?=some (.inst c gs)) (hc:Yeo T c C) (ht:PySem.W.takerIn T.K C attr=some none) (hsz:gs.length < 1000)
   (k:∀ h' t,St T A fs d ι (σ.set l (.inst c (Yca gs attr v))) { s with heap:=h',toks:=t }→Ext T [] ι s.heap ι h'→R () { s with heap:=h',toks:=t }):wpAny (model T.prog T.w) A (setAttr x attr y) R E s:=by
 obtain ⟨a,dx,rfl,hι⟩:=r.ref_inv
 refine ex3 (I.rep.objs l _ _ hl hι) fun C' m sl h9=>Yqo h9 fun c1 c2 hns c4=>?_
 rw [hc.addr] at c1; cases c1
 have hns0:=hns
 obtain ⟨o,es,ep,d1,d2,d3,d4,d5,d6,d7⟩:=hns0
 have IA:PySem.W.InstAt s.heap a ⟨.ref C,some dx,.plain,sl⟩ C (some o):=⟨c2,rfl,rfl,d1⟩
 have X₁:=TO.X0.keeps I.rep.base
 refine PySem.W.set_plain X₁ IA hc.sa ?_
 refine PySem.W.osa_open (s:={ s with toks:=s.toks+1 }) X₁ IA hc.over ht fun b=>?_
 obtain ⟨cd,hcd,hdict⟩:=Yol hc.dict
 refine Zhb (Zjb (Zhb (Zhb (wpAny_loadPart c2 (Zhb ((PySem.W.looks_clsIn (M:=model T.prog T.w) X₁ hcd).here (s:={ s with toks:=s.toks+1 }) ?_))))))
 rw [hdict]
 refine Zjb (a:=some dx) (Zhb (Zjb (Zhb ?_)))
 refine Yr3 (s:={ s with toks:=s.toks+1 }) hns fun h' hn' hs=>?_
 have wi:Within (fun x=>if x=attr then some y else m x) (attr::gs.map (·.1)):=Within.cons attr y fun z hz=>by
   have c4:=c4 z
   cases hg:gs.lookup z with
   | none=>rw [hg] at c4; exact (hz (Option.isNone_iff_eq_none.mp (by rw [← Option.not_isSome,c4.isSome]; rfl))).elim
   | some u=>exact Ylv hg
 refine ex3 (hn'.ns1.count wi) fun o' es' ep' e'=>?_
 have e1:=e'.1
 refine Zhb (wpAny_lookBehind (s:={ s with heap:=h',toks:=s.toks+1+1 }) e1 (by rw [e'.2.1]; exact pastItsLine_dict (Za e'.2.2 (by rw [List.length_cons,Zc]; exact Zeb (szo1 hsz)))) ?_)
 refine Zjb ?_
 have hne:a≠dx:=fun q=>by rw [q,d1] at c2; cases c2; cases d4
 have e2:o'.cls=o.cls:=hn'.rec fun o2 zz zz f1 f2 zz zz zz zz zz=>(congrArg Obj.cls (Yai (e1.symm.trans f1))).trans (f2.trans d2.symm)
 obtain ⟨S',ex⟩:=St.turned (t:=s.toks+1+1) (o:=.inst c (Yca gs attr v)) I hι hs (.inr rfl) d1 e1 e2 (by simp [Yax,d2]) fun mo =>
   ⟨C,_,sl,hc.addr,(hs.2 a hne).trans c2,hn',fun z=>by
     rw [Ye5]
     by_cases q:z=attr
     · rw [if_pos q,if_pos q]; exact .some (rv.mono mo)
     · rw [if_neg q,if_neg q]; exact (c4 z).mono mo⟩
 exact k h' _ S' ex
inductive Yaj (T:Tp) (attr:Str) (ρ:Loc) (Q:QS) (v ov:V) (σ₂:Hp):Prop where
 | mk (l:Nat) (c:Str) (gs:List (Str×V)) (C:Addr) (h0:ov=.ref l) (h1:σ₂[l]?=some (.inst c gs)) (h2:Yeo T c C) (h3:PySem.W.takerIn T.K C attr=some none) (h4:gs.length < 1000) (h5:Q .next ρ (σ₂.set l (.inst c (Yca gs attr v)))):Yaj T attr ρ Q v ov σ₂
inductive Yat (ρ:Loc) (Q:QS) (v ov iv:V) (σ₃:Hp):Prop where
 | mk (l:Nat) (k:Str) (kvs:List (Str×V)) (h0:ov=.ref l) (h1:iv=.str k) (h2:σ₃[l]?=some (.sdict kvs)) (h3:kvs.length≤sizeLine) (h4:Q .next ρ (σ₃.set l (.sdict (Yca kvs k v)))):Yat ρ Q v ov iv σ₃
 | pr (l:Nat) (k:Str×Int) (kvs:List ((Str×Int)×V)) (h0:ov=.ref l) (h1:iv=.tup [.str k.1,.int k.2]) (h2:σ₃[l]?=some (.tdict kvs)) (h3:kvs.length≤sizeLine) (h4:Q .next ρ (σ₃.set l (.tdict (Ydw kvs k v)))):Yat ρ Q v ov iv σ₃
theorem Yba.setAttr {o value:Expr}{attr:Str}{pos' pos:Pos}(TO:Yaf T)
   (q:Yal T d sc ρ X value (fun v σ₁=>Yal T d sc ρ X o (fun ov σ₂=>Yaj T attr ρ Q v ov σ₂) σ₁) σ) (hc:Ye3 value=true ) :
   Yba T d sc ρ X (.Assign [.Attribute o attr pos'] value pos) Q σ:=by
 intro env A fs F ι s hsc I
 refine plainObj_wpAny_Assign_Attribute (Zib (q env A fs F ι s hsc I) (fun y s₁ p=>?_) fun zz zz p=>p.sx I fun zz zz k=>k) (Yfh hc)
 obtain ⟨v,σ₁,ι₁,q,rv,rp,ex,g,oo⟩:=p
 have I₁:=I.ext ex rp g oo
 refine Zib (q env A fs F ι₁ s₁ hsc I₁) (fun x s₂ p=>?_) fun zz zz p=>(p.sx I₁ fun zz zz k=>k).trans ex.up
 obtain ⟨ov,σ₂,ι₂,⟨l,c,gs,C,rfl,h1,h2,h3,h4,q⟩,ro,rp₂,ex₂,g₂,o₂⟩:=p
 have I₂:=I₁.ext ex₂ rp₂ g₂ o₂
 refine Yl7 TO I₂.st ro (rv.mono ex₂.mono) h1 h2 h3 h4 fun h' t S' e'=>?_
 exact ⟨.next,ρ,_,ι₂,q,.next,I₂.ext (s':={ s₂ with heap:=h',toks:=t }) e' S'.rep S'.gens S'.os,(ex.trans (ex₂.trans e')).up⟩
theorem Yfl {a:Addr}{rvs:List (Str×Value)}(hd:h.DictOf (strKind T.prog T.w) a rvs):∃ o,h.get? a=some o∧o.cls=.type "dict":=by obtain ⟨o,zz,zz,b1,b2,zz⟩:=hd; exact ⟨o,b1,b2.1⟩
theorem Yik {a:Addr}{rvs:List ((Str×Int)×Addr×Value)}(hd:h.DictOfH (Ydr T.prog T.w) a rvs):∃ o,h.get? a=some o∧o.cls=.type "dict":=by obtain ⟨o,zz,zz,b1,b2,zz⟩:=hd; exact ⟨o,b1,b2.1⟩
theorem Yd4 {o:Obj}(h:o.cls=.type "dict"):Yax o=false:=by unfold Yax; rw [h]; decide
theorem Yjs {E:Value→Shared→Prop}{v:V}{x z y:Value}{l:Nat}{k:Str}{kvs:List (Str×V)}{R:Unit→Shared→Prop}(S:St T A fs d ι σ s) (ro:Yar T ι s.heap (.ref l) x) (ri:Yar T ι s.heap (.str k) z) (rv:Yar T ι s.heap v y) (h1:σ[l]?=some (.sdict kvs)) (h2:kvs.length≤sizeLine)
   (kk:∀ h' t,St T A fs d ι (σ.set l (.sdict (Yca kvs k v))) { s with heap:=h',toks:=t }→Ext T [] ι s.heap ι h'→R () { s with heap:=h',toks:=t }):wpAny (model T.prog T.w) A (setItem x z y) R E s:=by
 obtain ⟨a,dx,rfl,hι⟩:=ro.ref_inv
 obtain ⟨t,rfl⟩:=ri.str_inv
 obtain ⟨hp,rvs,hd,hv⟩:=S.rep.objs l _ _ h1 hι
 refine wpAny_setItem_pairs (knd:=PySem.strKind T.prog T.w) (k:=k) (by simp [PySem.strKind,Value.isStrOf]) hd (fun h' hd' hs=>?_) (hv.length▸h2)
 obtain ⟨ob,b1,b2⟩:=Yfl hd
 obtain ⟨ob',b1',b2'⟩:=Yfl hd'
 obtain ⟨S',ex⟩:=St.turned (t:=s.toks+1) (o:=.sdict (Yca kvs k v)) S hι hs (.inl rfl) b1 b1' (b2'.trans b2.symm) (Yd4 b2) fun mo =>
   ⟨hp,_,hd',Yhd.set (hv.imp fun zz zz r=>r.mono mo) (rv.mono mo)⟩
 exact kk h' _ S' ex
theorem Ylx {E:Value→Shared→Prop}{v:V}{x z y:Value}{l:Nat}{k:Str×Int}{kvs:List ((Str×Int)×V)}{R:Unit→Shared→Prop}(S:St T A fs d ι σ s) (ro:Yar T ι s.heap (.ref l) x) (ri:Yar T ι s.heap (.tup [.str k.1,.int k.2]) z) (rv:Yar T ι s.heap v y) (h1:σ[l]?=some (.tdict kvs)) (h2:kvs.length≤sizeLine)
   (kk:∀ h' t,St T A fs d ι (σ.set l (.tdict (Ydw kvs k v))) { s with heap:=h',toks:=t }→Ext T [] ι s.heap ι h'→R () { s with heap:=h',toks:=t }):wpAny (model T.prog T.w) A (setItem x z y) R E s:=by
 obtain ⟨a,dx,rfl,hι⟩:=ro.ref_inv
 obtain ⟨a',rfl,hk⟩:=ri.pair
 obtain ⟨hp,rvs,hd,hv⟩:=S.rep.objs l _ _ h1 hι
 refine wpAny_setItem_heap (knd:=Ydr T.prog T.w) (k:=k) (show A.units+1 < cLine from Yk8 (x:=0) S.aok.units (by decide)) hk hd (fun h' hd' hs=>?_) (hv.length▸h2)
 obtain ⟨ob,b1,b2⟩:=Yik hd
 obtain ⟨ob',b1',b2'⟩:=Yik hd'
 obtain ⟨S',ex⟩:=St.turned (t:=s.toks+3) (o:=.tdict (Ydw kvs k v)) S hι hs (.inl rfl) b1 b1' (b2'.trans b2.symm) (Yd4 b2) fun mo =>
   ⟨hp,_,hd',Yis.set (hv.imp fun zz zz r=>r.mono mo) (rv.mono mo)⟩
 exact kk h' _ S' ex
theorem Yba.setItem {o i value:Expr}{pos' pos:Pos}
   (q:Yal T d sc ρ X value (fun v σ₁=>Yal T d sc ρ X o (fun ov σ₂=>Yal T d sc ρ X i (fun iv σ₃=>Yat ρ Q v ov iv σ₃) σ₂) σ₁) σ) (hc:Ye3 value=true ) :
   Yba T d sc ρ X (.Assign [.Subscript o i pos'] value pos) Q σ:=by
 intro env A fs F ι s hsc I
 refine wpAny_Assign_Subscript (Zib (q env A fs F ι s hsc I) (fun y s₁ p=>?_) fun zz zz p=>p.sx I fun zz zz k=>k) (Yfh hc)
 obtain ⟨v,σ₁,ι₁,q,rv,rp,ex,g,oo⟩:=p
 have I₁:=I.ext ex rp g oo
 refine Zib (q env A fs F ι₁ s₁ hsc I₁) (fun x s₂ p=>?_) fun zz zz p=>(p.sx I₁ fun zz zz k=>k).trans ex.up
 obtain ⟨ov,σ₂,ι₂,q,ro,rp₂,ex₂,g₂,o₂⟩:=p
 have I₂:=I₁.ext ex₂ rp₂ g₂ o₂
 refine Zib (q env A fs F ι₂ s₂ hsc I₂) (fun z s₃ p=>?_) fun zz zz p=>(p.sx I₂ fun zz zz k=>k).trans (ex.trans ex₂).up
 obtain ⟨iv,σ₃,ι₃,so,ri,rp₃,ex₃,g₃,o₃⟩:=p
 have I₃:=I₂.ext ex₃ rp₃ g₃ o₃
 have ro:=ro.mono ex₃.mono
 have rv:=rv.mono (ex₂.trans ex₃).mono
 have fin:∀ {σ₄:Hp}{h':Heap}{t:Nat},Q .next ρ σ₄→St T A fs d ι₃ σ₄ { s₃ with heap:=h',toks:=t }→Ext T [] ι₃ s₃.heap ι₃ h'→Yeu T A fs d env F Q ι s.heap .next { s₃ with heap:=h',toks:=t }:=fun {zz h' t} q S' e' =>
   ⟨.next,ρ,_,ι₃,q,.next,I₃.ext (s':={ s₃ with heap:=h',toks:=t }) e' S'.rep S'.gens S'.os,(ex.trans (ex₂.trans (ex₃.trans e'))).up⟩
 rcases so with ⟨l,k,kvs,rfl,rfl,h1,h2,qq⟩ | ⟨l,k,kvs,rfl,rfl,h1,h2,qq⟩
 · exact Yjs I₃.st ro ri rv h1 h2 fun h' t S' e'=>fin qq S' e'
 · exact Ylx I₃.st ro ri rv h1 h2 fun h' t S' e'=>fin qq S' e'
end
section
variable {T:Tp}{A:Around}{fs:List Env}{d:Nat}{env:Env}{F:List Addr}{ι ι':Inj}{h h':Heap}{s:Shared}{ρ:Loc}{σ:Hp}{sc:Scope}{X:QX}{Q:QE}
theorem Yal.dict {pos:Pos}(q:Q (.ref σ.length) (σ++[.sdict []])):Yal T d sc ρ X (.Dict [] [] pos) Q σ:=by
 intro env A fs F ι s hsc I
 refine wpAny_Dict_empty ?_
 have hget:(s.heap.push { cls:=.type "dict",data:=.dict #[] }).get? s.heap.objs.size=some { cls:=.type "dict",data:=.dict #[] }:=Zsc _ rfl
 have no:s.heap.objs.size∉own ι:=fun z=>absurd (I.rep.own_lt z) (Zub _)
 have e:=Ext.push T [] ι s.heap { cls:=.type "dict",data:=.dict #[] }
 refine ⟨_,_,ι++[(s.heap.objs.size,s.heap.objs.size)],q,?_,(I.rep.push _).more (p:=(s.heap.objs.size,s.heap.objs.size)) ⟨rfl,[],?_,.nil⟩ I.rep.size I.rep.size no no,⟨⟨[(s.heap.objs.size,s.heap.objs.size)],rfl,by simp⟩,e.size,e.cls,e.frz,e.keep,e.frm⟩,I.gens,I.os⟩
 · exact ⟨s.heap.objs.size,s.heap.objs.size,rfl,by rw [← I.rep.len]; simp⟩
 · exact ⟨_,#[],0,hget,⟨rfl,rfl,rfl⟩,rfl,fun zz h=>by simp at h,.nil,by simp⟩
theorem Yaa.make {c:Str}{C fI:Addr}{args:List V}(TO:Yaf T) (hc:T.c c=some C) (hm:PySem.W.makesIn T.K C=true) (hi:PySem.W.findIn T.K (.ref C) "__init__" = some (some (.ref fI))) (ht:PySem.W.typeIn T.K (.ref fI)=some (.type "function"))
   (hb:Yb5 T d X (.mth c "__init__") (.ref σ.length::args) (fun v σ'=>v=.none∧Q (.ref σ.length) σ') (σ++[.inst c []])):Yaa T (d+1) X (.glob c) args Q σ:=by
 intro A fs ι s fv xs S rf rxs
 have hg:T.g c=some (.ref C):=by
   exact Yh2 hc
 cases hg.symm.trans rf
 have X₁:=TO.X0.keeps S.rep.base
 refine wpAny_call ?_
 obtain ⟨hh,gn,dr,tk,os⟩:=s
 refine PySem.W.make_core (PySem.W.makes_of X₁ hm) (PySem.W.looks_findIn X₁ hi) (fun self=>PySem.W.bind_fn X₁ self ht) (.inl rfl) ?_
 have no:∀ a,hh.objs.size≤a→a∉own ι:=fun a ha q=>absurd (S.rep.own_lt q) (Zo.mpr ha)
 have e1:=Ext.push T [] ι hh PySem.W.emptyDict
 have e2:=Ext.push T [] ι (hh.push PySem.W.emptyDict) (PySem.W.instObj C hh.objs.size)
 have e0:=e1.trans e2
 have hd:((hh.push PySem.W.emptyDict).push (PySem.W.instObj C hh.objs.size)).get? hh.objs.size=some PySem.W.emptyDict:=Zx _ (Zsc _ rfl)
 have hx:((hh.push PySem.W.emptyDict).push (PySem.W.instObj C hh.objs.size)).get? (hh.objs.size+1)=some (PySem.W.instObj C hh.objs.size):=by
   have:=Zsc (hh.push PySem.W.emptyDict) (o:=PySem.W.instObj C hh.objs.size) rfl
   rwa [Zqb] at this
 have hsz:hh.objs.size≤hh.objs.size+1:=by (clear S no hx; exact Zq (Zs hh.objs.size))
 have R':Rep T (ι++[(hh.objs.size+1,hh.objs.size)]) (σ++[.inst c []]) ((hh.push PySem.W.emptyDict).push (PySem.W.instObj C hh.objs.size)):=by
   have R0:Rep T ι σ hh:=S.rep
   exact ((R0.push _).push _).more (p:=(hh.objs.size+1,hh.objs.size)) ⟨C,fun zz=>none,#[],hc,hx,⟨_,#[],0,hd,rfl,rfl,rfl,fun e he=>by simp at he,List.Pairwise.nil,fun zz=>rfl⟩,fun zz=>.none⟩ (Za R0.size hsz) R0.size (no _ hsz) (no _ (Zl _))
 have eX:Ext T [] ι hh (ι++[(hh.objs.size+1,hh.objs.size)]) ((hh.push PySem.W.emptyDict).push (PySem.W.instObj C hh.objs.size)) :=
   ⟨⟨[(hh.objs.size+1,hh.objs.size)],rfl,by simp⟩,e0.size,e0.cls,e0.frz,e0.keep,e0.frm⟩
 have aok:AOk T (A.under (.builtin "type.__call__" ⟨.ref C::xs,[]⟩)) fs d (ι++[(hh.objs.size+1,hh.objs.size)]) ((hh.push PySem.W.emptyDict).push (PySem.W.instObj C hh.objs.size)):=by
   have a0:=S.aok.ext eX (fun zz zz zz zz q=>by simp at q) (fun zz q=>by simp at q)
   refine ⟨a0.frames,a0.funs,?_,?_,a0.hd,a0.hx⟩
   · have:=S.aok.depth
     show A.depth+1+d≤_
     (clear a0 R' eX S no hx hsz; lia)
   · have:=S.aok.units
     show A.units+1+10*d+50≤_
     (clear a0 R' eX S no hx hsz; lia)
 have rI:Yar T (ι++[(hh.objs.size+1,hh.objs.size)]) ((hh.push PySem.W.emptyDict).push (PySem.W.instObj C hh.objs.size)) (.mth c "__init__") (.ref fI):=by
   show Tp.m _ _ _=_; unfold Tp.m; rw [hc,Option.bind_some,hi]; rfl
 have rS:Yar T (ι++[(hh.objs.size+1,hh.objs.size)]) ((hh.push PySem.W.emptyDict).push (PySem.W.instObj C hh.objs.size)) (.ref σ.length) (.ref (hh.objs.size+1)):=by
   exact ⟨hh.objs.size+1,hh.objs.size,rfl,by rw [← S.rep.len]; simp⟩
 refine codeAny_mono (hb _ fs _ ⟨(hh.push PySem.W.emptyDict).push (PySem.W.instObj C hh.objs.size),gn,dr,tk,os⟩ (.ref fI) (.ref (hh.objs.size+1)::xs) ⟨R',aok,S.gens,S.os⟩ rI ?_) fun r s' z=>?_
 · show VRels T _ _ (_::_) (_::_)
   exact ⟨rS,rxs.mono eX.mono⟩
 · rcases r with e | (zz | zz | zz | v)
   · exact Yav.trans (T:=T) (F:=[]) (X:=X) eX z
   · exact z.elim
   · exact z.elim
   · exact z.elim
   · obtain ⟨w,σ',ι',⟨rfl,q⟩,rw',rp,ex,g,o⟩:=z
     cases rw'.none_inv
     exact ⟨rfl,.ref σ.length,σ',ι',q,rS.mono ex.mono,rp,eX.trans ex,g,o⟩
end
end
section
noncomputable def Yhz (scope sc:Scope):Scope :=
 { scope with names:=scope.names.map fun (n,k)=>if (k == .free && sc.kind == .function && sc.names.lookup n == some .cell) then (n,.cell) else (n,k) }
noncomputable def Ybo (scope:Scope) (ρ:Loc):Loc:=fun x=>if scope.names.lookup x=some .free then ρ x else none
noncomputable def Yjo (sc:Scope) (n:Str) (k:NameKind):NameKind:=if (k == .free && sc.kind == .function && sc.names.lookup n == some .cell) then .cell else k
theorem Yce {sc:Scope}:∀ (names:List (Str×NameKind)) (x:Str),
   (names.map fun (n,k)=>if (k == NameKind.free && sc.kind == .function && sc.names.lookup n == some .cell) then (n,NameKind.cell) else (n,k)).lookup x=(names.lookup x).map (Yjo sc x)
 | [],z1=>rfl
 | (n,k)::r,x=>by
   have ih:=Yce (sc:=sc) r x
   rw [List.map_cons,List.lookup_cons]
   have e:(if (k == NameKind.free && sc.kind == .function && sc.names.lookup n == some .cell) then (n,NameKind.cell) else (n,k))=(n,Yjo sc n k):=by
     unfold Yjo; split <;> rfl
   dsimp only
   rw [e,List.lookup_cons]
   cases hx:x == n with
   | true=>rw [beq_iff_eq.mp hx]; rfl
   | false=>exact ih
noncomputable def Yf5 (env:Env) (acc:List (Str×Addr)) (p:Str×NameKind):List (Str×Addr):=if p.2 == .free then (p.1,(env.cells.lookup p.1).getD 0)::acc else acc
noncomputable def Ybk (env:Env) (names:List (Str×NameKind)) (acc:List (Str×Addr)):List (Str×Addr):=names.foldl (Yf5 env) acc
theorem Yel {env:Env}{q:Str×Addr}(names:List (Str×NameKind)):∀ acc,q∈Ybk env names acc↔q∈acc∨((q.1,NameKind.free)∈names∧q.2=(env.cells.lookup q.1).getD 0) :=
 names.rec (fun acc=>⟨.inl,fun h=>h.elim id fun h=>(by cases h.1)⟩) fun p r ih acc=>(ih (Yf5 env acc p)).trans (by
   unfold Yf5
   by_cases hk:(p.2 == NameKind.free)=true
   · rw [if_pos hk,Zg,Zg]
     have e:=beq_iff_eq.mp hk
     exact ⟨fun h=>h.elim (fun h=>h.elim (fun h=>.inr ⟨.inl (by rw [h,← e]),by rw [h]⟩) .inl) fun h=>.inr ⟨.inr h.1,h.2⟩,
       fun h=>h.elim (fun h=>.inl (.inr h)) fun h=>h.1.elim (fun g=>.inl (.inl (by rw [← show (q.1,NameKind.free)=p from g,← h.2]))) fun g=>.inr ⟨g,h.2⟩⟩
   · rw [if_neg hk,Zg]
     exact ⟨fun h=>h.imp_right fun h=>⟨.inr h.1,h.2⟩,fun h=>h.imp_right fun h=>⟨h.1.resolve_left fun g=>hk (g▸rfl),h.2⟩⟩)
theorem Yl2 {env:Env}{scope:Scope}(h:∀ x∈scope.names,x.2=.free→(env.cells.lookup x.1).isSome=true):closureFor scope env=pure (Ybk env scope.names []):=by
 have:∀ (names:List (Str×NameKind)) (acc:List (Str×Addr)),(∀ x∈names,x.2=.free→(env.cells.lookup x.1).isSome=true) →
     (forIn names acc fun (x:Str×NameKind) (cs:List (Str×Addr))=>(if x.2 == NameKind.free then (do let a ← cellOf env x.1; pure (ForInStep.yield ((x.1,a)::cs))) else pure (ForInStep.yield cs):Sem (ForInStep (List (Str×Addr)))))=pure (Ybk env names acc):=by
   intro names
   induction names with
   | nil=>intro acc zz; rfl
   | cons p r ih =>
     intro acc hp
     obtain ⟨n,k⟩:=p
     rw [List.forIn_cons]
     have hr:∀ x∈r,x.2=.free→(env.cells.lookup x.1).isSome=true:=fun x hx=>hp x (Zd _ hx)
     by_cases hk:(k == NameKind.free)=true
     · obtain ⟨c,hc⟩:=Option.isSome_iff_exists.mp (hp (n,k) Zt (beq_iff_eq.mp hk))
       have hc':env.cells.lookup n=some c:=hc
       have e:Yf5 env acc (n,k)=(n,c)::acc:=(if_pos hk).trans (by rw [hc']; rfl)
       rw [if_pos hk,show cellOf env n=pure c by unfold cellOf; rw [hc']]
       show (forIn r ((n,c)::acc) _:Sem _)=pure (Ybk env r (Yf5 env acc (n,k)))
       rw [e]; exact ih _ hr
     · rw [if_neg hk]
       show (forIn r acc _:Sem _)=pure (Ybk env r (Yf5 env acc (n,k)))
       rw [show Yf5 env acc (n,k)=acc from if_neg hk]; exact ih _ hr
 unfold closureFor
 have e:=this scope.names [] h
 show (forIn scope.names [] _ >>= fun cs=>pure cs)=_
 have e2:(forIn scope.names ([]:List (Str×Addr)) fun (x:Str×NameKind) (cs:List (Str×Addr))=>(match x with | (name,kind)=>if (kind == NameKind.free)=true then do let __do_lift ← cellOf env name; pure (ForInStep.yield ((name,__do_lift)::cs)) else pure (ForInStep.yield cs):Sem (ForInStep (List (Str×Addr)))))=pure (Ybk env scope.names []):=e
 first
   | (rw [e2]; rfl)
   | (simp only [bind_pure]; exact e2)
   | (simp only [bind_pure_comp,id_map']; exact e2)
theorem Ye9:∀ (names:List (Str×NameKind)) (n:Nat) (acc cl:List (Str×Addr)),cellsFrom n names (acc++cl)=cellsFrom n names acc++cl:=by
 intro xx
 induction xx with
 | nil =>
   intro z1 z2 z3
   exact rfl
 | cons pp r ih =>
   obtain ⟨z1,kind⟩:=pp
   intro n acc cl
   unfold cellsFrom
   split
   · rw [← List.cons_append]; exact ih _ _ _
   · exact ih _ _ _
theorem Yfu:∀ (names:List (Str×NameKind)) (n:Nat) (acc:List (Str×Addr)) (p:Str×Addr),p∈cellsFrom n names acc→p∈acc∨(p.1,NameKind.cell)∈names:=by
 intro xx
 induction xx with
 | nil =>
   intro z1 z2 z3 h
   exact .inl h
 | cons pp r ih =>
   obtain ⟨x,kind⟩:=pp
   intro n acc p h
   unfold cellsFrom at h
   split at h
   · rename_i hk
     rcases ih _ _ p h with h | h
     · rcases Zg.mp h with e | h
       · subst e; exact .inr (by rw [beq_iff_eq.mp hk]; exact Zt)
       · exact .inl h
     · exact .inr (Zd _ h)
   · rcases ih _ _ p h with h | h
     · exact .inl h
     · exact .inr (Zd _ h)
noncomputable def Ydh (scope sc:Scope):Bool :=
 scope.kind == .function && decide ((scope.names.map (·.1)).Nodup) && scope.names.all fun p=>p.2 != .free || (sc.names.lookup p.1 == some .cell || sc.names.lookup p.1 == some .free)
theorem Ygp {names:List (Str×NameKind)}(hn:(names.map (·.1)).Nodup) {x:Str}{k k':NameKind}(h:(x,k)∈names) (h':(x,k')∈names):k=k':=by
 induction names with
 | nil=>cases h
 | cons p r ih =>
   rw [List.map_cons,Zxc] at hn
   rcases Zg.mp h with e | h <;> rcases Zg.mp h' with e' | h'
   · rw [← e'] at e; exact (Prod.mk.inj e).2
   · exact absurd (Zsb.mpr ⟨(x,k'),h',by rw [← e]⟩) hn.1
   · exact absurd (Zsb.mpr ⟨(x,k),h,by rw [← e']⟩) hn.1
   · exact ih hn.2 h h'
section
variable {T:Tp}{A:Around}{fs:List Env}{d:Nat}{ι:Inj}{σ:Hp}{s:Shared}{sc:Scope}{env:Env}{F:List Addr}{ρ:Loc}
noncomputable def Ycq (scope:Scope) (env:Env) (L:Addr):Env :=
 { scope:=Yhz scope env.scope,locals:=L,globals:=env.globals,cells:=cellsFrom (L+1) scope.names (Ybk env scope.names []),qual:=env.qual,func:=none,code:=env.code,frame:=env.frame,builtins:=env.builtins }
theorem Yns {sc:Scope}{n:Str}:Yjo sc n .free=.cell∧sc.names.lookup n=some .cell∨Yjo sc n .free=.free:=by
 unfold Yjo
 by_cases h:(NameKind.free == .free && sc.kind == .function && sc.names.lookup n == some .cell)=true
 · rw [if_pos h]; rw [Zob,beq_iff_eq] at h; exact .inl ⟨rfl,h.2⟩
 · exact .inr (if_neg h)
theorem Ypx {sc:Scope}{n:Str}{o:Option NameKind}(h:o.map (Yjo sc n)=some .cell∨o.map (Yjo sc n)=some .free):o=some .cell∨o=some .free:=by
 cases o with
 | none=>exact h.elim (by intros; contradiction) (by intros; contradiction)
 | some k =>
   by_cases q:k=.free
   · exact .inr (congrArg some q)
   · have e:Yjo sc n k=k:=by unfold Yjo; rw [Zmc.mpr q]; rfl
     exact e▸h
theorem Yut {sc:Scope}{n:Str}(h:(some NameKind.free).map (Yjo sc n)=some .local):False :=
 Yns (sc:=sc) (n:=n).elim (fun e=>nomatch e.1.symm.trans (Yai h)) fun e=>nomatch e.symm.trans (Yai h)
theorem Yqp {sc:Scope}{n:Str}(h:(some NameKind.free).map (Yjo sc n)=some .cell):sc.names.lookup n=some .cell :=
 Yns.elim (fun e=>e.2) fun e=>nomatch e.symm.trans (Yai h)
theorem Yg6 {scope:Scope}(I:Inv T A fs d env F ρ ι σ s) (ok:Ydh scope env.scope=true) (h₁:Heap) (hh:h₁=pushCells (s.heap.push { cls:=.type "dict",data:=.dict #[] }) scope.names) :
   closureFor scope env=pure (Ybk env scope.names [])∧∃ Fn,(∀ a∈Fn,s.heap.objs.size≤a)∧Inv T A fs d (Ycq scope env s.heap.objs.size) (Fn++F) (Ybo scope ρ) ι σ { s with heap:=h₁ }∧Ext T [] ι s.heap ι h₁ ∧
     (∀ x c,scope.names.lookup x=some .local∨scope.names.lookup x=some .cell→(Ycq scope env s.heap.objs.size).cells.lookup x=some c→scope.names.lookup x=some .cell→c∈Fn)∧s.heap.objs.size∈Fn:=by
 simp only [Ydh,Zob,beq_iff_eq,decide_eq_true_eq] at ok
 obtain ⟨⟨hk,hnd⟩,hfr⟩:=ok
 have outer:∀ x,(x,NameKind.free)∈scope.names→env.kindOf x=some .cell∨env.kindOf x=some .free:=fun x hx=>by
   have:=List.all_eq_true.mp hfr _ hx
   rw [bne_self_eq_false,Bool.false_or,Bool.or_eq_true,beq_iff_eq,beq_iff_eq] at this
   exact this
 have hcl:∀ x∈scope.names,x.2=.free→(env.cells.lookup x.1).isSome=true:=fun x hx hf=>by
   obtain ⟨x,k⟩:=x
   cases hf
   obtain ⟨c,zz,zz,e1,zz⟩:=I.frm.cells x (outer x hx)
   show (env.cells.lookup x).isSome=true
   rw [e1]; rfl
 refine ⟨Yl2 hcl,?_⟩
 have ok:=cellsFrom_ok scope.names (s.heap.push { cls:=.type "dict",data:=.dict #[] }) (s.heap.objs.size+1) [] ⟨fun zz zz hm=>((by cases hm)),List.Pairwise.nil⟩ (by rw [Zqb]; exact Zl _)
 rw [Zqb,← hh] at ok
 have keep:∀ b o,s.heap.get? b=some o→h₁.get? b=some o:=fun b o e=>hh▸pushCells_keeps _ _ b o (Zx _ e)
 have hsz:s.heap.objs.size≤h₁.objs.size:=hh▸Za (by rw [Zqb]; exact Zq (Zs s.heap.objs.size)) (Yd0 _ _)
 have hL:h₁.get? s.heap.objs.size=some { cls:=.type "dict",data:=.dict #[] }:=hh▸pushCells_keeps scope.names (s.heap.push { cls:=.type "dict",data:=.dict #[] }) _ _ (Zsc s.heap rfl)
 have cc:∀ c o,h₁.get? c=some o→s.heap.objs.size+1≤c→o.cls=.type "cell":=fun c o g h=>Yee scope.names (s.heap.push { cls:=.type "dict",data:=.dict #[] }) c o (hh▸g) (by rw [Zqb]; exact h)
 clear hh
 have no:∀ a,s.heap.objs.size≤a→a∉own ι:=fun a ha q=>absurd (I.rep.own_lt q) (Zo.mpr ha)
 have csEq:(Ycq scope env s.heap.objs.size).cells=cellsFrom (s.heap.objs.size+1) scope.names []++Ybk env scope.names []:=Ye9 scope.names _ [] _
 have cm:∀ x,(x,NameKind.cell)∈scope.names→∃ c,(x,c)∈cellsFrom (s.heap.objs.size+1) scope.names []:=fun x hx=>Yd9 scope.names (s.heap.objs.size+1) [] x hx
 have cn:∀ x c,(x,c)∈cellsFrom (s.heap.objs.size+1) scope.names []→(x,NameKind.cell)∈scope.names:=fun x c h=>(Yfu _ _ _ _ h).elim (fun z=>(by cases z)) id
 generalize cellsFrom (s.heap.objs.size+1) scope.names []=cl at ok csEq cm cn
 have cellAt:∀ x c,(x,c)∈cl→s.heap.objs.size+1≤c∧∃ o,h₁.get? c=some o∧o.cls=.type "cell" ∧ o.data=.cell none:=fun x c hm=>by
   have e:=ok.empty x c hm
   exact ⟨e.2,e.1.elim fun o g=>⟨o,g.1,cc c o g.1 e.2,g.2⟩⟩
 have kd:∀ x,(Ycq scope env s.heap.objs.size).kindOf x=(scope.names.lookup x).map (Yjo env.scope x):=fun x=>Yce scope.names x
 have ownL:∀ x,scope.names.lookup x=some .cell→∃ c,(Ycq scope env s.heap.objs.size).cells.lookup x=some c∧(x,c)∈cl:=fun x hx =>
   (cm x (mem_of_lookup hx)).elim fun c hc=>(Yb0 hc).elim fun c' hc'=>⟨c',by rw [csEq,Yc3,hc']; rfl,mem_of_lookup hc'⟩
 have freeL:∀ x,scope.names.lookup x=some .free→(Ycq scope env s.heap.objs.size).cells.lookup x=env.cells.lookup x:=fun x hx=>by
   have hm:=mem_of_lookup hx
   have h1:cl.lookup x=none:=by
     cases q:cl.lookup x with
     | none=>rfl
     | some c=>cases Ygp hnd hm (cn x c (mem_of_lookup q))
   refine (Yb0 ((Yel (env:=env) (q:=(x,(env.cells.lookup x).getD 0)) scope.names []).mpr (.inr ⟨hm,rfl⟩))).elim fun c' hc'=>?_
   rw [csEq,Yc3,h1,hc']
   obtain ⟨c,hc⟩:=Option.isSome_iff_exists.mp (hcl _ hm rfl)
   have e:=((Yel scope.names []).mp (mem_of_lookup hc')).elim (fun z=>(by cases z)) fun z=>z.2
   have hc:env.cells.lookup x=some c:=hc
   rw [hc] at e ⊢; rw [show c'=c from e]; rfl
 have orig:∀ x,((Ycq scope env s.heap.objs.size).kindOf x=some .cell∨(Ycq scope env s.heap.objs.size).kindOf x=some .free)→scope.names.lookup x=some .cell∨scope.names.lookup x=some .free:=fun x hx=>Ypx (kd x▸hx)
 have e0:Ext T [] ι s.heap ι h₁:=.of_keeps hsz keep
 have I0:=I.grown hsz keep
 have Fge:∀ a∈(s.heap.objs.size::cl.map (·.2)),s.heap.objs.size≤a:=fun a ha=>by
   rcases Zg.mp ha with rfl | ha
   · exact Zl _
   · obtain ⟨⟨x,c⟩,hm,rfl⟩:=Zsb.mp ha
     exact Zkc (cellAt x c hm).1
 refine ⟨s.heap.objs.size::cl.map (·.2),Fge,⟨I0.rep,I0.aok,?_,I0.top.rec fun e r L a b c=>⟨e,r,L,a,b,c⟩,I0.gens,I0.os⟩,e0,fun x c zz hc hx=>?_,Zt⟩
 · refine ⟨hk,I.frm.glb,I.frm.blt,⟨"dict",fun zz=>none,⟨.inr rfl,fun zz=>rfl⟩,⟨_,#[],0,hL,rfl,rfl,rfl,fun e he=>by simp at he,List.Pairwise.nil,fun zz=>rfl⟩,fun x hx=>?_⟩,fun x hx=>?_,fun x y c hx hy h1 h2=>?_,Zxb _ Zt,fun x c hx hc=>?_,fun a ha=>?_,fun a ha=>?_⟩
   · have:Ybo scope ρ x=none:=by
       exact if_neg fun q=>Yut (q▸kd x▸hx)
     rw [this]; exact .none
   · rcases orig x hx with q | q
     · obtain ⟨c,hc,hm⟩:=ownL x q
       obtain ⟨g1,o,g2,g3,g4⟩:=cellAt x c hm
       refine ⟨c,o,none,hc,g2,g3,g4,?_,no c (Zkc g1)⟩
       have:Ybo scope ρ x=none:=by unfold Ybo; rw [if_neg (by rw [q]; simp)]
       rw [this]; exact .none
     · obtain ⟨c,o,v,f1,f2,f3,f4,f5,f6⟩:=I0.frm.cells x (outer x (mem_of_lookup q))
       refine ⟨c,o,v,(freeL x q).trans f1,f2,f3,f4,?_,f6⟩
       unfold Ybo; rw [if_pos q]; exact f5
   · have cross:∀ {x y:Str},scope.names.lookup x=some .cell→scope.names.lookup y=some .free→(Ycq scope env s.heap.objs.size).cells.lookup x=some c→(Ycq scope env s.heap.objs.size).cells.lookup y=some c→False:=fun {x y} q q' h1 h2 =>
       (ownL x q).elim fun c1 e=>(I.frm.cells y (outer y (mem_of_lookup q'))).rec fun c' o v f1 f2 zz zz zz zz=>by
         have e1:c1=c:=Yai (e.1.symm.trans h1)
         have e2:c'=c:=Yai (f1.symm.trans ((freeL y q').symm.trans h2))
         exact absurd (Zu f2) (Zo.mpr (e2▸e1▸Zkc (cellAt x _ e.2).1))
     rcases orig x hx with q | q <;> rcases orig y hy with q' | q'
     · exact (ownL x q).elim fun c1 e1=>(ownL y q').elim fun c2 e2=>name_of_addr ok.apart (Yai (e1.1.symm.trans h1)▸e1.2) (Yai (e2.1.symm.trans h2)▸e2.2)
     · exact (cross q q' h1 h2).elim
     · exact (cross q' q h2 h1).elim
     · rw [freeL x q] at h1; rw [freeL y q'] at h2
       exact I.frm.inj x y c (outer x (mem_of_lookup q)) (outer y (mem_of_lookup q')) h1 h2
   · rcases orig x (.inl hx) with q | q
     · obtain ⟨c1,e1,m1⟩:=ownL x q
       rw [hc] at e1; cases e1
       exact Zxb _ (Zd _ (Zsb.mpr ⟨_,m1,rfl⟩))
     · rw [freeL x q] at hc
       exact Zyb _ (I.frm.cin x c (Yqp (q▸kd x▸hx)) hc)
   · rcases Zm.mp ha with ha | ha
     · exact ⟨no a (Fge a ha),Za I.rep.size (Fge a ha)⟩
     · exact I0.frm.apart a ha
   · rcases Zm.mp ha with ha | ha
     · rcases Zg.mp ha with rfl | ha
       · exact ⟨_,hL,rfl,rfl⟩
       · obtain ⟨⟨x,c⟩,hm,rfl⟩:=Zsb.mp ha
         obtain ⟨zz,o,g2,g3,zz⟩:=cellAt x c hm
         exact ⟨o,g2,by simp [Yax,g3],Ynq g3 (by decide)⟩
     · exact I0.frm.there a ha
 · obtain ⟨c1,e1,m1⟩:=ownL x hx
   rw [hc] at e1; cases e1
   exact Zd _ (Zsb.mpr ⟨_,m1,rfl⟩)
end
end
section
noncomputable def Yw2 (T:Tp) (d:Nat) (sc:Scope) (ρ:Loc) (X:QX):List Expr→(Bool→Hp→Prop)→Hp→Prop
 | [],Q,σ=>Q true σ
 | [c],Q,σ=>Ydx T d sc ρ X c Q σ
 | z1,z2,z3=>False
theorem Yit {names:List (Str×NameKind)}(hn:(names.map (·.1)).Nodup) {x:Str}{k:NameKind}(h:(x,k)∈names):names.lookup x=some k:=by
 obtain ⟨k',hk'⟩:=Yb0 h
 rw [hk',Ygp hn (mem_of_lookup hk') h]
theorem Yhw {scope sc:Scope}{x:Str}(h:Yao scope x=true):Yao (Yhz scope sc) x=true:=by
 refine Yml ?_
 have e:(Yhz scope sc).names.lookup x=(scope.names.lookup x).map (Yjo sc x):=Yce scope.names x
 rw [e]
 rcases Yd2 h with q | q <;> rw [q]
 · exact .inl rfl
 · exact .inr rfl
section
variable {T:Tp}{A:Around}{fs:List Env}{d:Nat}{env:Env}{F:List Addr}{ι ι':Inj}{h h':Heap}{s:Shared}{ρ:Loc}{σ:Hp}{sc:Scope}{X:QX}{Q:QE}
theorem Inv.side {a:Addr}{o:Obj}{t:Nat}(I:Inv T A fs d env F ρ ι σ s) (hs:Heap.SameBut a s.heap h') (ho:s.heap.get? a=some o) (hl:Yb6 o=true) (hf:Yax o=false) (hc:o.cls≠.type "cell") (hn:a∉own ι) (hF:a∉F) (hb:T.b0.objs.size≤a) :
   Inv T A fs d env F ρ ι σ { s with heap:=h',toks:=t }:=by
 have hk:∀ b o,b≠a→s.heap.get? b=some o→h'.get? b=some o:=fun b o q e=>(hs.2 b q).trans e
 have m:Yd7 ι s.heap ι h':=.but hk ⟨o,ho,hl,hf⟩ ι
 have ne:∀ b z,s.heap.get? b=some z→Yb6 z=false→b≠a:=fun b z e i q=>Zv (i.symm.trans (Yai (ho.symm.trans (q▸e))▸hl))
 exact ⟨I.rep.keeps m (Zr hs.1.symm) (fun b z e=>hk b z (fun q=>absurd (Zu e) (Zo.mpr (q▸hb))) (I.rep.base b z e)) fun b hb z e=>hk b z (fun q=>hn (q▸hb)) e,
   I.aok.keeps (fun zz n zz=>n) (fun b z g zz c=>⟨z.slots,hk b z (ne b z g (by simp [Yb6,c])) g⟩) (I.aok.hx.keep fun b z C e1 e2 e3=>⟨hk b z (ne b z e1 (Yjb e2)) e1,e3⟩),
   I.frm.keeps m (fun zz n zz=>n) (fun b z g hb zz=>⟨z,hk b z (fun q=>hF (q▸hb)) g,rfl⟩) fun b z g zz zz c=>⟨z.slots,hk b z (c.elim (fun hb q=>hF (q▸hb)) fun c q=>hc (Yai (ho.symm.trans (q▸g))▸c)) g⟩,I.top,I.gens,I.os⟩
theorem Ysv {E:Value→Shared→Prop}{D:Addr}{items:Array Value}{n:Nat}{x:Value}{R:Value→Shared→Prop}(hL:IsL s.heap D items n) (hsz:items.size≤sizeLine)
   (k:∀ h' m,IsL h' D (items.push x) m→Heap.SameBut D s.heap h'→R .none { s with heap:=h' }):wpAny (model T.prog T.w) A (call (.builtin "list.append") [.ref D,x]) R E s:=by
 refine call_meets F.slot_list_append ⟨_,hL,rfl⟩ F.entry_list_append (F.args_list_append_2 _ _) (list_append D items n x hsz) ⟨hL,?_⟩
 refine k _ _ (Heap.get?_update_self _ hL rfl) (Heap.SameBut.update ..)
theorem Yq1 {E:Value→Shared→Prop}{v:V}{It:Addr}{i:Nat}{R:Value→Shared→Prop}(it:Yi1 T ι s.heap v It i) (k:R (.ref It) s):wpAny (model T.prog T.w) A (pyIter (.ref It)) R E s:=by
 induction it with
 | asc x t it=>exact wpAny_pyIter_striter_ascii it k
 | wide x t it=>exact wpAny_pyIter_striter_wide it k
 | tup vs a items n ht hv it=>exact wpAny_pyIter_tupleiter it k
 | lst l a d e it=>exact wpAny_pyIter_listiter it k
 | rng n it=>exact wpAny_pyIter_rangeiter it k
 | rev l n a d hi e it=>exact wpAny_pyIter_revIter it k
theorem Yo1 {L:Addr}{ea:Addr}{c:Str}{σ':Hp}{s':Shared}{cenv cenv':Env}{Fc:List Addr}{ρ':Loc}(hb:T.b0.objs.size≤h.objs.size) (f:Yop T h.objs.size ea c s'.heap) (hn:ea∉own ι') (I:Inv T A fs d cenv Fc ρ' ι' σ' s') (e:Ext T [] ι h ι' s'.heap) (x:X c σ')
   (hL:cenv.locals=L) (hs:Heap.SameBut L s'.heap h') (hd:L∉frs fs) (hl:h.objs.size≤L) (hnf:cenv.frame≠some cenv.locals):wpAny (model T.prog T.w) A (PySem.passOn "comprehension.variables-let-go" (.ref ea) cenv':Sem Value) (fun zz zz=>False) (Yav T [] X ι h) { s' with heap:=h' }:=by
 subst hL
 obtain ⟨cl,mm,hc,hN,zz⟩:=I.frm.ns
 obtain ⟨oL,es,ep,l1,l2,l3,l4,zz⟩:=hN
 have hk:∀ b o,b≠cenv.locals→s'.heap.get? b=some o→h'.get? b=some o:=fun b o q e=>(hs.2 b q).trans e
 have f₀:=f
 obtain ⟨C,oe,vs,v,f1,f2,f3,f4,f5,f6,f7,f8,tb,ot,ts,rfl,t2,t3,t4,t5,t6,t7⟩:=f
 have ne1:ea≠cenv.locals:=fun q=>by rw [q,l1] at f3; cases f3; rw [l4] at f5; cases f5
 have ne2:tb≠cenv.locals:=fun q=>by rw [q,l1] at t4; cases t4; rw [l4] at t6; cases t6
 have f':Yop T h.objs.size ea c h':=⟨C,oe,vs,_,f1,f2,hk _ _ ne1 f3,f4,f5,f6,f7,f8,tb,ot,ts,rfl,t2,t3,hk _ _ ne2 t4,t5,t6,t7⟩
 have ap:=I.frm.apart _ I.frm.loc
 obtain ⟨o₂,q1,q2,zz⟩:=I.frm.there _ I.frm.loc
 rw [l1] at q1; cases q1
 have S:∀ a∈frs fs,a∉own ι'∧T.b0.objs.size≤a∧∃ o,h'.get? a=some o∧o.cls=.type "frame":=fun a ha=>by
   obtain ⟨a1,a2,o,zz,zz,a3,a4,zz⟩:=I.aok.mem ha
   exact ⟨a1,a2,o,hk a o (fun q=>hd (q▸ha)) a3,a4⟩
 have hns:∀ b,b≠cenv.locals→h'.get? b=s'.heap.get? b:=fun b q=>hs.2 b q
 have q:=hc.2 hnf
 have m:Yd7 ι' s'.heap ι' h':=.but hk ⟨_,l1,by simp [Yb6,l2,q],q2⟩ ι'
 unfold PySem.passOn
 refine Zhb (wpAny_field (s:={ s' with heap:=h' }) (hk _ _ ne1 f3) f5 f8 ?_)
 rw [if_neg (by simp)]
 refine Zhb (Ydb (S:=frs fs) (s:={ s' with heap:=h' }) f' fun h'' t f''=>wpAny_throw ?_)
 have R':Rep T ι' σ' h':=I.rep.keeps m (Zr hs.1.symm) (fun b z e=>hk b z (fun q=>absurd (Zu e) (Zo.mpr (q▸ap.2))) (I.rep.base b z e)) fun b hb z e=>hk b z (fun q=>ap.1 (q▸hb)) e
 have e':Ext T [] ι h ι' h':=e.free hk (Zr hs.1.symm) hl
 exact ⟨ea,c,σ',ι',rfl,x,f''.fly,hn,R'.touch t S ⟨oe,C,hk _ _ ne1 f3,f4⟩ hn hb f2,e'.touch t (fun a ha=>(S a ha).2.2) f2,I.gens,I.os⟩
end
end
section
section
variable {T:Tp}{A:Around}{fs:List Env}{d:Nat}{env:Env}{F:List Addr}{ι ι':Inj}{h h':Heap}{s:Shared}{ρ:Loc}{σ:Hp}{sc:Scope}{X:QX}{Q:QE}
theorem Ygm {cenv:Env}{Fc:List Addr}{ρ':Loc}{ι₂:Inj}{σ₂:Hp}{s₂ s₃:Shared}{x acc:Value}{R:Value→Shared→Prop}{use:Option (Value→Sem Unit)}{EE:Value→Shared→Prop}(hE:∀ x s',Yav T [] X ι h x s'→EE x s') (hb:T.b0.objs.size≤h.objs.size) (I₂:Inv T A fs d cenv Fc ρ' ι₂ σ₂ s₂) (e₂:Ext T [] ι h ι₂ s₂.heap) (p:Yav T [] X ι₂ s₂.heap x s₃)
   (hd:cenv.locals∉frs fs) (hl:h.objs.size≤cenv.locals) (hnf:cenv.frame≠some cenv.locals) :
   notedBy (model T.prog T.w) A cenv (fun e s'=>compPost (model T.prog T.w) A EE use R acc cenv.locals (.error e) s') x s₃:=by
 obtain ⟨ea,c,σ₃,ι₃,rfl,hx,f,n,rp,e',g,o⟩:=p
 have I₃:=I₂.ext e' rp g o
 have e₃:=e₂.trans e'
 have f₃:=f.lo e₂.size
 have hle:h.objs.size≤ea:=by obtain ⟨zz,zz,zz,zz,zz,q,zz⟩:=f₃; exact q
 unfold notedBy
 refine Yot I₃ f₃ e₃.size fun h₄ t f₄=>?_
 have I₄:=I₃.touch t f₃ n hb hle
 have e₄:=e₃.touch t (fun a ha=>(by obtain ⟨_,_,o,_,_,g,gc,_⟩:=I₃.aok.mem ha; exact ⟨o,g,gc⟩)) hle
 obtain ⟨cl,mm,hc,hN,zz⟩:=I₄.frm.ns
 have key:∃ m,h₄.Ns cenv.locals m∧∀ h',Heap.SameBut cenv.locals h₄ h'→∀ cenv':Env,cenv'.locals=cenv.locals→wpAny (model T.prog T.w) A (PySem.passOn "comprehension.variables-let-go" (.ref ea) cenv':Sem Value) (fun zz zz=>False) EE { s₃ with heap:=h' } :=
   ⟨mm,hN.ns,fun h₅ hs cenv' zz=>Zib (Yo1 (s':={ s₃ with heap:=h₄ }) hb f₄ n I₄ e₄ hx rfl hs hd hl hnf) (fun zz zz f=>f) fun x s' p=>hE x s' p⟩
 cases use <;> exact key
theorem Yww {E:Value→Shared→Prop}{cenv:Env}{Fc:List Addr}{ifs:List Expr}{Q':Bool→Hp→Prop}{R:Bool→Shared→Prop}(hsc:cenv.scope=sc) (I:Inv T A fs d cenv Fc ρ ι σ s) (hi:Yw2 T d sc ρ X ifs Q' σ)
   (k:∀ b s',Yei T Q' ι s.heap b s'→R b s') (kx:∀ x s',Yav T [] X ι s.heap x s'→E x s') :
   wpAny (model T.prog T.w) A (forIn ifs true fun c r=>if r=true then do let ok ← isTrue c cenv (eval c cenv); pure (ForInStep.yield ok) else pure (ForInStep.yield r)) R E s:=by
 rcases ifs with zz | ⟨c,zz | zz⟩
 · rw [List.forIn_nil]; exact Zjb (k _ _ ⟨σ,ι,hi,I.rep,.refl ..,I.gens,I.os⟩)
 · rw [List.forIn_cons,if_pos rfl]
   refine Zhb (Zhb (Zib (hi cenv A fs Fc ι s hsc I) (fun b s' p=>Zjb ?_) fun x s' p=>kx x s' p))
   show wpAny _ _ (forIn [] b _) _ _ _
   rw [List.forIn_nil]; exact Zjb (k _ _ p)
 · exact (show False from hi).elim
theorem Ytx {ρ ρ':Loc}{x:Str}{v:Option V}(h:∀ y,y≠x→ρ' y=ρ y):upd ρ' x v=upd ρ x v:=by
 funext y; unfold upd; split
 · rfl
 · rename_i q; exact h y q
structure Yu8 (T:Tp) (F:List Addr) (ι:Inj) (h₀ h:Heap) (L:Addr):Prop where
 no:L∉own ι
 nF:L∉F
 b:T.b0.objs.size≤L
 lo:h₀.objs.size≤L
 dict:∃ m,NsC h L "dict" m
inductive Yc6 (T:Tp) (d:Nat) (sc:Scope) (ρ:Loc) (X:QX) (scope:Scope) (x:Str) (ifs:List Expr) (elt:Expr) (Q:QE) (v:V) (σ₁:Hp):Prop where
 | mk (items:List V) (J:Nat→List V→Hp→Prop) (h0:J 0 [] σ₁) (h1:∀ i acc σ,J i acc σ→Ye6 σ v=some items∧acc.length≤sizeLine) (h2:∀ acc σ,J items.length acc σ→Q (.ref σ.length) (σ++[.list acc]))
     (h3:∀ i y acc σ,J i acc σ→items[i]?=some y→Yw2 T d (Yhz scope sc) (upd (Ybo scope ρ) x (some y)) X ifs (fun b σ'=>if b then Yal T d (Yhz scope sc) (upd (Ybo scope ρ) x (some y)) X elt (fun z σ''=>J (i+1) (acc++[z]) σ'') σ' else J (i+1) acc σ') σ):Yc6 T d sc ρ X scope x ifs elt Q v σ₁
theorem Yib {elt iter:Expr}{x:Str}{px pos:Pos}{ifs:List Expr}{scope:Scope}{use:Option (Value→Sem Unit)}{RR:Value→Shared→Prop}{EE:Value→Shared→Prop}(I:Inv T A fs d env F ρ ι σ s) (hok:Ydh scope env.scope=true) (hx:Yao scope x=true) (hs:Yfb iter=true)
   (he:Ylk T d env.scope ρ X iter (fun v σ₁=>(T.hd=false∨∃ n,v=.rng n)∧Yc6 T d env.scope ρ X scope x ifs elt Q v σ₁) σ)
   (hfin:∀ v σ₂ ι₂ s₂ D L,Q v σ₂→Inv T A fs d env F ρ ι₂ σ₂ s₂→Yar T ι₂ s₂.heap v (.ref D)→Ext T [] ι s.heap ι₂ s₂.heap→Yu8 T F ι₂ s.heap s₂.heap L→compPost (model T.prog T.w) A EE use RR (.ref D) L (.ok .next) s₂)
   (hE:∀ x s',Yav T [] X ι s.heap x s'→EE x s') :
   wpAny (model T.prog T.w) A (comprehension (.ListComp elt [⟨.Name x px,iter,ifs,0⟩] scope pos) scope env (firstIterPos [⟨.Name x px,iter,ifs,0⟩] pos) (newList []) (firstAsync [⟨.Name x px,iter,ifs,0⟩]) (firstIter [⟨.Name x px,iter,ifs,0⟩] env) use) RR EE s:=by
 have hclos:=(Yg6 I hok _ rfl).1
 have hok':=hok
 simp only [Ydh,Zob,beq_iff_eq,decide_eq_true_eq] at hok'
 have hkind:=hok'.1.1
 have hnd:=hok'.1.2
 refine wpAny_comprehension_free (use:=use) (cl:=Ybk env scope.names []) rfl (fun zz=>Yi7 hs) hclos hkind (fun y hy hl=>by obtain ⟨n,k⟩:=y; cases hl; exact Yit hnd hy) ?_
 show wpAny _ A (eval iter env) _ _ s
 refine Zib (he env A fs F ι s rfl I) (fun xv s₁ p=>?_) fun zz zz p=>hE _ _ p
 refine Ym1 I p (fun v σ hQ=>hQ.2.rec fun items J j0 jit z1 z2=>⟨items,(jit 0 [] _ j0).1⟩) fun v σ₁ ι₁ Ia H2 hQ I₁ ex it0 nI0 hI0=>?_
 have hRn:=hQ.1
 refine hQ.2.rec fun items J j0 jit jend jturn=>?_
 refine wpAny_newList ?_
 dsimp only
 generalize hH3:H2.push { cls:=.type "list",data:=.seq ([]:List Value).toArray }=H3
 have sz3:H3.objs.size=H2.objs.size+1:=by rw [← hH3,Zqb]
 have l12:Ia < H2.objs.size:=it0.iterish.elim fun o h=>Zu h.1
 have l23:H2.objs.size < H3.objs.size:=sz3▸Zs _
 have l13:=Nat.lt_trans l12 l23
 have k23:∀ b o,H2.get? b=some o→H3.get? b=some o:=fun b o e=>by rw [← hH3]; exact Zx _ e
 have hD:IsL H3 H2.objs.size #[] 0:=by rw [← hH3]; exact IsL.new H2 #[]
 have I₃:Inv T A fs d env F ρ ι₁ σ₁ { s₁ with heap:=H3 }:=I₁.grown (h':=H3) (Zq l23) k23
 have e13:Ext T [] ι₁ H2 ι₁ H3:=.of_keeps (Zq l23) k23
 simp only [newFunctionEnv,Option.isSome_some,if_true]
 refine Zhb (wpAny_alloc ?_)
 refine Zhb (wpAny_layCells _ (fun name kind cells=>by cases hkc:kind == NameKind.cell <;> simp [hkc]) _ _ _ _ ?_)
 refine (Yg6 I₃ hok _ rfl).2.elim fun Fn h=>Yzd h fun hFn I₄ e34 hcell hLF=>?_
 refine Zhb ?_
 rw [List.forIn_nil]
 refine Zjb (Zjb ?_)
 dsimp only
 rw [show ({ s₁ with heap:=H3.push { cls:=.type "dict",data:=.dict #[] } }:Shared).heap.objs.size=H3.objs.size+1 from Zqb ..]
 show codeAny _ A (.compStart _ 0 (.ref Ia) (.ref H2.objs.size) (Ycq scope env H3.objs.size)) _ _
 generalize hh4:pushCells (H3.push { cls:=.type "dict",data:=.dict #[] }) scope.names=h4 at I₄ e34 ⊢
 have Lc:(Ycq scope env H3.objs.size).locals=H3.objs.size:=rfl
 generalize hce:Ycq scope env H3.objs.size=cenv at I₄ hcell Lc ⊢
 have cfr:cenv.frame=env.frame:=by rw [← hce]; rfl
 have csc:cenv.scope=Yhz scope env.scope:=by rw [← hce]; rfl
 have hb:=I.rep.size
 have hb1:=I₁.rep.size
 have hd:cenv.locals∉frs fs:=fun q=>by
   obtain ⟨zz,zz,ofr,zz,zz,a3,zz⟩:=I₁.aok.mem q
   rw [Lc] at a3
   have z:H3.objs.size < H2.objs.size:=Zu a3
   exact Nat.lt_asymm l23 z
 have hnf:cenv.frame≠some cenv.locals:=fun q=>hd (by
   obtain ⟨te,tr,tL,tfs,tf1,tf2⟩:=I₁.top
   rw [cfr,tf2] at q; rw [← Zab q,tfs]
   unfold frs; rw [List.filterMap_cons,tf1]; exact Zt)
 have hl:s.heap.objs.size≤cenv.locals:=by rw [Lc]; exact Za ex.size (Zq l23)
 have hFF:∀ a∈F,a < H2.objs.size:=fun a ha=>(I₁.frm.there a ha).lt
 have hDF:H2.objs.size∉Fn++F:=fun q=>by
   rcases Zm.mp q with q | q
   · have z:H3.objs.size≤H2.objs.size:=hFn _ q
     exact Zo.mpr z l23
   · exact Zub _ (hFF _ q)
 have no1:∀ a,H2.objs.size≤a→a∉own ι₁:=fun a ha q=>absurd (I₁.rep.own_lt q) (Zo.mpr ha)
 have k34:∀ b o,H3.get? b=some o→h4.get? b=some o:=fun b o e=>by rw [← hh4]; exact pushCells_keeps _ _ _ _ (Zx _ e)
 have it4:Yi1 T ι₁ h4 v Ia 0:=it0.keep ⟨⟨[],by simp⟩,fun a o e zz=>⟨o,k34 a o (k23 a o e),rfl⟩,fun a o e zz=>k34 a o (k23 a o e)⟩ fun o e=>k34 _ o (k23 _ o e)
 have hD4:IsL h4 H2.objs.size #[] 0:=k34 _ _ hD
 have e4:Ext T [] ι s.heap ι₁ h4:=ex.trans (e13.trans e34)
 have hD0:s.heap.objs.size≤H2.objs.size:=ex.size
 have hbI:T.b0.objs.size≤Ia:=Za hb hI0
 have loop:codeAny (model T.prog T.w) A (.compLoop (.ListComp elt [⟨.Name x px,iter,ifs,0⟩] scope pos) 0 (.ref Ia) (.ref H2.objs.size) cenv)
     (compPost (model T.prog T.w) A EE use RR (.ref H2.objs.size) cenv.locals) { s₁ with heap:=h4 }:=by
   obtain ⟨JJ,hJJ⟩:∃ JJ:Nat→Shared→Prop,∀ n s',JJ n s'↔∃ i acc σ' ι' ρ' its m,n=items.length - i∧i≤items.length∧J i acc σ'∧Inv T A fs d cenv (Fn++F) ρ' ι' σ' s'∧(∀ y,y≠x→ρ' y=Ybo scope ρ y)∧Ext T [] ι s.heap ι' s'.heap ∧
     Yi1 T ι' s'.heap v Ia i∧Ia∉own ι'∧H2.objs.size∉own ι'∧IsL s'.heap H2.objs.size its m∧VRels T ι' s'.heap acc its.toList:=⟨_,fun zz zz=>Iff.rfl⟩
   refine codeAny_loop rfl JJ (fun n s' hJ=>?_) items.length ((hJJ _ _).mpr ⟨0,[],σ₁,ι₁,Ybo scope ρ,#[],0,rfl,Zkb _,j0,I₄,fun zz zz=>rfl,e4,it4,nI0,no1 _ (Zl _),hD4,trivial⟩)
   refine ex7 ((hJJ _ _).mp hJ) fun i acc σ' ι' ρ' its m h=>Yxn h fun hn0 hi j I' hρ e' it nI nD hL hv=>?_
   clear h
   show wpAny _ _ ((compTurn (.ListComp elt [⟨.Name x px,iter,ifs,0⟩] scope pos) 0 (.ref Ia) (.ref H2.objs.size) cenv).onRaise (fun x=>do noteFrame x cenv; theTreesLotGoes x)) _ _ s'
   refine wpAny_noted ?_
   rw [compTurn_list]
   have isit:=it.iterish
   have ji:=jit i acc σ' j
   by_cases hlt:i < items.length
   · have hy:items[i]?=some items[i]:=Zp hlt
     refine Zhb (wpAny_standAt (Zhb (Yo8 I'.rep it nI ji.1 hy fun h5 t5 y5 hs5 ry it5=>?_)))
     have k5:∀ b o,b≠Ia→s'.heap.get? b=some o→h5.get? b=some o:=fun b o q e=>(hs5.2 b q).trans e
     have I5:Inv T A fs d cenv (Fn++F) ρ' ι' σ' { s' with heap:=h5,toks:=t5 }:=I'.free k5 (Zr hs5.1.symm) isit nI hbI
     have e5:Ext T [] ι s.heap ι' h5:=e'.free k5 (Zr hs5.1.symm) hI0
     have m5:Yd7 ι' s'.heap ι' h5:=.free k5 isit ι'
     have hDI:H2.objs.size≠Ia:=Zoc l12
     have hL5:IsL h5 H2.objs.size its m:=k5 _ _ hDI hL
     refine Zhb (Yfx (s:={ s' with heap:=h5,toks:=t5 }) it5 ?_)
     refine Zhb (wpAny_assign_Name (Yha I5.rep I5.frm (by rw [csc]; exact Yhw hx) ry fun h6 t6 R6 H6 e6 ds6 a6=>?_))
     have I6:=I5.stored (t:=t6) R6 H6 e6 ds6
     rw [Ytx hρ] at I6
     refine a6.elim fun a ha6=>?_
     have hs6:=ha6.1
     have ha:=ha6.2
     have aF:a∈Fn:=by
       rcases ha with rfl | ⟨ka,ca⟩
       · rw [Lc]; exact hLF
       · have hxs:scope.names.lookup x=some .local∨scope.names.lookup x=some .cell:=by
           exact Yd2 hx
         have hxc:scope.names.lookup x=some .cell:=by
           rcases hxs with q | q
           · exfalso
             have:cenv.kindOf x=(scope.names.lookup x).map (Yjo env.scope x):=by rw [← hce]; exact Yce scope.names x
             rw [ka,q] at this; simp [Yjo] at this
           · exact q
         exact hcell x a hxs ca hxc
     have aL:H3.objs.size≤a:=hFn a aF
     have k6:∀ b o,b≠a→h5.get? b=some o→h6.get? b=some o:=fun b o q e=>(hs6.2 b q).trans e
     have e6':Ext T [] ι s.heap ι' h6:=e5.free k6 (Zr hs6.1.symm) (Za (Za hD0 (Zq l23)) aL)
     have itne:Ia≠a:=Znc (Zz l13 aL)
     have Dne:H2.objs.size≠a:=Znc (Zz l23 aL)
     have it6:Yi1 T ι' h6 v Ia (i+1):=it5.keep e6.mono fun o e=>k6 _ o itne e
     have hL6:IsL h6 H2.objs.size its m:=k6 _ _ Dne hL5
     have hv6:VRels T ι' h6 acc its.toList:=(hv.mono m5).mono e6.mono
     have hv':=hv6.length
     simp only [Array.length_toList] at hv'
     have next:∀ (s7:Shared) (σ7:Hp) (ι7:Inj),J (i+1) acc σ7→Inv T A fs d cenv (Fn++F) (upd (Ybo scope ρ) x (some items[i])) ι7 σ7 s7→Ext T [] ι' h6 ι7 s7.heap→∃ m,m < n∧JJ m s7:=fun s7 σ7 ι7 j7 I7 e7=>by
       obtain ⟨oi,gi,gii⟩:=it6.iterish
       refine ⟨items.length - (i+1),hn0▸Zqc hlt (Zs i),(hJJ _ _).mpr ⟨i+1,acc,σ7,ι7,_,its,m,rfl,hlt,j7,I7,fun y hy=>by unfold upd; rw [if_neg hy],e6'.trans e7,it6.keep e7.mono fun o ho=>e7.keep _ o ho nI (by simp) fun q=>?_,e7.not_own nI (Zu gi),e7.not_own nD (Zu hL6),e7.keep _ _ hL6 nD (by simp) (by simp),hv6.mono e7.mono⟩⟩
       rw [gi] at ho; cases ho; exact Zv ((Ycm q (by decide)).symm.trans gii)
     show wpAny _ _ (forIn ifs true (fun c r=>if r=true then do let ok ← isTrue c cenv (eval c cenv); pure (ForInStep.yield ok) else pure (ForInStep.yield r)) >>= _) _ _ _
     refine Zhb (Yww csc I6 (jturn i items[i] acc σ' j hy) (fun b s7 p=>?_) fun z s7 p=>Ygm hE hb I6 e6' p hd hl hnf)
     refine p.rec fun σ7 ι7 q7 rp7 e7 g7 o7=>?_
     have I7:=I6.ext e7 rp7 g7 o7
     cases b with
     | false=>exact Zjb ⟨rfl,next s7 σ7 ι7 q7 I7 e7⟩
     | true =>
       have e67:=e6'.trans e7
       refine Zhb (Zhb (Zib (q7 cenv A fs (Fn++F) ι7 s7 csc I7) (fun z s8 p=>?_) fun z s8 p=>Ygm hE hb I7 e67 p hd hl hnf))
       refine p.rec fun zv σ8 ι8 j8 rz rp8 e8 g8 o8=>?_
       have I8:=I7.ext e8 rp8 g8 o8
       have e78:=e7.trans e8
       have hL8:IsL s8.heap H2.objs.size its m:=e78.keep _ _ hL6 nD (by simp) (by simp)
       have nD8:=e78.not_own nD (Zu hL6)
       obtain ⟨oi,gi,gii⟩:=it6.iterish
       have nI8:=e78.not_own nI (Zu gi)
       have it8:Yi1 T ι8 s8.heap v Ia (i+1):=it6.keep e78.mono fun o ho=>e78.keep _ o ho nI (by simp) fun q=>by rw [gi] at ho; cases ho; exact Zv ((Ycm q (by decide)).symm.trans gii)
       refine Zhb (Ysv hL8 (by rw [hv']; exact ji.2) fun h9 m9 hL9 hs9=>Zjb (Zjb ⟨rfl,?_⟩))
       have I9:Inv T A fs d cenv (Fn++F) (upd (Ybo scope ρ) x (some items[i])) ι8 σ8 { s8 with heap:=h9 }:=I8.side (t:=s8.toks) hs9 hL8 rfl rfl (by simp) nD8 hDF hb1
       have k9:∀ b o,b≠H2.objs.size→s8.heap.get? b=some o→h9.get? b=some o:=fun b o q e=>(hs9.2 b q).trans e
       have m9':Yd7 ι8 s8.heap ι8 h9:=.but k9 ⟨_,hL8,rfl,rfl⟩ ι8
       refine ⟨items.length - (i+1),hn0▸Zqc hlt (Zs i),(hJJ _ _).mpr ⟨i+1,acc++[zv],σ8,ι8,_,its.push z,m9,rfl,hlt,j8,I9,fun y hy=>by unfold upd; rw [if_neg hy],(e6'.trans e78).free k9 (Zr hs9.1.symm) hD0,it8.keep m9' fun o ho=>k9 _ o (Ne.symm hDI) ho,nI8,nD8,hL9,?_⟩⟩
       rw [Array.toList_push]
       refine ((hv6.mono e78.mono).mono m9').append ?_
       exact ⟨rz.mono m9',trivial⟩
   · have hil:i=items.length:=Zpc hi (Zo.mp hlt)
     refine Zhb (wpAny_standAt (Zhb (Yst (hRn.imp I'.aok.hd fun q=>⟨I'.aok.hx,q⟩) I'.rep it ji.1 (Zo.mp hlt) fun h5 he5 hz5=>Zjb ?_)))
     have I5:Inv T A fs d cenv (Fn++F) ρ' ι' σ' { s' with heap:=h5 }:=I'.free (t:=s'.toks) (fun b o q e=>he5 b o q e) hz5 isit nI hbI
     have m5:Yd7 ι' s'.heap ι' h5:=.free (fun b o q e=>he5 b o q e) isit ι'
     have e5:Ext T [] ι s.heap ι' h5:=e'.free (fun b o q e=>he5 b o q e) hz5 hI0
     have hDI:H2.objs.size≠Ia:=Zoc l12
     have hL5:IsL h5 H2.objs.size its m:=he5 _ _ hDI hL
     refine I5.frm.ns.rec fun cl mm hc hN zz=>?_
     rw [hc.2 hnf] at hN
     have mz:Yd7 ι' h5 (ι'++[(H2.objs.size,H2.objs.size)]) h5:=⟨⟨_,rfl⟩,fun zz o e zz=>⟨o,e,rfl⟩,fun zz zz e zz=>e⟩
     have R5:Rep T (ι'++[(H2.objs.size,H2.objs.size)]) (σ'++[.list acc]) h5:=I5.rep.more (o:=.list acc) (p:=(H2.objs.size,H2.objs.size)) ⟨rfl,its.toList,⟨m,by simpa using hL5⟩,(hv.mono m5).mono mz⟩ hb1 hb1 nD nD
     have moreX:∀ {ι₀:Inj}{h₀:Heap},Ext T [] ι₀ h₀ ι' h5→h₀.objs.size≤H2.objs.size→Ext T [] ι₀ h₀ (ι'++[(H2.objs.size,H2.objs.size)]) h5:=fun e6 hz=>by
       obtain ⟨κ,hκ,hκ'⟩:=e6.pre
       exact ⟨⟨κ++[(H2.objs.size,H2.objs.size)],by rw [hκ]; simp,fun p hp=>by
         rcases Zm.mp hp with hp | hp
         · exact hκ' p hp
         · cases Zj.mp hp; exact ⟨hz,hz⟩⟩,e6.size,e6.cls,e6.frz,e6.keep,e6.frm⟩
     have ap:=I5.frm.apart _ I5.frm.loc
     have nL:cenv.locals∉own (ι'++[(H2.objs.size,H2.objs.size)]):=fun q=>by
       rw [Ygn,Zm] at q
       rcases q with q | q
       · exact ap.1 q
       · have:cenv.locals=H2.objs.size:=by simpa [own] using q
         rw [Lc,sz3] at this; exact absurd this (Nat.succ_ne_self _)
     have lF:cenv.locals∉F:=fun q=>by
       have z:=hFF _ q
       rw [Lc] at z
       exact Nat.lt_asymm l23 z
     have Iout:Inv T A fs d env F ρ (ι'++[(H2.objs.size,H2.objs.size)]) (σ'++[.list acc]) { s' with heap:=h5 }:=I.ext (s':={ s' with heap:=h5 }) (moreX e5 hD0) R5 I'.gens I'.os
     refine hfin (.ref σ'.length) (σ'++[.list acc]) (ι'++[(H2.objs.size,H2.objs.size)]) { s' with heap:=h5 } H2.objs.size cenv.locals (jend acc σ' (hil▸j)) Iout ?_ (moreX e5 hD0) ⟨nL,lF,ap.2,hl,mm,hN⟩
     exact ⟨H2.objs.size,H2.objs.size,rfl,by rw [← I5.rep.len]; simp⟩
 rw [Lc] at loop
 exact codeAny_compStart_list loop (Yq1 it4 loop)
theorem Yal.compI {elt iter:Expr}{x:Str}{px pos:Pos}{ifs:List Expr}{scope:Scope}(hok:Ydh scope sc=true) (hx:Yao scope x=true) (hs:Yfb iter=true)
   (he:Ylk T d sc ρ X iter (fun v σ₁=>(T.hd=false∨∃ n,v=.rng n)∧Yc6 T d sc ρ X scope x ifs elt Q v σ₁) σ) :
   Yal T d sc ρ X (.ListComp elt [⟨.Name x px,iter,ifs,0⟩] scope pos) Q σ:=by
 intro env A fs F ι s hsc I
 subst hsc
 rw [eval_ListComp]
 refine Yib I hok hx hs he (fun v σ₂ ι₂ s₂ D L q I₂ rv e₂ lg=>?_) fun zz zz p=>p
 obtain ⟨no,nF,hb,lo,m,hN⟩:=lg
 refine ⟨m,hN.ns,fun h' hs'=>?_⟩
 obtain ⟨o,es,ep,g1,g2,zz⟩:=hN
 have I₃:Inv T A fs d env F ρ ι₂ σ₂ { s₂ with heap:=h' }:=I₂.side (t:=s₂.toks) hs' g1 (by simp [Yb6,g2]) (by simp [Yax,g2]) (by rw [g2]; simp) no nF hb
 have k:∀ b o,b≠L→s₂.heap.get? b=some o→h'.get? b=some o:=fun b o q e=>(hs'.2 b q).trans e
 exact ⟨v,σ₂,ι₂,q,rv.mono (.but k ⟨o,g1,by simp [Yb6,g2],by simp [Yax,g2]⟩ ι₂),I₃.rep,e₂.free k (Zr hs'.1.symm) lo,I₃.gens,I₃.os⟩
theorem Yal.compR {elt iter:Expr}{x:Str}{px pos:Pos}{ifs:List Expr}{scope:Scope}(hok:Ydh scope sc=true) (hx:Yao scope x=true) (hs:Yfb iter=true)
 (he:Yal T d sc ρ X iter (fun v σ₁=>(T.hd=false∨∃ n,v=.rng n)∧Yc6 T d sc ρ X scope x ifs elt Q v σ₁) σ) :
 Yal T d sc ρ X (.ListComp elt [⟨.Name x px,iter,ifs,0⟩] scope pos) Q σ:=.compI hok hx hs he.it
theorem Yal.comp {elt iter:Expr}{x:Str}{px pos:Pos}{ifs:List Expr}{scope:Scope}(hok:Ydh scope sc=true) (hx:Yao scope x=true) (hs:Yfb iter=true)
 (he:Yal T d sc ρ X iter (fun v σ₁=>Yc6 T d sc ρ X scope x ifs elt Q v σ₁) σ) (hT:T.hd=false:=by rfl) :
 Yal T d sc ρ X (.ListComp elt [⟨.Name x px,iter,ifs,0⟩] scope pos) Q σ:=.compR hok hx hs (he.mono (fun zz zz p=>⟨.inl hT,p⟩) fun zz zz p=>p)
end
end
section
section
variable {T:Tp}{A:Around}{fs:List Env}{d:Nat}{env:Env}{F:List Addr}{ι ι':Inj}{h h':Heap}{s:Shared}{ρ:Loc}{σ:Hp}{sc:Scope}{X:XS}{Q:QS}
theorem You {elt:Expr}{gens:List Comprehension}{y:Str}{py pos:Pos}{scope:Scope}{l:Nat}(hkind:env.scope.kind=.function) (hy:env.kindOf y=some .local) (hsw:(py.line == pos.line && !(scope.names.any fun (n,k)=>n == y && (k == .local || k == .cell)))=true) :
   swapsWith (.ListComp elt gens scope pos) (some (.Name y py)) l env=pure true:=by
 have:swapsWith (.ListComp elt gens scope pos) (some (.Name y py)) l env=(pure (env.blockKind == .function && env.kindOf y == some .local && py.line == pos.line && !(scope.names.any fun (n,k)=>n == y && (k == .local || k == .cell))):Sem Bool):=rfl
 rw [this]
 simp only [Zob] at hsw
 rw [hsw.1,hsw.2,hy,show env.blockKind=.function by unfold Env.blockKind; rw [hkind]; rfl]; rfl
theorem Yke {RR:Value→Shared→Prop}{EE:Value→Shared→Prop}{y:Str}{py:Pos}{v:V}{σ₂:Hp}{ι₂:Inj}{s₂:Shared}{D L:Addr}(hy:Yao env.scope y=true) (I₂:Inv T A fs d env F ρ ι₂ σ₂ s₂) (rv:Yar T ι₂ s₂.heap v (.ref D)) (e₂:Ext T [] ι s.heap ι₂ s₂.heap) (lg:Yu8 T F ι₂ s.heap s₂.heap L)
   (k:∀ s',Inv T A fs d env F (upd ρ y (some v)) ι₂ σ₂ s'→Ext T F ι s.heap ι₂ s'.heap→RR .none s') :
   compPost (model T.prog T.w) A EE (some (assign (.Name y py) env)) RR (.ref D) L (.ok .next) s₂:=by
 obtain ⟨no,nF,hb,lo,m,hN⟩:=lg
 show wpAny _ A (assign (.Name y py) env (.ref D)) _ _ s₂
 refine wpAny_assign_Name (Yha I₂.rep I₂.frm hy rv fun h₃ t₃ R₃ H₃ e₃ ds₃ a₃=>?_)
 have I₃:=I₂.stored (t:=t₃) R₃ H₃ e₃ ds₃
 obtain ⟨a,hs₃,ha⟩:=a₃
 have aF:a∈F:=by
   rcases ha with rfl | ⟨ka,ca⟩
   · exact I₂.frm.loc
   · exact I₂.frm.cin y a ka ca
 have hLa:L≠a:=fun q=>nF (q▸aF)
 have hN₃:=hN.sameBut hs₃ hLa
 refine ⟨m,hN₃.ns,fun h₄ hs₄=>?_⟩
 obtain ⟨o,es,ep,g1,g2,zz⟩:=hN₃
 have I₄:Inv T A fs d env F _ ι₂ σ₂ { s₂ with heap:=h₄,toks:=t₃ }:=I₃.side (t:=t₃) hs₄ g1 (by simp [Yb6,g2]) (by simp [Yax,g2]) (by rw [g2]; simp) no nF hb
 have kk:∀ b o,b≠L→h₃.get? b=some o→h₄.get? b=some o:=fun b o q e=>(hs₄.2 b q).trans e
 exact k _ I₄ ((e₂.up.trans e₃).free kk (Zr hs₄.1.symm) lo)
theorem Yba.assignComp {elt iter:Expr}{y x:Str}{py px pos pos':Pos}{ifs:List Expr}{scope:Scope}(hok:Ydh scope sc=true) (hx:Yao scope x=true) (hs:Yfb iter=true) (hy:sc.names.lookup y=some .local)
   (hsw:(py.line == pos.line && !(scope.names.any fun (n,k)=>n == y && (k == .local || k == .cell)))=true)
   (he:Yal T d sc ρ X iter (fun v σ₁=>Yc6 T d sc ρ X scope x ifs elt (fun w σ=>Q .next (upd ρ y (some w)) σ) v σ₁) σ) (hT:T.hd=false:=by rfl) :
   Yba T d sc ρ X (.Assign [.Name y py] (.ListComp elt [⟨.Name x px,iter,ifs,0⟩] scope pos) pos') Q σ:=by
 intro env A fs F ι s hsc I
 subst hsc
 rw [exec_Assign_Name_used _ _ _ _ (You I.frm.kind hy hsw)]
 refine Zhb (wpAny_standAt (Zhb ?_))
 show wpAny _ A (do let _ ← comprehension (.ListComp elt [⟨.Name x px,iter,ifs,0⟩] scope pos) scope env _ (newList []) false (eval iter env) (some (PySem.assign (.Name y py) env))) _ _ s
 have core:=Yib (use:=some (PySem.assign (.Name y py) env)) (RR:=fun zz s'=>Yeu T A fs d env F Q ι s.heap .next s') (EE:=Ybh T A fs d env F X ι s.heap) (Q:=fun v σ₁=>Q .next (upd ρ y (some v)) σ₁) (pos:=pos) (px:=px) I hok hx hs (he.mono (fun zz zz p=>⟨.inl hT,p⟩) fun zz zz p=>p).it
   (fun v σ₂ ι₂ s₂ D L q I₂ rv e₂ lg=>Yke (py:=py) (by unfold Yao; rw [hy]) I₂ rv e₂ lg fun s' I' e'=>⟨.next,_,σ₂,ι₂,q,.next,I',e'⟩) fun zz zz p=>p.sx I fun zz zz k=>k
 exact Zhb (Zib core (fun zz s' hq=>Zjb (Zjb hq)) fun zz zz e=>e)
theorem Yba.assignCell {x:Str}{pos' pos:Pos}{e:Expr}(q:Yal T d sc ρ X e (fun v σ'=>Q .next (upd ρ x (some v)) σ') σ) (hk:sc.names.lookup x=some .cell) :
   Yba T d sc ρ X (.Assign [.Name x pos'] e pos) Q σ:=by
 intro env A fs F ι s hsc I
 subst hsc
 have hsw:swapsWith e (some (.Name x pos')) pos.line env=pure false:=by
   have kx:env.kindOf x=some .cell:=hk
   cases e <;> first | rfl | skip
   all_goals
     show (pure (env.blockKind == .function && env.kindOf x == some .local && _ && _):Sem Bool)=pure false
     rw [kx,show (some NameKind.cell == some NameKind.local)=false from rfl,Bool.and_false,Bool.false_and,Bool.false_and]
 refine wpAny_Assign_Name (Zib (q env A fs F ι s rfl I) (fun y s₁ p=>?_) fun zz zz p=>p.sx I fun zz zz k=>k) hsw
 obtain ⟨v,σ₁,ι₁,q,rv,rp,ex,g,o⟩:=p
 have I₁:=I.ext ex rp g o
 refine Yfk I₁.rep I₁.frm (by unfold Yao; rw [hk]) rv fun h' t R' H' e' ds=>?_
 exact ⟨.next,_,σ₁,ι₁,q,.next,I₁.stored R' H' e' ds,ex.up.trans e'⟩
end
end
section
section
variable {T:Tp}{d:Nat}{X:QX}{Q:QE}{σ:Hp}{A:Around}{fs:List Env}{ι:Inj}{s:Shared}{h':Heap}
theorem VRels.one {v:V}{xs:List Value}{h:Heap}(r:VRels T ι h [v] xs):∃ x,xs=[x]∧Yar T ι h v x:=by
 obtain ⟨x,r',rfl,a,b⟩:=VRels.cons_iff.mp r; cases VRels.nil_iff.mp b; exact ⟨x,rfl,a⟩
theorem Yar.bi_inv {id:String}{x:Value}{h:Heap}(r:Yar T ι h (.bi id) x):x=.builtin id:=r
theorem Yar.type_inv {id:String}{x:Value}{h:Heap}(r:Yar T ι h (.type id) x):x=.type id:=r
noncomputable def fvV (vv:V):Value:=vv.casesOn (.none) (fun _=>.none) (fun _=>.none) (fun _=>.none) (fun _=>.none) (fun _=>.none) (fun _=>.none) (fun _ _=>.none) (fun n=>.type n) (fun id=>.builtin id) (fun _=>.none) (fun _=>.none) (fun _=>.none) (fun _ _=>.none)
theorem Yr4 {f:V}{fv:Value}{h:Heap}(hf:Yaw f=true) (r:Yar T ι h f fv):fv=fvV f:=by
 cases f <;> first | exact (Zv hf).elim | exact r
theorem Yaa.b1 {f v:V}(hf:Yaw f=true) (k:∀ {A fs ι s x},St T A fs d ι σ s→Yar T ι s.heap v x→wpAny (model T.prog T.w) A (call (fvV f) [x]) (Ybb T [] Q ι s.heap) (Yav T [] X ι s.heap) s):Yaa T d X f [v] Q σ:=fun A fs ι s fv xs S rf rxs=>by
 obtain ⟨x,rfl,r⟩:=rxs.one
 rw [Yr4 hf rf]; exact k S r
theorem Yaa.b2 {f v w:V}(hf:Yaw f=true) (k:∀ {A fs ι s x y},St T A fs d ι σ s→Yar T ι s.heap v x→Yar T ι s.heap w y→wpAny (model T.prog T.w) A (call (fvV f) [x,y]) (Ybb T [] Q ι s.heap) (Yav T [] X ι s.heap) s):Yaa T d X f [v,w] Q σ:=fun A fs ι s fv xs S rf rxs=>by
 obtain ⟨x,y,rfl,r,r2⟩:=rxs.two
 rw [Yr4 hf rf]; exact k S r r2
inductive Yv1 (T:Tp) (ι:Inj) (l:Nat) (vs:List V) (h:Heap) (x:Value):Prop where
 | mk (a dx:Addr) (items:Array Value) (m:Nat) (e:x=.ref a) (hι:ι[l]?=some (a,dx)) (hL:IsL h a items m) (hv:VRels T ι h vs items.toList) (hs:items.size=vs.length):Yv1 T ι l vs h x
theorem Rep.lst {h:Heap}{l:Nat}{vs:List V}{x:Value}(R:Rep T ι σ h) (hl:σ[l]?=some (.list vs)) (r:Yar T ι h (.ref l) x):Yv1 T ι l vs h x:=by
 obtain ⟨a,dx,rfl,hι⟩:=r.ref_inv
 refine ex2 (R.list_at hl hι) fun items m h9=>h9.elim fun hL hv=>?_
 exact ⟨a,dx,items,m,rfl,hι,hL,hv,Yd1 hv⟩
noncomputable def Yyr:Option Yas→Option Nat
 | some (.list vs)=>some vs.length
 | some (.sdict kvs)=>some kvs.length
 | z1=>none
theorem Yqc {o:Option Yas}{n:Nat}(h:Yyr o=some n):(∃ vs,o=some (.list vs)∧vs.length=n)∨∃ kvs,o=some (.sdict kvs)∧kvs.length=n:=by
 rcases o with zz | o
 · exact (Yap h).elim
 · cases o <;> first | exact .inl ⟨_,rfl,Yai h⟩ | exact .inr ⟨_,rfl,Yai h⟩ | exact (Yap h).elim
noncomputable def Ypr (σ:Hp) (vv:V):Option Nat:=vv.casesOn (none) (fun _=>none) (fun _=>none) (fun x=>some x.length) (fun vs=>some vs.length) (fun l=>Yyr σ[l]?) (fun _=>none) (fun _ _=>none) (fun _=>none) (fun _=>none) (fun _=>none) (fun _=>none) (fun xs=>some xs.length) (fun _ _=>none)
theorem Ykt {l:Nat}{vs:List V}(h:σ[l]?=some (.list vs)):Ypr σ (.ref l)=some vs.length:=congrArg Yyr h
theorem n63 {n m:Nat}(hn:n < 2 ^ 62) (e:m=n):(m:Int) < 2 ^ 63:=by lia
theorem Yy4 {n m:Nat}(hn:n < 2 ^ 62) (e:m=n):¬ (m:Int) ≥ 2 ^ 63:=Int.not_le.mpr (n63 hn e)
theorem Yaa.len {v:V}{n:Nat}(e:Ypr σ v=some n) (hn:n < 2 ^ 62) (q:Q (.int n) σ):Yaa T d X (.bi "len") [v] Q σ:=.b1 rfl fun S r=>by
 cases v <;> first | exact (Yap e).elim | skip
 · obtain ⟨t,rfl⟩:=r.str_inv
   exact len_str (Yy4 hn (Yai e)) (S.post (Yai e▸q) .int_mk _)
 · obtain ⟨a,items,m,rfl,ht,hv⟩:=r.tup_inv
   have e:=(Yd1 hv).trans (Yai e)
   exact P.len_tuple ht (Yy4 hn e) (S.post (e▸q) .int_mk _)
 · rcases Yqc e with ⟨vs,hvs,e⟩ | ⟨kvs,hvs,e⟩
   · obtain ⟨a,dx,items,m,rfl,hι,hL,hv,hs⟩:=S.rep.lst hvs r
     have e:=hs.trans e
     exact Calls.call_len_list hL.isList (n63 hn e) (S.post (e▸q) .int_mk _)
   · obtain ⟨a,dx,rfl,hι⟩:=r.ref_inv
     refine (S.rep.sdict_at hvs hι).elim fun rvs h9=>Yh5 h9 fun hd hv hs=>?_
     have e:=hv.length.trans e
     exact call_len_dict hs hd (n63 hn e) (S.post (e▸q) .int_mk _)
 · obtain ⟨a,ob,items,n,rfl,ho,hc,hd,l,hl,rfl⟩:=r
   have e:items.size=_:=(by rw [← Array.length_toList,hl,Zc,Zc]:items.size=(l.map (·.1)).length).trans (Yai e)
   exact Calls.call_len_list ⟨_,S.rep.base _ _ ho,hc,n,hd⟩ (n63 hn e) (S.post (e▸q) .int_mk _)
noncomputable def Yhc (σ:Hp) (vv:V):Option String:=vv.casesOn (some "NoneType") (fun z1=>some "bool") (fun z1=>some "int") (fun z1=>some "str") (fun z1=>some "tuple") (fun l=>atL (fun zz=>some "list") σ[l]?) (fun _=>none) (fun _ _=>none) (fun _=>none) (fun _=>none) (fun _=>none) (fun _=>none) (fun _=>none) (fun _ _=>none)
noncomputable def Yxe (σ:Hp) (v:V) (ty:String):Option Bool:=(Yhc σ v).bind fun k=>if ["list", "str", "tuple"].contains ty then some (k == ty) else none
theorem Yx5 {k:String}{ty:String}{b:Bool}(hb:(k == ty)=b) (hty:ty = "list" ∨ ty = "str" ∨ ty = "tuple") {P:String→Bool→Prop}(h1:P "list" (k == "list")) (h2:P "str" (k == "str")) (h3:P "tuple" (k == "tuple")):P ty b:=by
 subst hb
 rcases hty with rfl | rfl | rfl
 · exact h1
 · exact h2
 · exact h3
theorem Ywx {v:V}{ty k:String}{b:Bool}(hty:ty = "list" ∨ ty = "str" ∨ ty = "tuple") (hk:Yhc σ v=some k) (hb:(k == ty)=b) (q:Q (.bool b) σ):Yaa T d X (.bi "isinstance") [v,.type ty] Q σ:=.b2 rfl fun {A fs ι s x y} S r r2=>by
 rw [Yar.type_inv r2]
 have go:∀ {P:String→Bool→Prop},P "list" (k == "list")→P "str" (k == "str")→P "tuple" (k == "tuple")→P ty b:=fun h1 h2 h3=>Yx5 hb hty h1 h2 h3
 revert q
 cases v <;> first | exact (Yap hk).elim | skip
 · cases Yai hk; cases r.none_inv
   refine go (P:=fun ty b=>Q (.bool b) σ→wpAny (model T.prog T.w) A (call (.builtin "isinstance") [_,.type ty]) (Ybb T [] Q ι s.heap) (Yav T [] X ι s.heap) s) ?_ ?_ ?_
   · exact fun q=>IsiPair.NoneType_list (S.post q .bool_mk _)
   · exact fun q=>IsiPair.NoneType_str (S.post q .bool_mk _)
   · exact fun q=>IsiPair.NoneType_tuple (S.post q .bool_mk _)
 · cases Yai hk; cases r.bool_inv
   refine go (P:=fun ty b=>Q (.bool b) σ→wpAny (model T.prog T.w) A (call (.builtin "isinstance") [_,.type ty]) (Ybb T [] Q ι s.heap) (Yav T [] X ι s.heap) s) ?_ ?_ ?_
   · exact fun q=>IsiPair.bool_list (S.post q .bool_mk _)
   · exact fun q=>IsiPair.bool_str (S.post q .bool_mk _)
   · exact fun q=>IsiPair.bool_tuple (S.post q .bool_mk _)
 · cases Yai hk; obtain ⟨t,rfl⟩:=r.int_inv
   refine go (P:=fun ty b=>Q (.bool b) σ→wpAny (model T.prog T.w) A (call (.builtin "isinstance") [_,.type ty]) (Ybb T [] Q ι s.heap) (Yav T [] X ι s.heap) s) ?_ ?_ ?_
   · exact fun q=>IsiPair.int_list (S.post q .bool_mk _)
   · exact fun q=>IsiPair.int_str (S.post q .bool_mk _)
   · exact fun q=>IsiPair.int_tuple (S.post q .bool_mk _)
 · cases Yai hk; obtain ⟨t,rfl⟩:=r.str_inv
   refine go (P:=fun ty b=>Q (.bool b) σ→wpAny (model T.prog T.w) A (call (.builtin "isinstance") [_,.type ty]) (Ybb T [] Q ι s.heap) (Yav T [] X ι s.heap) s) ?_ ?_ ?_
   · exact fun q=>IsiPair.str_list (S.post q .bool_mk _)
   · exact fun q=>IsiPair.str_str (S.post0 q .bool_mk)
   · exact fun q=>IsiPair.str_tuple (S.post q .bool_mk _)
 · cases Yai hk; obtain ⟨a,items,m,rfl,ht,hv⟩:=r.tup_inv
   refine go (P:=fun ty b=>Q (.bool b) σ→wpAny (model T.prog T.w) A (call (.builtin "isinstance") [_,.type ty]) (Ybb T [] Q ι s.heap) (Yav T [] X ι s.heap) s) ?_ ?_ ?_
   · exact fun q=>IsiPair.tuple_list ht rfl (S.post q .bool_mk _)
   · exact fun q=>IsiPair.tuple_str ht rfl (S.post q .bool_mk _)
   · exact fun q=>IsiPair.tuple_tuple ht rfl (S.post0 q .bool_mk)
 · obtain ⟨vs,hvs,hk⟩:=Ydl hk
   cases Yai hk
   obtain ⟨a,dx,items,m,rfl,hι,hL,hv,hs⟩:=S.rep.lst hvs r
   refine go (P:=fun ty b=>Q (.bool b) σ→wpAny (model T.prog T.w) A (call (.builtin "isinstance") [_,.type ty]) (Ybb T [] Q ι s.heap) (Yav T [] X ι s.heap) s) ?_ ?_ ?_
   · exact fun q=>IsiPair.list_list hL rfl (S.post0 q .bool_mk)
   · exact fun q=>IsiPair.list_str hL rfl (S.post q .bool_mk _)
   · exact fun q=>IsiPair.list_tuple hL rfl (S.post q .bool_mk _)
theorem Yaa.isi {v:V}{ty:String}{b:Bool}(e:Yxe σ v ty=some b) (q:Q (.bool b) σ):Yaa T d X (.bi "isinstance") [v,.type ty] Q σ:=by
 obtain ⟨k,hk,e⟩:=Option.bind_eq_some_iff.mp e
 obtain ⟨hty,e⟩:=Ydo e
 simp only [List.contains_iff_mem,Zg,Zdc,or_false] at hty
 exact Ywx hty hk e q
theorem Yaa.ord {c:Nat}(q:Q (.int c) σ):Yaa T d X (.bi "ord") [.str ⟨#[c]⟩] Q σ:=.b1 rfl fun S r=>Zh r fun zz e=>e▸P.ord_of_char (S.post q .int_mk _)
theorem Yaa.range {n:Int}(q:Q (.rng n) σ):Yaa T d X (.type "range") [.int n] Q σ:=.b1 rfl fun S r=>Zh r fun zz e=>e▸call_range_1 ⟨.rng n,σ,_,q,⟨_,_,_,_,rfl,Zsc _ rfl⟩,S.rep.push _,.push ..,S.gens,S.os⟩
noncomputable def Yxm (σ:Hp) (vv:V):Option (List V):=vv.casesOn (none) (fun _=>none) (fun _=>none) (fun _=>none) (fun vs=>some vs) (fun l=>atL some σ[l]?) (fun _=>none) (fun _ _=>none) (fun _=>none) (fun _=>none) (fun _=>none) (fun _=>none) (fun _=>none) (fun _ _=>none)
theorem St.madeList {vs:List V}{items:Array Value}{h':Heap}{c' t:Nat}(S:St T A fs d ι σ s) (hz:s.heap.objs.size≤h'.objs.size) (k:∀ b o',s.heap.get? b=some o'→h'.get? b=some o') (g:h'.get? s.heap.objs.size=some ⟨.type "list",Option.none,.seq items c',#[]⟩) (hv:VRels T ι s.heap vs items.toList) (q:Q (.ref σ.length) (σ++[.list vs])):Ybb T [] Q ι s.heap (.ref s.heap.objs.size) { s with heap:=h',toks:=t }:=by
 have no:s.heap.objs.size∉own ι:=fun z=>absurd (S.rep.own_lt z) (Zub _)
 have e0:Ext T [] ι s.heap ι h':=.of_keeps hz k
 have mz:Yd7 ι s.heap (ι++[(s.heap.objs.size,s.heap.objs.size)]) h':=⟨⟨_,rfl⟩,e0.cls,e0.frz⟩
 exact ⟨.ref σ.length,_,ι++[(s.heap.objs.size,s.heap.objs.size)],q,⟨s.heap.objs.size,s.heap.objs.size,rfl,by rw [← S.rep.len]; simp⟩,(S.rep.grow hz k).more (o:=.list vs) (p:=(s.heap.objs.size,s.heap.objs.size)) ⟨rfl,items.toList,⟨c',g⟩,hv.mono mz⟩ S.rep.size S.rep.size no no,⟨⟨_,rfl,by simp⟩,e0.size,e0.cls,e0.frz,e0.keep,e0.frm⟩,S.gens,S.os⟩
theorem Ync {vs:List V}{a:Addr}{ty:String}{items:Array Value}{m:Nat}(S:St T A fs d ι σ s) (hn:vs.length≤sizeLine) (q:Q (.ref σ.length) (σ++[.list vs])) (hty:ty = "list" ∨ ty = "tuple") (ho:s.heap.get? a=some ⟨.type ty,Option.none,.seq items m,#[]⟩) (hv:VRels T ι s.heap vs items.toList) :
   wpAny (model T.prog T.w) A (call (.type "list") [.ref a]) (Ybb T [] Q ι s.heap) (Yav T [] X ι s.heap) s:=by
 have fin:wpAny (model T.prog T.w) A (call (.type "list") [.ref a]) (fun y s'=>y=.ref s.heap.objs.size∧∃ h' c',s'={ s with heap:=h' }∧(∀ b o',s.heap.get? b=some o'→h'.get? b=some o')∧h'.get? s.heap.objs.size=some { cls:=.type "list",dict:=Option.none,data:=.seq items c',slots:=#[] }) (Yav T [] X ι s.heap) s :=
   call_list_seq a hty ho rfl rfl (fun h' c' k g=>⟨rfl,h',c',rfl,k,g⟩) (Za (Zr (Yd1 hv)) hn)
 refine Zib (Yb1 fin) (fun y s' p=>?_) fun zz zz p=>p.1
 obtain ⟨⟨rfl,h',c',rfl,k,g⟩,hz⟩:=p
 exact S.madeList (t:=s.toks) hz k g hv q
theorem Yaa.list {v:V}{vs:List V}(e:Yxm σ v=some vs) (hn:vs.length≤sizeLine) (q:Q (.ref σ.length) (σ++[.list vs])):Yaa T d X (.type "list") [v] Q σ:=.b1 rfl fun S r=>by
 cases v <;> first | exact (Yap e).elim | skip
 · obtain ⟨a,items,m,rfl,ht,hv⟩:=r.tup_inv
   exact Ync S hn q (.inr rfl) ht (Yai e▸hv)
 · obtain ⟨vs',hvs,e⟩:=Ydl e
   obtain ⟨a,dx,items,m,rfl,hι,hL,hv,hs⟩:=S.rep.lst hvs r
   exact Ync S hn q (.inl rfl) hL (Yai e▸hv)
theorem Yaa.min2 {a b:Int}(q:Q (.int (if b < a then b else a)) σ) (hT:T.hd=false:=by rfl):Yaa T d X (.bi "min") [.int a,.int b] Q σ:=.b2 rfl fun {A fs ι s x y} S r1 r2=>by
 obtain ⟨t,rfl⟩:=r1.int_inv
 obtain ⟨u,rfl⟩:=r2.int_inv
 have fin:wpAny (model T.prog T.w) A (call (.builtin "min") [.int a t,.int b u]) (fun y s'=>y=(if b < a then .int b u else .int a t)∧∃ h' c',s'={ s with heap:=h',toks:=c' }∧(∀ b o',s.heap.get? b=some o'→h'.get? b=some o')) (Yav T [] X ι s.heap) s :=
   min_two_ints (S.aok.hd hT) fun h' tk k=>⟨rfl,h',tk,rfl,k⟩
 refine Zib (Yb1 fin) (fun y s' p=>?_) fun zz zz p=>p.1
 obtain ⟨⟨rfl,h',c',rfl,k⟩,hz⟩:=p
 refine S.grown hz k q ?_
 split
 · exact .int_mk
 · exact .int_mk
end
end
section
section
variable {T:Tp}{d:Nat}{X:QX}{Q:QE}{σ:Hp}{A:Around}{fs:List Env}{ι:Inj}{s:Shared}{h':Heap}
theorem St.setList {l:Nat}{vs vs':List V}{a dx:Addr}{items:Array Value}{n t:Nat}{g:Array Value→Array Value}{v:V}{x:Value}(S:St T A fs d ι σ s) (hl:σ[l]?=some (.list vs)) (hι:ι[l]?=some (a,dx)) (hL:IsL s.heap a items n) (hv:VRels T ι s.heap vs' (g items).toList)
   (q:Q v (σ.set l (.list vs'))) (r:Yar T ι s.heap v x):Ybb T [] Q ι s.heap x { s with heap:=s.heap.update a (Obj.mapSeq g),toks:=t }:=by
 have h2:(s.heap.update a (Obj.mapSeq g)).get? a=some ⟨.type "list",Option.none,.seq (g items) (if (g items).size == items.size then n else n+1),#[]⟩:=Heap.get?_update_self _ hL rfl
 obtain ⟨e1,zz⟩:=S.rep.objs l _ _ hl hι
 cases e1
 obtain ⟨S',e⟩:=St.turned (t:=t) (o:=.list vs') S hι (Heap.SameBut.update ..) (.inl rfl) hL h2 rfl rfl fun m=>⟨rfl,(g items).toList,⟨_,by simpa using h2⟩,hv.mono m⟩
 exact ⟨v,_,ι,q,r.mono e.mono,S'.rep,e,S.gens,S.os⟩
theorem Yaa.append {l:Nat}{v:V}{vs:List V}(hl:σ[l]?=some (.list vs)) (hn:vs.length≤sizeLine) (q:Q .none (σ.set l (.list (vs++[v])))):Yaa T d X (.bi "list.append") [.ref l,v] Q σ:=.b2 rfl fun {A fs ι s x y} S r ry=>by
 obtain ⟨a,dx,items,m,rfl,hι,hL,hv,hlen⟩:=S.rep.lst hl r
 refine call_meets F.slot_list_append ⟨_,hL,rfl⟩ F.entry_list_append (F.args_list_append_2 _ _) (list_append a items m y (by (clear hι hl; lia))) ⟨hL,?_⟩
 refine S.setList (g:=fun z=>z.push y) hl hι hL ?_ q .none_mk
 rw [Array.toList_push]
 exact hv.append (by exact ⟨ry,trivial⟩)
theorem VRels.snoc {h:Heap}{v:V}{vs:List V}:∀ {xs:List Value},VRels T ι h (vs++[v]) xs→∃ ys y,xs=ys++[y]∧VRels T ι h vs ys∧Yar T ι h v y:=by
 induction vs with
 | nil=>exact fun r=>(VRels.one r).elim fun x e=>⟨[],x,e.1,trivial,e.2⟩
 | cons w vs ih=>exact fun r=>ex2 (VRels.cons_iff.mp r) fun x r' e=>ex2 (ih e.2.2) fun ys y q=>⟨x::ys,y,e.1.trans (congrArg (x :: ·) q.1),⟨e.2.1,q.2.1⟩,q.2.2⟩
theorem Yaa.pop {l:Nat}{v:V}{vs:List V}(hl:σ[l]?=some (.list (vs++[v]))) (hn:vs.length < sizeLine) (q:Q v (σ.set l (.list vs))):Yaa T d X (.bi "list.pop") [.ref l] Q σ:=.b1 rfl fun {A fs ι s x} S r=>by
 obtain ⟨a,dx,items,m,rfl,hι,hL,hv,hlen0⟩:=S.rep.lst hl r
 refine ex2 hv.snoc fun ys y h9=>Yh5 h9 fun hi hy ry=>?_
 have hlen:=hv.length
 simp only [Array.length_toList,Zf,List.length_cons,List.length_nil] at hlen
 have hsz:items.size - 1=ys.length:=by
   have:items.size=ys.length+1:=by rw [← Array.length_toList,hi]; simp
   rw [this]; rfl
 have hlast:items[items.size - 1]?=some y:=by
   rw [← Array.getElem?_toList,hi,hsz]; simp
 refine call_meets F.slot_list_pop ⟨_,hL,rfl⟩ F.entry_list_pop (F.args_list_pop_1 _) (MeetsSeq.list_pop_last a items m y hlast (by (clear hsz hlast hι hl; lia))) ⟨hL,?_⟩
 refine S.setList (t:=s.toks) (g:=fun z=>z.eraseIdxIfInBounds (items.size - 1)) hl hι hL ?_ q ry
 have e2:(items.eraseIdxIfInBounds (items.size - 1)).toList=ys:=by
   rw [Array.toList_eraseIdxIfInBounds,hi,hsz]
   simp [List.eraseIdx_append_of_length_le]
 rw [e2]; exact hy
theorem Yaa.clear {l:Nat}{vs:List V}(hl:σ[l]?=some (.list vs)) (hn:vs.length≤sizeLine) (q:Q .none (σ.set l (.list []))):Yaa T d X (.bi "list.clear") [.ref l] Q σ:=.b1 rfl fun {A fs ι s x} S r=>by
 obtain ⟨a,dx,items,m,rfl,hι,hL,hv,hlen⟩:=S.rep.lst hl r
 refine call_meets F.slot_list_clear ⟨_,hL,rfl⟩ F.entry_list_clear (F.args_list_clear_1 _) (AutoSeq1.list_clear_list_0 a items m (by (clear hι hl; lia))) ⟨hL,?_⟩
 exact S.setList (g:=fun zz => #[]) hl hι hL (show VRels T ι s.heap [] [] from trivial) q .none_mk
theorem Yaa.extend {l k:Nat}{vs us:List V}(hl:σ[l]?=some (.list vs)) (hk:σ[k]?=some (.list us)) (hn:vs.length+us.length≤sizeLine) (q:Q .none (σ.set l (.list (vs++us)))):Yaa T d X (.bi "list.extend") [.ref l,.ref k] Q σ:=.b2 rfl fun {A fs ι s x y} S r ry=>by
 obtain ⟨a,dx,items,m,rfl,hι,hL,hv,hlen⟩:=S.rep.lst hl r
 obtain ⟨b,dy,items2,m2,rfl,hιb,hL2,hv2,hlen2⟩:=S.rep.lst hk ry
 refine call_meets F.slot_list_extend ⟨_,hL,rfl⟩ F.entry_list_extend (F.args_list_extend_2 _ _) (AutoSeq1.list_extend_list_list_0 a items m b items2 m2 (fun z=>by
   rw [Zob] at z
   have z2:=z.2
   unfold Builtin.List.listTooLong at z2
   rw [decide_eq_true_eq] at z2; (clear z hιb hι hl hk; lia)) (by (clear hlen2 hι hιb hk hl; lia)) (by (clear hι hιb hk hl; lia))) ⟨hL,hL2,?_⟩
 refine S.setList (g:=fun z=>z++items2) hl hι hL ?_ q .none_mk
 rw [Array.toList_append]; exact hv.append hv2
theorem Yph {h:Heap}{bs:List Bool}:∀ {xs:List Value},VRels T ι h (bs.map V.bool) xs→xs=bs.map Value.bool:=by
 induction bs with
 | nil=>exact fun r=>VRels.nil_iff.mp r
 | cons b bs ih=>exact fun r=>ex2 (VRels.cons_iff.mp r) fun x r' e=>e.1.trans (e.2.1.bool_inv▸congrArg _ (ih e.2.2))
theorem Yld {prog:Program}{w:World}{A:Around}(bs:List Bool):TruthOf prog w A (fun i v=>((bs.map Value.bool).toArray)[i]?=some v) (fun i=>bs.getD i false):=fun i v s Q E hP hQ=>by
 simp only [List.getElem?_toArray,Zdb,Zpb] at hP
 obtain ⟨b,hb,rfl⟩:=hP
 refine wpAny_truthy_bool ?_
 have hQ':Q (bs.getD i false) s:=hQ
 rw [List.getD_eq_getElem?_getD,hb] at hQ'
 exact hQ'
theorem Yni (bs:List Bool):((List.range bs.length).all fun i=>bs.getD i false)=bs.all id:=by
 rw [Bool.eq_iff_iff,List.all_eq_true,List.all_eq_true]
 constructor
 · intro h x hx
   obtain ⟨i,hi,rfl⟩:=List.getElem_of_mem hx
   have:=h i (by simpa using hi)
   simpa [List.getD_eq_getElem?_getD,hi] using this
 · intro h i hi
   have hi':i < bs.length:=by simpa using hi
   simpa [List.getD_eq_getElem?_getD,hi'] using h bs[i] (List.getElem_mem hi')
theorem Yoc (bs:List Bool):((List.range bs.length).any fun i=>bs.getD i false)=bs.any id:=by
 rw [Bool.eq_iff_iff,List.any_eq_true,List.any_eq_true]
 constructor
 · rintro ⟨i,hi,h⟩
   have hi':i < bs.length:=by simpa using hi
   exact ⟨bs[i],List.getElem_mem hi',by simpa [List.getD_eq_getElem?_getD,hi'] using h⟩
 · rintro ⟨x,hx,h⟩
   obtain ⟨i,hi,rfl⟩:=List.getElem_of_mem hx
   exact ⟨i,by simpa using hi,by simpa [List.getD_eq_getElem?_getD,hi] using h⟩
theorem Yaa.all {l:Nat}{bs:List Bool}(hl:σ[l]?=some (.list (bs.map V.bool))) (q:Q (.bool (bs.all id)) σ) (hT:T.hd=false:=by rfl):Yaa T d X (.bi "all") [.ref l] Q σ:=.b1 rfl fun {A fs ι s x} S r=>by
 obtain ⟨a,dx,items,m,rfl,hι,hL,hv,hlen0⟩:=S.rep.lst hl r
 have hitems:items=(bs.map Value.bool).toArray:=by rw [← Yph hv]
 subst hitems
 have hne:a≠s.heap.objs.size:=Znc (Zu hL)
 have fin:wpAny (model T.prog T.w) A (call (.builtin "all") [.ref a]) (fun y s'=>y=.bool (bs.all id)∧∃ h' c',s'={ s with heap:=h',toks:=c' }∧(∀ b o',s.heap.get? b=some o'→h'.get? b=some o')) (Yav T [] X ι s.heap) s:=by
   refine call_all_walk (wpAny_pyIter_list hL.isList ?_)
   refine ⟨s.heap.objs.size,_,_,_,_,_,_,rfl,Walks.list (A:=A.in1) (S.aok.hd hT) s.heap.objs.size a hne _,⟨⟨_,Zsc _ rfl,rfl,rfl⟩,hL.isList.push _⟩,Yld bs,fun h' tk k=>⟨?_,h',tk,rfl,fun b o hb=>k b o (by simpa using Znc (Zu hb)) (Zx _ hb)⟩⟩
   rw [List.size_toArray,Zc,Yni]
 refine Zib (Yb1 fin) (fun y s' p=>?_) fun zz zz p=>p.1
 obtain ⟨⟨rfl,h',c',rfl,k⟩,hz⟩:=p
 exact S.grown hz k q .bool_mk
theorem Yaa.any {l:Nat}{bs:List Bool}(hl:σ[l]?=some (.list (bs.map V.bool))) (q:Q (.bool (bs.any id)) σ) (hT:T.hd=false:=by rfl):Yaa T d X (.bi "any") [.ref l] Q σ:=.b1 rfl fun {A fs ι s x} S r=>by
 obtain ⟨a,dx,items,m,rfl,hι,hL,hv,hlen0⟩:=S.rep.lst hl r
 have hitems:items=(bs.map Value.bool).toArray:=by rw [← Yph hv]
 subst hitems
 have hne:a≠s.heap.objs.size:=Znc (Zu hL)
 have fin:wpAny (model T.prog T.w) A (call (.builtin "any") [.ref a]) (fun y s'=>y=.bool (bs.any id)∧∃ h' c',s'={ s with heap:=h',toks:=c' }∧(∀ b o',s.heap.get? b=some o'→h'.get? b=some o')) (Yav T [] X ι s.heap) s:=by
   refine call_any_walk (wpAny_pyIter_list hL.isList ?_)
   refine ⟨s.heap.objs.size,_,_,_,_,_,_,rfl,Walks.list (A:=A.in1) (S.aok.hd hT) s.heap.objs.size a hne _,⟨⟨_,Zsc _ rfl,rfl,rfl⟩,hL.isList.push _⟩,Yld bs,fun h' tk k=>⟨?_,h',tk,rfl,fun b o hb=>k b o (by simpa using Znc (Zu hb)) (Zx _ hb)⟩⟩
   rw [List.size_toArray,Zc,Yoc]
 refine Zib (Yb1 fin) (fun y s' p=>?_) fun zz zz p=>p.1
 obtain ⟨⟨rfl,h',c',rfl,k⟩,hz⟩:=p
 exact S.grown hz k q .bool_mk
theorem Yn5 {h:Heap}{bs:List Str}:∀ {xs:List Value},VRels T ι h (bs.map V.str) xs→∃ l:List (Str×Tok),xs=strValues l∧l.map (·.1)=bs∧StrsAre xs bs:=by
 induction bs with
 | nil=>exact fun r=>VRels.nil_iff.mp r▸⟨[],rfl,rfl,.nil⟩
 | cons b bs ih=>exact fun r=>ex2 (VRels.cons_iff.mp r) fun x r' e=>e.2.1.str_inv.elim fun t q=>(ih e.2.2).elim fun l k=>e.1▸q▸⟨(b,t)::l,congrArg _ k.1,congrArg _ k.2.1,.cons _ _ k.2.2⟩
theorem Yaa.join {sep:Str}{l:Nat}{bs:List Str}(hl:σ[l]?=some (.list (bs.map V.str))) (hw:(bs.map (·.length)).sum+bs.length≤1048576) (hs:sep.length≤16) (q:Q (.str (Txt.join sep bs)) σ):Yaa T d X (.bi "str.join") [.str sep,.ref l] Q σ:=.b2 rfl fun {A fs ι s x y} S r ry=>by
 obtain ⟨t,rfl⟩:=r.str_inv
 obtain ⟨a,dx,items,m,rfl,hι,hL,hv,hlen0⟩:=S.rep.lst hl ry
 obtain ⟨ll,h1,h2,zz⟩:=Yn5 hv
 have:items=(strValues ll).toArray:=by rw [← h1]
 subst this
 exact SC.join hL.isList h2 (joinOk_of_weight hw hs) fun t' k=>S.post q .str_mk _
theorem Yaa.sorted {l:Nat}{bs:List Str}(hl:σ[l]?=some (.list (bs.map V.str))) (h64:bs.length < 64) (q:∀ bs',bs'.Perm bs→sortedS bs'=true→Q (.ref σ.length) (σ++[.list (bs'.map .str)])):Yaa T d X (.bi "sorted") [.ref l] Q σ:=.b1 rfl fun {A fs ι s x} S r=>by
 obtain ⟨a,dx,items,m,rfl,hι,hL,hv,hlen0⟩:=S.rep.lst hl r
 refine (Yn5 hv).elim fun ll h9=>Yh5 h9 fun h1 h2 h3=>?_
 have hlen:items.toList.length=bs.length:=by rw [h1,← h2]; simp [strValues]
 have rel:∀ {zs:List Value}{ss:List Str}(ι':Inj) (h:Heap),StrsAre zs ss→VRels T ι' h (ss.map .str) zs:=fun ι' h k=>by
   induction k with
   | nil=>trivial
   | cons y t z1 ih=>simp only [List.map_cons]; exact ⟨.str_mk,ih⟩
 refine sorted_strs (vs:=items.toList) (by simpa using hL.isList) h3 (by (clear hι hl; lia)) fun out ss' a1 a2 a3=>?_
 obtain ⟨e,he⟩:=sortedAll_at s.heap items.toList out
 have keep:∀ b o,s.heap.get? b=some o→(sortedAll s.heap items.toList out).get? b=some o:=fun zz zz=>sortedAll_old
 have hz:s.heap.objs.size≤(sortedAll s.heap items.toList out).objs.size:=Zq (Nat.lt_trans (Zs _) (Zu he))
 have e0:Ext T [] ι s.heap ι (sortedAll s.heap items.toList out):=.of_keeps hz keep
 have hle:s.heap.objs.size≤s.heap.objs.size+1:=Nat.le_succ _
 have no:s.heap.objs.size+1∉own ι:=fun z=>absurd (S.rep.own_lt z) (Zo.mpr hle)
 refine ⟨.ref σ.length,_,ι++[(s.heap.objs.size+1,s.heap.objs.size+1)],q ss' a2 a3,?_,(S.rep.grow hz keep).more (o:=.list (ss'.map .str)) (p:=(s.heap.objs.size+1,s.heap.objs.size+1)) ⟨rfl,out.toList,⟨e,by simpa using he⟩,rel _ _ a1⟩ (Za S.rep.size hle) (Za S.rep.size hle) no no,⟨⟨_,rfl,by simp⟩,e0.size,e0.cls,e0.frz,e0.keep,e0.frm⟩,S.gens,S.os⟩
 exact ⟨s.heap.objs.size+1,s.heap.objs.size+1,rfl,by rw [← S.rep.len]; simp⟩
end
end
section
noncomputable def Ydk (T:Tp) (d:Nat) (sc:Scope) (ρ:Loc) (X:QX) (e:Option Expr) (Q:Option Int→Hp→Prop) (σ:Hp):Prop:=match e with
 | none=>Q none σ
 | some e=>Yal T d sc ρ X e (fun v σ'=>∃ i,v=.int i∧Q (some i) σ') σ
section
variable {T:Tp}{A:Around}{fs:List Env}{d:Nat}{env:Env}{F:List Addr}{ι:Inj}{s:Shared}{ρ:Loc}{σ:Hp}{sc:Scope}{X:QX}{Q:QE}
theorem Yna {e:Option Expr}{Q':Option Int→Hp→Prop}{R:Value→Shared→Prop}{E:Value→Shared→Prop}(hsc:env.scope=sc) (I:Inv T A fs d env F ρ ι σ s) (h:Ydk T d sc ρ X e Q' σ)
   (k:∀ l σ₁ ι₁ s₁,Q' (l.map (·.1)) σ₁→Inv T A fs d env F ρ ι₁ σ₁ s₁→Ext T [] ι s.heap ι₁ s₁.heap→R (partValue l) s₁) (kx:∀ x s',Yav T [] X ι s.heap x s'→E x s'):wpAny (model T.prog T.w) A (evalPart e env) R E s:=by
 cases e with
 | none=>rw [evalPart_none]; exact Zjb (k none σ ι s h I (.refl ..))
 | some e =>
   rw [evalPart_some]
   refine Zib (h env A fs F ι s hsc I) (fun x s₁ p=>?_) fun x s' p=>kx x s' p
   obtain ⟨v,σ₁,ι₁,⟨i,rfl,q⟩,rv,rp,ex,g,o⟩:=p
   obtain ⟨t,rfl⟩:=rv.int_inv
   exact k (some (i,t)) σ₁ ι₁ s₁ q (I.ext ex rp g o) ex
theorem Yal.sliceStr {value:Expr}{lower upper:Option Expr}{p pos:Pos}(ht:∀ o r,letTemporaryGo value o r=pure ())
   (h:Yal T d sc ρ X value (fun o σ₁=>Ydk T d sc ρ X lower (fun l σ₂=>Ydk T d sc ρ X upper (fun u σ₃=>∃ x,o=.str x∧x.length≤sizeLine∧Q (.str (Txt.slice x l u)) σ₃) σ₂) σ₁) σ) :
   Yal T d sc ρ X (.Subscript value (.Slice lower upper Option.none p) pos) Q σ:=by
 intro env A fs F ι s hsc I
 refine wpAny_Subscript_str_slice (Zib (h env A fs F ι s hsc I) (fun o s₁ p=>?_) fun zz zz p=>p) ht
 obtain ⟨v,σ₁,ι₁,q,rv,rp,ex,g,oo⟩:=p
 have I₁:=I.ext ex rp g oo
 refine Yna hsc I₁ q (fun l σ₂ ι₂ s₂ q₂ I₂ e₂=>?_) fun zz zz p=>p.trans ex
 refine Yna hsc I₂ q₂ (fun u σ₃ ι₃ s₃ q₃ I₃ e₃=>?_) fun zz zz p=>p.trans (ex.trans e₂)
 obtain ⟨x,rfl,hx,q₃⟩:=q₃
 obtain ⟨t,rfl⟩:=rv.str_inv
 refine ⟨x,t,l,u,rfl,rfl,rfl,post_val_or_str ⟨Za (Txt.slice_le x _ _) hx,fun t' k=>?_⟩⟩
 have ep:=Ext.push T [] ι₃ s₃.heap { cls:=.type "slice",data:=.fields #[partValue l,partValue u,.none] }
 exact ⟨_,σ₃,ι₃,q₃,.str_mk,I₃.rep.push _,ex.trans (e₂.trans (e₃.trans ep)),I₃.gens,I₃.os⟩
end
end
section
noncomputable def Ytk:List (Str×V):=[("len",.bi "len"),("isinstance",.bi "isinstance"),("ord",.bi "ord"),("all",.bi "all"),("any",.bi "any"),("min",.bi "min"),("sorted",.bi "sorted"),("reversed",.type "reversed"),
 ("list",.type "list"),("tuple",.type "tuple"),("str",.type "str"),("int",.type "int"),("range",.type "range"),("bool",.type "bool"),("ValueError",.type "ValueError")]
noncomputable def gvV (x:Str):Value→Option V
 | .int i z1=>some (.int i)
 | .str s z1=>some (.str s)
 | .ref z1=>some (.glob x)
 | z1=>none
noncomputable def gvO (x:Str):Option (Option Value)→Option V
 | some (some y)=>gvV x y
 | some none=>Ytk.lookup x
 | none=>none
noncomputable def Yxl (K:PySem.W.Frag) (x:Str):Option V:=gvO x (PySem.W.nsIn K mainGlobals x)
theorem Yly:(Ytk.all fun p=>match p.2 with
 | .bi id=>bootBuiltins p.1 == some (.builtin id)
 | .type n=>bootBuiltins p.1 == some (.type n)
 | z1=>false)=true:=by decide +kernel
theorem Yma:(Ytk.all fun p => !(p.1 == ("__name__" : Str)))=true:=by decide +kernel
noncomputable def Yua (prog:Program) (w:World) (s:Shared) (K:PySem.W.Frag):Tp:=⟨prog,w,s.heap,s.os,K,Yxl K,false⟩
theorem topOk_of {prog p:Program}{w:World}{s:Shared}{K:PySem.W.Frag}{Yb6:List Str}{mg mb:Str→Option Value}(TR:PySem.W.TopRead p Yb6 mg mb s.heap) (X:K.In s.heap):Yaf (Yua prog w s K) where
 X0:=X
 lim:=TR.nolimit
 own:=fun x C bmB newId e q=>⟨mg,PySem.W.own_of_in X TR e q⟩
 gl:=fun x v e=>by
   have e':Yxl K x=some v:=e
   unfold Yxl at e'
   rcases hn:PySem.W.nsIn K mainGlobals x with zz | zz | y <;> rw [hn] at e'
   · cases e'
   rotate_left
   · have hb:=PySem.W.mg_of X TR.g hn
     refine ⟨_,mg,mb,TR.g,TR.b,.inl hb,?_⟩
     cases y <;> first | exact (Yap e').elim | skip
     · cases e'; exact .int_mk
     · cases e'; exact .str_mk
     · cases e'
       show Tp.g _ _=_; unfold Tp.g
       show (PySem.W.nsIn K mainGlobals x).join=_
       rw [hn]; rfl
   · have hm:=mem_of_lookup e'
     have h1:=List.all_eq_true.mp Yly _ hm
     have h2:=List.all_eq_true.mp Yma _ hm
     have hx:x ≠ "__name__":=by simpa using h2
     cases v <;> first | (cases h1; done) | skip
     · refine ⟨_,mg,mb,TR.g,TR.b,.inr ⟨PySem.W.mg_none_of X TR.g hn,(TR.builtins x hx).trans (beq_iff_eq.mp h1)⟩,?_⟩
       rfl
     · refine ⟨_,mg,mb,TR.g,TR.b,.inr ⟨PySem.W.mg_none_of X TR.g hn,(TR.builtins x hx).trans (beq_iff_eq.mp h1)⟩,?_⟩
       rfl
theorem start {prog p:Program}{w:World}{s:Shared}{K:PySem.W.Frag}{Yb6:List Str}{mg mb:Str→Option Value}{fa a la:Addr}{xs:List Int}{l:List (Int×Tok)}{o:Obj}{items:Array Value}{n:Nat}{name:Str}
   (TR:PySem.W.TopRead p Yb6 mg mb s.heap) (X:K.In s.heap) (hg:s.gens = #[]) (hb:∃ b o,K.lookup b=some o∧10≤b) (hmg:mg name=some (.ref fa)) (hK:PySem.W.nsIn K mainGlobals name=some (some (.ref a)))
   (ho:s.heap.get? la=some o) (hc:o.cls=.type "list") (hd:o.data=.seq items n) (hl:items.toList=l.map (fun p=>Value.int p.1 p.2)) (hx:l.map (·.1)=xs)
   (h:Yaa (Yua prog w s K) 690 (fun zz zz=>False) (.glob name) [.scr xs] (fun v zz=>v=.bool true) []) :
   wpAny (model prog w) callerA (call (.ref fa) [.ref la]) (fun v s'=>v=.bool true∧(∀ b o,s.heap.get? b=some o→s'.heap.get? b=some o)∧s'.os=s.os∧s'.gens = #[]) (fun zz zz=>False) s:=by
 have hfa:=PySem.W.mg_of X TR.g hK
 rw [hmg] at hfa; cases hfa
 have hbig:10≤s.heap.objs.size:=by
   refine ex2 hb fun b o h9=>h9.elim fun e h10=>?_
   exact Zq (Zk h10 (Zu (X _ _ e)))
 have S:St (Yua prog w s K) callerA [] 690 [] [] s:=by
   have R:Rep (Yua prog w s K) [] [] s.heap:={ len:=rfl,big:=hbig,size:=Zl _,base:=fun zz zz e=>e,objs:=fun l o p e=>by simp at e,fresh:=fun p hp=>(by cases hp),apart:=fun i j p q e=>by simp at e }
   exact ⟨R,⟨rfl,fun e he=>(by cases he),by decide,by decide,fun zz=>rfl,.none rfl⟩,hg,rfl⟩
 have rf:Yar (Yua prog w s K) [] s.heap (.glob name) (.ref fa):=by
   show Tp.g _ _=_; unfold Tp.g
   show (PySem.W.nsIn K mainGlobals name).join=_
   rw [hK]; rfl
 have rx:VRels (Yua prog w s K) [] s.heap [.scr xs] [.ref la]:=by
   refine ⟨?_,trivial⟩
   exact ⟨la,o,items,n,rfl,ho,hc,hd,l,hl,hx⟩
 refine Zib (h callerA [] [] s (.ref fa) [.ref la] S rf rx) (fun v s' p=>?_) fun e s' p=>?_
 · obtain ⟨v',σ',ι',rfl,rv,rp,ex,g,oo⟩:=p
   cases rv.bool_inv
   exact ⟨rfl,rp.base,oo,g⟩
 · obtain ⟨zz,zz,zz,zz,zz,f,zz⟩:=p
   exact f.elim
theorem finish {M:Model}{A:Around}{t:Sem Value}{c:PySem.W.ClaimW}{cl:Str→Option Addr}{mean:ExcName→Option Value}{args:List PySem.W.WData}{s:Shared}(hn:∀ cls,c.raises args cls=false) (hp:c.post args (.bool true) args=true)
   (h:wpAny M A t (fun v s'=>v=.bool true∧(∀ b o,s.heap.get? b=some o→s'.heap.get? b=some o)∧s'.os=s.os∧s'.gens = #[]) (fun zz zz=>False) s) :
   wpAny M A t (fun v s'=>PySem.W.GoodWG c cl mean args s (.ok (.ret v)) s') (fun e s'=>PySem.W.GoodWG c cl mean args s (.error e) s') s:=by
 refine Zib h (fun v s' p=>?_) fun e s' p=>p.elim
 obtain ⟨rfl,k,o,g⟩:=p
 exact PySem.W.GoodW.toG ⟨.inl ⟨_,.bool true,[],rfl,hn,.bool true,hp,fun zz=>⟨List.nodup_nil,fun a ha=>by cases ha⟩⟩,k,o,g⟩
theorem ints_pairs {vs:List Value}{xs:List Int}(h:IntsAre vs xs):∃ l:List (Int×Tok),vs=l.map (fun p=>Value.int p.1 p.2)∧l.map (·.1)=xs:=by
 induction h with
 | nil=>exact ⟨[],rfl,rfl⟩
 | cons n t z1 ih=>obtain ⟨l,rfl,rfl⟩:=ih; exact ⟨(n,t)::l,rfl,rfl⟩
end
section
section
variable {T:Tp}{d:Nat}{sc:Scope}{ρ:Loc}{X:QX}{Q:QE}{σ:Hp}{x y:Int}{a b:V}{s t:Str}
end
end
section
section
variable {T:Tp}{d:Nat}{X:QX}{Q:QE}{σ:Hp}
theorem Yw9:Ybu "str" "join" "str.join":=⟨F.plainAttrs_str,F.slot_str_join,F.type_str_join⟩
theorem Yrn:Ybu "list" "append" "list.append":=⟨F.plainAttrs_list,F.slot_list_append,F.type_list_append⟩
theorem Yx2:Ybu "list" "pop" "list.pop":=⟨F.plainAttrs_list,F.slot_list_pop,F.type_list_pop⟩
theorem Yp4:Ybu "list" "extend" "list.extend":=⟨F.plainAttrs_list,F.slot_list_extend,F.type_list_extend⟩
theorem Yta:Ybu "list" "clear" "list.clear":=⟨F.plainAttrs_list,F.slot_list_clear,F.type_list_clear⟩
end
section
variable {T:Tp}{d:Nat}{sc:Scope}{ρ:Loc}{X:XS}{Q:QS}{σ:Hp}
end
end
section
section
variable {T:Tp}{d:Nat}{sc:Scope}{ρ:Loc}{X:QX}{Q:QE}{σ:Hp}
theorem Yal.nm {x:Str}{pos:Pos}{v:V}(hv:ρ x=some v) (hk:Yoq sc x=true) (ho:Yes sc=true) (h:Q v σ):Yal T d sc ρ X (.Name x pos) Q σ:=Yal.var h hv hk ho
theorem Yal.ix {value slice:Expr}{pos:Pos}(ns:Yeb slice=true) (h:Yal T d sc ρ X value (fun o σ₁=>Yal T d sc ρ X slice (fun i σ₂=>Ydy o i Q σ₂) σ₁) σ):Yal T d sc ρ X (.Subscript value slice pos) Q σ:=Yal.item h ns
theorem Yxx {vs:List V}{k:Int}{j:Nat}{v:V}(e1:seqIndex? k vs.length=some j) (e2:vs[j]?=some v) (e3:decide (-(2 ^ 63)≤k∧k < 2 ^ 63)=true) (q:Q v σ):Ydy (.tup vs) (.int k) Q σ:=⟨v,.tup _ _ j v e1 e2 (Zgb e3:-(2 ^ 63)≤k∧k < 2 ^ 63),q⟩
theorem Ywt {l:Nat}{vs:List V}{k:Int}{j:Nat}{v:V}(e0:σ[l]?=some (.list vs)) (e1:seqIndex? k vs.length=some j) (e2:vs[j]?=some v) (e3:Yr9 k) (q:Q v σ):Ydy (.ref l) (.int k) Q σ:=⟨v,.list _ vs _ j v e0 e1 e2 e3,q⟩
end
section
variable {T:Tp}{d:Nat}{sc:Scope}{ρ:Loc}{X:XS}{Q:QS}{σ:Hp}
end
end
section
noncomputable def Ymv (b:Addr) (h:Heap):Prop:=b < h.objs.size∧h.get? b=none
theorem Ymv.update {b a:Addr}{h:Heap}{f:Obj→Obj}(x:Ymv b h) (e:(h.get? a).isSome=true):Ymv b (h.update a f):=by
 refine ⟨by rw [Heap.size_after_update]; exact x.1,?_⟩
 have:a≠b:=fun q=>by rw [q,x.2] at e; cases e
 rw [Heap.get?_update_other _ _ this]; exact x.2
theorem Ymv.push {b:Addr}{h:Heap}{o:Obj}(x:Ymv b h):Ymv b (h.push o):=by
 refine ⟨by rw [Zqb]; exact Nat.lt_succ_of_lt x.1,?_⟩
 rw [Heap.get?_push_ne _ _ _ (Znc x.1)]; exact x.2
theorem Ylp {α:Type}{M:Model}{A:Around}{m:Sem α}{Q:α→Shared→Prop}{E:Value→Shared→Prop}{s:Shared}(h:wpAny M A m Q E s) :
   wpAny M A m (fun a s'=>Q a s'∧∀ b,Ymv b s.heap→Ymv b s'.heap) (fun a s'=>E a s'∧∀ b,Ymv b s.heap→Ymv b s'.heap) s :=
 Ygr (P:=fun h=>∀ b,Ymv b s.heap→Ymv b h) ⟨fun zz zz zz e x b hb=>(x b hb).update e,fun zz zz x b hb=>(x b hb).push⟩ (fun zz hb=>hb) h
end
section
section
variable {T:Tp}{d:Nat}{sc:Scope}{ρ:Loc}{X:XS}{Q:QS}{σ:Hp}
inductive Yxh (h:Heap) (C:Addr):Prop where
 | mk (bm:List Value) (N:Addr) (nm q:Str) (bs:List Value) (hdct:Bool) (sn:List Str) (sub:List Value) (ab:Bool) (col:Option Bool) (dd:Option Addr) (k0 k1 k2 k3 k5:Option Value) (mN:Str→Option Value) (hC:h.get? C=some (excClassObj nm q C N bs bm hdct sn sub ab col dd k0 k1 k2 k3 k5 "ValueError.__new__")) (hN:h.Ns N mN) (hni:mN "__init__" = none) (tl:OwnTail h [.type "ValueError",.type "Exception",.type "BaseException",.type "object"] bm):Yxh h C
theorem Yxh.of {h:Heap}{x:Str}{C:Addr}{mg:Str→Option Value}(O:OwnCls x C [.type "ValueError",.type "Exception",.type "BaseException",.type "object"] "ValueError.__new__" mg h):Yxh h C:=by
 obtain ⟨bm,N,nm,q,bs,hdct,sn,sub,ab,col,dd,k0,k1,k2,k3,k5,mN,hC,hN,hni,tl⟩:=O.obj
 exact ⟨bm,N,nm,q,bs,hdct,sn,sub,ab,col,dd,k0,k1,k2,k3,k5,mN,hC,hN,hni,tl⟩
inductive Yyv (T:Tp) (C:Addr) (h:Heap) (v:Value) (s':Shared):Prop where
 | mk (e:Addr) (vs:List Value) (h0:v=.ref e) (m:Heap.MadeExcOf h s'.heap e (.ref C) vs) (g:s'.gens = #[]) (o:s'.os=T.os):Yyv T C h v s'
theorem Yba.raise {x txt:Str}{np cpos pos apos:Pos}{kk:Nat}{C:Addr}(TO:Yaf T) (hg:T.gv x=some (.glob x)) (hk:sc.names.lookup x=some .globalImplicit) (ho:Yes sc=true)
   (hn:PySem.W.nsIn T.K mainGlobals x=some (some (.ref C))) (hc:T.c x=some C) (hx:PySem.W.excIn T.K C [.type "ValueError",.type "Exception",.type "BaseException",.type "object"] "ValueError.__new__" = true)
   (hX:X x σ) (hT:T.hd=false:=by rfl):Yba T d sc ρ X (.Raise (some (.Call (.Name x np) [.Constant (.str txt) kk apos] [] cpos)) Option.none pos) Q σ:=by
 intro env A fs F ι s hsc I
 have kb:=I.rep.base
 have core:wpAny (model T.prog T.w) A (exec (.Raise (some (.Call (.Name x np) [.Constant (.str txt) kk apos] [] cpos)) Option.none pos) env) (Yeu T A fs d env F Q ι s.heap) (Yyv T C s.heap) s:=by
   have ns:Yb4 [Expr.Constant (.str txt) kk apos]=true:=rfl
   have NN:∀ {R:Value→Shared→Prop}{E:Value→Shared→Prop},R (.ref C) s→wpAny (model T.prog T.w) A (eval (.Name x np) env) R E s:=fun {R E} k=>by
     refine ex3 (TO.gl x _ hg) fun V mg mb h9=>Yqo h9 fun n1 n2 hm r=>?_
     rw [← show V=.ref C from Yai (r.symm.trans (Yh2 hc))] at k
     refine Name_function_global I.frm.kind ((congrArg (fun z=>z.names.lookup x) hsc).trans hk) ?_ (Ycn ho hk).1
     have N1:=n1.keeps kb
     rw [← I.frm.glb] at N1
     rcases hm with hm | ⟨hm,hb⟩
     · exact loadGlobal_global N1 hm k
     · have N2:=n2.keeps kb
       rw [← I.frm.blt] at N2
       exact loadGlobal_builtin N1 hm N2 hb k
   obtain ⟨bm,N,nm,q,bs,hdct,sn,sub,ab,col,dd,k0,k1,k2,k3,k5,mN,hC,hN,hni,tl⟩:=Zh (TO.own x C _ _ hn hx) fun zz O=>Yxh.of O
   refine wpAny_Raise_call_subT (C:=C) (N:=N) (nm:=nm) (q:=q) (bs:=bs) (hdct:=hdct) (sn:=sn) (sub:=sub) (ab:=ab) (col:=col) (dd:=dd) (k0:=k0) (k1:=k1) (k2:=k2) (k3:=k3) (k5:=k5) PySem.F.excBase_ValueError (mN:=mN) (tl.hasType (by decide +kernel)) (I.aok.hd hT) (by rw [Ybm ns]; rfl) hni (NN ⟨rfl,?_⟩)
   rw [Ybm ns]
   refine Ybz (spliced_cons (wpAny_Constant_str ?_))
   exact spliced_nil ⟨rfl,by simp [sizeLine_eq],kb _ _ hC,hN.keeps kb,tl.keeps kb,fun h' e m=>⟨e,_,rfl,m,I.gens,I.os⟩⟩
 refine Zib (Ylp core) (fun zz zz p=>p.1) fun v s' p=>?_
 obtain ⟨⟨e,vs,rfl,m,g,o⟩,dead⟩:=p
 refine m.there.elim fun tt h9=>Yh5 h9 fun he htn ht=>?_
 have hge:s.heap.objs.size≤e:=Zo.mp fun hlt=>by
   have:=(dead e ⟨hlt,m.new⟩).2
   rw [he] at this; cases this
 have hz:s.heap.objs.size≤s'.heap.objs.size:=Za hge (Zq (Zu he))
 have e0:Ext T F ι s.heap ι s'.heap:=.of_keeps hz m.keeps
 have I₃:=I.grown hz m.keeps
 have hno:e∉own ι:=fun q=>absurd (I.rep.own_lt q) (Zo.mpr hge)
 exact ⟨e,x,ρ,σ,ι,rfl,hX,⟨C,_,_,_,⟨hT,hc⟩,hge,he,rfl,rfl,by simp,rfl,rfl,.inl rfl⟩,hno,⟨I₃.rep,I₃.aok,I₃.frm,I₃.top,g,o⟩,e0⟩
end
end
section
open PySem PySem.Calls PyProof.Rows PySem.SeqAt PySem.W PySem.Spec Builtin Builtin.ObjectAttr Builtin.Getset_descriptor
noncomputable def Yhi (K:Frag) (C:Addr):Bool:=(clsIn K C).isSome && findIn K (.ref C) "__getattribute__" == some (some (.builtin "BaseException.__getattribute__")) && findIn K (.ref C) "__getattr__" == some none &&
 findIn K (.ref C) "__class__" == some (some (.builtin "object.__class__")) && mroIn K C (.type "BaseException") == some true && mroIn K C (.type "object") == some true
section
variable {prog:Program}{w:World}{A:Around}{E:Value→Shared→Prop}{h:Heap}{g:Array GenState}{d:Drawn}{t:Nat}{os:OsState}{K:Frag}{a C:Addr}{o:Obj}
theorem Yhi.of (e:Yhi K C=true):(clsIn K C).isSome=true∧findIn K (.ref C) "__getattribute__" = some (some (.builtin "BaseException.__getattribute__"))∧findIn K (.ref C) "__getattr__" = some none ∧
   findIn K (.ref C) "__class__" = some (some (.builtin "object.__class__"))∧mroIn K C (.type "BaseException")=some true∧mroIn K C (.type "object")=some true:=by
 simp only [Yhi,Zob,beq_iff_eq] at e
 obtain ⟨⟨⟨⟨⟨a,b⟩,c⟩,d⟩,e⟩,f⟩:=e
 exact ⟨a,b,c,d,e,f⟩
theorem Yfm {M:Model}(hx:h.get? a=some o) (hc:o.cls=.ref C):Looks M h (typeOf (.ref a)) (.ref C):=by
 intro A Q E s k q
 unfold typeOf
 refine Zhb (wpAny_loadPart (k _ _ hx) (Zjb ?_))
 rw [hc]; exact q
theorem Ys0 {R:Result→Shared→Prop}{tp:Value}(X:K.In h) (hx:h.get? a=some o) (hc:o.cls=.ref C) (hm:mroIn K C (.type "object")=some true) (hq:R (.ok (.ret (.ref C))) ⟨h,g,d,t,os⟩) :
   codeAny (model prog w) A (.call (.builtin "getset_descriptor.__get__") ⟨[.builtin "object.__class__",.ref a,tp],[]⟩) R ⟨h,g,d,t,os⟩:=by
 have L0:=Yfm (M:=model prog w) hx hc
 have L1:=looks_mroIn (M:=model prog w) X hm
 refine codeAny_call_builtin KF.slot_gs.plain KF.entry_gs (KF.slot_gs.check _ _ _ _ _ _ _ _ KF.type_class (KF.args_gs _ _ _) ?_)
 unfold Builtin.«getset_descriptor.__get__» descrGet
 rw [dga_obj]
 refine Zhb (Zjb ?_)
 unfold descrGetter descrCheckInstance descrNameAndClass isInstance
 simp only [KF.owner_class]
 repeat lk
 refine ⟨Code.quiet_builtin _ (by decide +kernel),codeAny_builtin KF.entry_class ?_⟩
 unfold Builtin.«object.__class__» shownTypeOf
 repeat lk
 exact hq
theorem Ym6 {M:Model}{nameV:Value}{Q:Unit→Shared→Prop}(X:K.In h) (e:Yhi K C=true) (hx:h.get? a=some o) (hc:o.cls=.ref C) (hq:Q () ⟨h,g,d,t,os⟩) :
   wpAny M A (checkBuiltinCall "BaseException.__getattribute__" ⟨[.ref a,nameV],[]⟩) Q E ⟨h,g,d,t,os⟩:=by
 have hk:builtinKind "BaseException.__getattribute__" = some .slot:=by decide +kernel
 have hsplit:splitId "BaseException.__getattribute__" = some ("BaseException", "__getattribute__"):=by decide +kernel
 have L0:=Yfm (M:=M) hx hc
 have L1:=looks_mroIn (M:=M) X (Yhi.of e).2.2.2.2.1
 have ha:=F.args_bexc_ga (.ref a) nameV
 simp only [checkBuiltinCall,hk,hsplit]
 refine Zhb ?_
 unfold isInstance
 refine Zhb (L0.at (L1.at ?_))
 repeat (first | assumption | wp_step)
theorem Ypf {tk:Tok}{Q:Fin→Shared→Prop}(X:K.In h) (e:Yhi K C=true) (hx:h.get? a=some o) (hc:o.cls=.ref C) (hq:Q (.done (.ret (.ref C))) ⟨h,g,d,t,os⟩) :
   wpAny (model prog w) A (Builtin.«object.__getattribute__» ⟨[.ref a,.str "__class__" tk],[]⟩) Q E ⟨h,g,d,t,os⟩:=by
 have hT5:(⟨h,g,d,t,os⟩:Shared).TypeIs (.builtin "object.__class__") "getset_descriptor":=F.typeOf_object_class
 have f5:=F.typeOf_object_class
 have f6:=F.slot_gs_get.lookup
 have f7:=F.slot_gs_set.lookup
 have L2:=looks_findIn (M:=model prog w) X (Yhi.of e).2.2.2.1
 repeat (any_goals (first | assumption | (with_reducible refine wpAny_loadPart_at hx ?_; rw [hc]) | with_reducible refine L2.at ?_ | wp_step))
 refine Ys0 X hx hc (Yhi.of e).2.2.2.2.2 ?_
 repeat (any_goals (first | assumption | wp_step))
theorem Yrg {tk:Tok}{R:Result→Shared→Prop}(X:K.In h) (e:Yhi K C=true) (hx:h.get? a=some o) (hc:o.cls=.ref C) (hq:R (.ok (.ret (.ref C))) ⟨h,g,d,t,os⟩) :
   codeAny (model prog w) A (.call (.builtin "BaseException.__getattribute__") ⟨[.ref a,.str "__class__" tk],[]⟩) R ⟨h,g,d,t,os⟩ :=
 codeAny_call_builtin F.attrBase_ValueError.ga.plain F.entry_bexc_ga (Ym6 X e hx hc (Ypf X e hx hc hq))
theorem Ywo {tk:Tok}{Q:Value→Shared→Prop}(X:K.In h) (e:Yhi K C=true) (hx:h.get? a=some o) (hc:o.cls=.ref C) (hq:Q (.ref C) ⟨h,g,d,t,os⟩) :
   wpAny (model prog w) A (getAttrBy (.ref a) (.str "__class__" tk) false) Q E ⟨h,g,d,t,os⟩:=by
 have f3:=F.attrBase_ValueError.ga.bind (.ref a)
 have hx2:(Value.builtin "BaseException.__getattribute__" == Value.builtin "object.__getattribute__")=false:=by decide +kernel
 have hx1:(onTheHeap (Value.ref C) && Value.builtin "BaseException.__getattribute__" == Value.builtin "object.__getattribute__")=false:=by rw [hx2]; rfl
 have L1:=looks_findIn (M:=model prog w) X (Yhi.of e).2.1
 have L2:=looks_findIn (M:=model prog w) X (Yhi.of e).2.2.1
 repeat (any_goals (first | assumption | (with_reducible refine wpAny_loadPart_at hx ?_; rw [hc]) | with_reducible refine L1.at ?_ | with_reducible refine L2.at ?_ | wp_step))
 refine Yrg X e hx hc ?_
 repeat (any_goals (first | assumption | wp_step))
theorem Yqn {Q:Option Value→Shared→Prop}(X:K.In h) (e:Yhi K C=true) (hx:h.get? a=some o) (hc:o.cls=.ref C) (hq:Q (some (.ref C)) ⟨h,g,d,t+1,os⟩) :
   wpAny (model prog w) A (getAttr? (.ref a) "__class__") Q E ⟨h,g,d,t,os⟩:=by
 unfold getAttr? getAttrBy?
 repeat (any_goals (first | assumption | with_reducible apply Ywo X e hx hc | wp_step))
theorem Yiu {K:Frag}{C:Addr}{cd:ClassData}(e:clsIn K C=some cd):∃ c d sl,K.lookup C=some ⟨c,d,.cls cd,sl⟩:=by
 unfold clsIn at e
 generalize K.lookup C=o at e ⊢
 rcases o with zz | ⟨c,d,dt,sl⟩
 · exact (Yap e).elim
 · cases dt <;> first | exact (Yap e).elim | exact ⟨c,d,sl,by cases e; rfl⟩
theorem Yr6 {K:Frag}{M:Model}{h:Heap}{C:Addr}(X:K.In h) (e:(clsIn K C).isSome=true):Looks M h (isType (.ref C)) true:=Zh (Option.isSome_iff_exists.mp e) fun cd e=>ex3 (Yiu e) fun zz zz zz ho A' Q' E' s' k q=>by
 unfold isType loadHead
 exact Zhb (wpAny_loadPart (k _ _ (X _ _ ho)) (Zjb q))
theorem Yn3 (e:Yhi K C=true):KitX K (.ref a) (.ref C) (fun h=>∃ o,h.get? a=some o∧o.cls=.ref C) where
 ty:=fun zz zz zz p=>(by obtain ⟨_,hx,hc⟩:=p; exact Yfm hx hc)
 it:=fun zz zz X zz=>Yr6 X (Yhi.of e).1
 ne:=fun h tp dd its n sl X htp=>Bool.eq_false_iff.mpr fun q=>Zh (Option.isSome_iff_exists.mp (Yhi.of e).1) fun cd e=>ex3 (Yiu e) fun zz zz zz ho=>by
   have e:C=tp:=Value.ref.inj (beq_iff_eq.mp q)
   have z:=congrArg Obj.data (Yai ((X _ _ ho).symm.trans (e▸htp)))
   cases z
 ca:=fun {zz zz zz zz zz s} X p k=>by
   obtain ⟨h,g,d,t,os⟩:=s
   obtain ⟨o,hx,hc⟩:=p
   exact Yqn X e hx hc k
end
section
variable {T:Tp}{d:Nat}{X:QX}{Q:QE}{σ:Hp}
theorem Yaa.isiX {c x:Str}{C D:Addr}{b:Bool}(TO:Yaf T) (hc:T.c c=some C) (hx:T.g x=some (.ref D)) (ek:Yhi T.K C=true) (e:kitOne T.K (.ref C) (.ref D)=some b) (q:Q (.bool b) σ) :
   Yaa T d X (.bi "isinstance") [.exc c,.glob x] Q σ:=by
 intro A fs ι s fv xs S rf rxs
 cases rf.bi_inv
 obtain ⟨y,z,rfl,r,r2⟩:=rxs.two
 obtain ⟨a,o,C',rfl,ho,hc',ho'⟩:=r
 rw [hc] at hc'; cases hc'
 cases hx.symm.trans r2
 exact kia_one (Yn3 ek) (TO.X0.keeps S.rep.base) ⟨o,ho,ho'⟩ e (by intro q; cases q) fun tk=>S.post q .bool_mk tk
theorem Yaa.isiXT {c:Str}{C:Addr}{ty:String}{b:Bool}(TO:Yaf T) (hc:T.c c=some C) (ek:Yhi T.K C=true) (e:kitOne T.K (.ref C) (.type ty)=some b) (q:Q (.bool b) σ) :
   Yaa T d X (.bi "isinstance") [.exc c,.type ty] Q σ:=by
 intro A fs ι s fv xs S rf rxs
 cases rf.bi_inv
 obtain ⟨y,z,rfl,r,r2⟩:=rxs.two
 cases r2.type_inv
 obtain ⟨a,o,C',rfl,ho,hc',ho'⟩:=r
 rw [hc] at hc'; cases hc'
 exact kia_one (Yn3 ek) (TO.X0.keeps S.rep.base) ⟨o,ho,ho'⟩ e (by intro q; cases q) fun tk=>S.post q .bool_mk tk
end
end
section
open PySem PySem.Calls PyProof.Rows PySem.SeqAt PySem.W
noncomputable def Tp.at (T:Tp) (b:Bool):Tp:={ T with hd:=b }
section
variable {T:Tp}{b:Bool}{ι ι':Inj}{h h':Heap}
theorem Yar.at_eq:Yar (T.at b)=Yar T:=by kernel_rfl
theorem Yh4.at_eq:Yh4 (T.at b)=Yh4 T:=by kernel_rfl
theorem Ycz.at_eq:Ycz (T.at b)=Ycz T:=by kernel_rfl
theorem Yar.at {v:V}{x:Value}(e:Yar T ι h v x):Yar (T.at b) ι h v x:=by rw [Yar.at_eq]; exact e
theorem Ycz.at {v:Option V}{x:Option Value}(e:Ycz T ι h v x):Ycz (T.at b) ι h v x:=by rw [Ycz.at_eq]; exact e
theorem Yh4.at {o:Yas}{p:Addr×Addr}(e:Yh4 T ι h o p):Yh4 (T.at b) ι h o p:=by rw [Yh4.at_eq]; exact e
theorem Rep.at {σ:Hp}(r:Rep T ι σ h):Rep (T.at b) ι σ h:=⟨r.len,r.big,r.size,r.base,fun l o p e q=>(r.objs l o p e q).at,r.fresh,r.apart⟩
theorem Ext.at {F:List Addr}(x:Ext T F ι h ι' h'):Ext (T.at b) F ι h ι' h':=⟨x.pre,x.size,x.cls,x.frz,x.keep,x.frm⟩
theorem Frm.at {env:Env}{F:List Addr}{ρ:Loc}(x:Frm T env F ρ ι h):Frm (T.at b) env F ρ ι h :=
 ⟨x.kind,x.glb,x.blt,(by obtain ⟨c,m,a,b,r⟩:=x.ns; exact ⟨c,m,a,b,fun z hz=>(r z hz).at⟩),fun z hz=>(by obtain ⟨c,o,v,a1,a2,a3,a4,a5,a6⟩:=x.cells z hz; exact ⟨c,o,v,a1,a2,a3,a4,a5.at,a6⟩),x.inj,x.loc,x.cin,x.apart,x.there⟩
theorem Ypn.at {e:Env}(x:Ypn T ι h e):Ypn (T.at b) ι h e:=x.rec fun k L o es ep f n b g c dd=>⟨k,L,o,es,ep,f,n,b,g,c,dd⟩
theorem Yaf.at (TO:Yaf T):Yaf (T.at b):=⟨TO.X0,TO.lim,TO.own,fun x v e=>by obtain ⟨V,mg,mb,a1,a2,a3,a4⟩:=TO.gl x v e; exact ⟨V,mg,mb,a1,a2,a3,a4.at⟩⟩
end
theorem Ywy {M:Model}{A:Around}{E:Value→Shared→Prop}{s:Shared}{a:Addr}{c:String}{m}{name:Str}{Q:Bool→Shared→Prop}(hn:NsC s.heap a c m) (hs:(m name).isSome=true)
   (hQ:∀ h',NsC h' a c (fun x=>if x=name then none else m x)→Heap.SameBut a s.heap h'→Q true { s with heap:=h' }):wpAny M A (nsDel a name) Q E s:=by
 obtain ⟨o,es,ep,ho,hc,hdi,hd,hk,hu,hm⟩:=hn
 have hany:es.any (·.refKey)=false:=by
   rw [Array.any_eq_false']; intro e he; obtain ⟨n,t,h⟩:=hk e he; simp [DictEntry.refKey,h]
 have hsome:(m name).isSome=es.any (·.key.isStr name):=by
   rw [← hm name]; simp only [nsFind,findBy,Option.isSome_map]
   rw [Bool.eq_iff_iff]; simp only [Array.find?_isSome,Array.any_eq_true]
   constructor
   · rintro ⟨x,hx,hp⟩; obtain ⟨i,hi,rfl⟩:=Array.mem_iff_getElem.mp hx; exact ⟨i,hi,hp⟩
   · rintro ⟨i,hi,hp⟩; exact ⟨_,Array.getElem_mem hi,hp⟩
 have hhas:nsHas name o=pure true:=by
   rw [nsHas_eq]; unfold nsHasByArray; rw [hd]
   show (if (es.any fun x=>x.key.isStr name)=true then _ else _)=_
   rw [← hsome,hs]; rfl
 unfold nsDel
 refine Zhb (wpAny_loadPart ho ?_)
 rw [hhas]
 refine Zhb (Zjb (Zhb (wpAny_updatePart ho (Zjb (hQ _ ?_ (Heap.SameBut.update ..))))))
 obtain ⟨cl,d,dt,sl⟩:=o
 subst hd
 cases hi:es.findIdx? (·.key.isStr name) with
 | some i =>
   refine ⟨_,_,ep+1,Heap.get?_update_self _ ho (by simp only [Obj.dropName_eq,Obj.dropNameByArray,hi] <;> rfl),(by simp only [Obj.dropName_eq,Obj.dropNameByArray,hi]; exact hc),(by simp only [Obj.dropName_eq,Obj.dropNameByArray,hi]; exact hdi),(by simp only [Obj.dropName_eq,Obj.dropNameByArray,hi] <;> rfl),hk.erase i,hu.erase i,fun x=>?_⟩
   rw [nsFind_erase hu hi,hm]
 | none =>
   exfalso
   rw [hs] at hsome
   rw [Array.findIdx?_eq_none_iff] at hi
   obtain ⟨i,hl,hp⟩:=Array.any_eq_true.mp hsome.symm
   rw [hi _ (Array.getElem_mem hl)] at hp; cases hp
section
variable {T:Tp}{A:Around}{fs:List Env}{d:Nat}{env:Env}{F:List Addr}{ι:Inj}{s:Shared}{ρ:Loc}{σ:Hp}
theorem Yv4 {M:Model}{A':Around}{E:Value→Shared→Prop}{x:Str}{v:V}{Q:Bool→Shared→Prop}(I:Inv T A fs d env F ρ ι σ s) (hl:env.kindOf x=some .local) (hv:ρ x=some v)
   (k:∀ h',Inv T A fs d env F (upd ρ x none) ι σ { s with heap:=h' }→Ext T F ι s.heap ι h'→Q true { s with heap:=h' }):wpAny M A' (nsDel env.locals x) Q E s:=by
 obtain ⟨c,m,hc,hn,hr⟩:=I.frm.ns
 refine Ywy hn ((hr x hl).isSome.trans (congrArg Option.isSome hv)) fun h' hn' hs=>?_
 obtain ⟨R',H',e,ds⟩:=I.frm.locTurn (v:=none) I.rep hl hc hn hn' hs fun z hz mo=>by
   by_cases q:z=x
   · rw [q,Yny,if_pos rfl]; exact .none
   · rw [Yiy q,if_neg q]; exact (hr z hz).mono mo
 exact k h' (I.stored (t:=s.toks) R' H' e ds) e
theorem Ys8 {M:Model}{A':Around}{E:Value→Shared→Prop}{n:Str}{pos:Pos}{Q:Unit→Shared→Prop}(I:Inv T A fs d env F ρ ι σ s) (hl:env.kindOf n=some .local)
   (k:∀ h' t ρ',Inv T A fs d env F ρ' ι σ { s with heap:=h',toks:=t }→Ext T F ι s.heap ι h'→Q () { s with heap:=h',toks:=t }) :
   wpAny M A' (do bindName env n .none; unbindBehindTheSuite env n pos) Q E s:=by
 refine Zhb (wpAny_bindName (Yjc (v:=.none) I (by unfold Yao; rw [show env.scope.names.lookup n=_ from hl]) .none_mk fun h₁ t₁ I₁ e₁=>?_))
 unfold unbindBehindTheSuite
 refine wpAny_onRaise ?_
 unfold unbindName
 refine Zhb (wpAny_point (Zhb ?_))
 unfold deleteName
 simp only [hl]
 rw [if_neg (by rw [I.frm.kind]; simp)]
 refine Zhb (Yv4 (v:=.none) I₁ hl (by simp [upd]) fun h₂ I₂ e₂=>?_)
 simp only [Bool.not_true,Bool.false_eq_true,if_false]
 exact Zjb (wpAny_point (k h₂ t₁ _ I₂ (e₁.trans e₂)))
end
end
section
open PySem PySem.Calls PyProof.Rows PySem.SeqAt PySem.W
noncomputable def Ynw (K:Frag) (C D:Addr) (b:Bool):Bool:=(clsIn K D).isSome && typeIn K (.ref D) == some (.type "type") && mroIn K D (.type "BaseException") == some true && mroIn K C (.ref D) == some b
set_option tactic.hygienic true in
theorem Yj5 {M:Model}{A:Around}{E:Value→Shared→Prop}{h:Heap}{g:Array GenState}{dr:Drawn}{t:Nat}{os:OsState}{K:Frag}{e C D:Addr}{o:Obj}{b:Bool}{Q:Bool→Shared→Prop}(X:K.In h) (k:Ynw K C D b=true) (he:h.get? e=some o) (hc:o.cls=.ref C)
   (hq:Q b ⟨h,g,dr,t,os⟩):wpAny M A (excMatches (.ref e) (.ref D)) Q E ⟨h,g,dr,t,os⟩:=by
 simp only [Ynw,Zob,beq_iff_eq] at k
 obtain ⟨⟨⟨k1,k2⟩,k3⟩,k4⟩:=k
 have L0:=Yfm (M:=M) he hc
 have L1:=looks_typeIn (M:=M) X k2
 have L2:=looks_mroIn (M:=M) X k3
 have L3:=looks_mroIn (M:=M) X k4
 have L4:Looks M h (isType (.ref D)) true:=Yr6 X k1
 unfold excMatches
 refine Zhb ?_
 unfold isInstance
 refine Zhb (L1.at ?_)
 rw [tc_notTuple]
 refine Zjb ?_
 rw [if_neg (by decide)]
 dsimp only
 refine Zhb (Zjb ?_)
 simp only [List.forIn_cons,List.forIn_nil]
 refine Zhb (Zhb (Zhb ?_))
 unfold isExcClass
 refine Zhb (L4.at ?_)
 rw [if_pos rfl]
 refine L2.at ?_
 simp only [Bool.not_true,Bool.false_eq_true,if_false]
 refine Zjb (Zjb (Zhb (L0.at ?_)))
 refine Zhb (Zhb (Zhb (L3.at ?_)))
 cases b
 · exact Zjb (Zjb (Zjb hq))
 · exact Zjb (Zjb (Zjb hq))
noncomputable def Yix (T:Tp) (d:Nat) (sc:Scope) (X:XS) (hs:List ExceptHandler) (c:Str) (Q:QS) (σ:Hp):Prop :=
 ∀ env A fs F ρ ι s ea ι₀ h₀,env.scope=sc→Inv T A fs d env F ρ ι σ s→Yop T h₀.objs.size ea c s.heap→ea∉own ι→T.b0.objs.size≤h₀.objs.size→Ext T F ι₀ h₀ ι s.heap →
   wpAny (model T.prog T.w) A (handleBy (.ref ea) env hs) (Yeu T A fs d env F Q ι₀ h₀) (Ybh T A fs d env F X ι₀ h₀) s
section
variable {T:Tp}{d:Nat}{sc:Scope}{ρ:Loc}{X:XS}{Q:QS}{σ:Hp}
set_option tactic.hygienic true in
theorem Yba.try {body:List Stmt}{h₀:ExceptHandler}{hs:List ExceptHandler}{pos:Pos}(h:Yeg T d sc ρ (fun c σ'=>Yix T d sc X (h₀::hs) c Q σ') body Q σ):Yba T d sc ρ X (.Try body (h₀::hs) [] [] pos) Q σ:=by
 intro env A fs F ι s hsc I
 have hb:=I.rep.size
 refine wpAny_Try_except (Zib (h env A fs F ι s hsc I) (fun f s₁ p=>?_) fun x s₁ p=>?_)
 · cases f with
   | next=>exact wpAny_execs_nil p
   | _=>exact p
 · refine Yg7 hb p fun ea c ρ' σ' ι' h' hx hX f n I' e'=>?_
   subst hx
   refine Ydb (S:=frs fs) f fun h'' t f'=>?_
   obtain ⟨I₂,e₂⟩:=Ybh.touched (X:=fun c σ'=>Yix T d sc X (h₀::hs) c Q σ') hX n I' e' f.fly hb t
   exact hX env A fs F ρ' ι' _ ea ι s.heap hsc I₂ f' n hb e₂
theorem Yru {M:Model}{A':Around}{E:Value→Shared→Prop}{x:Str}{np:Pos}{D:Addr}{A:Around}{fs:List Env}{env:Env}{F:List Addr}{ι:Inj}{s:Shared}{R:Value→Shared→Prop}(I:Inv T A fs d env F ρ ι σ s) (TO:Yaf T)
   (hg:T.gv x=some (.glob x)) (hk:env.scope.names.lookup x=some .globalImplicit) (ho:Yes env.scope=true) (hc:T.c x=some D) (q:R (.ref D) s):wpAny M A' (eval (.Name x np) env) R E s:=by
 refine ex3 (TO.gl x _ hg) fun V mg mb h9=>Yqo h9 fun n1 n2 hm r=>?_
 have N1:=n1.keeps I.rep.base
 have N2:=n2.keeps I.rep.base
 have hV:V=.ref D:=by
   exact Yai (r.symm.trans (Yh2 hc))
 subst hV
 refine Name_function_global I.frm.kind hk ?_ (Ycn ho hk).1
 rw [← I.frm.glb] at N1
 rw [← I.frm.blt] at N2
 rcases hm with hm | ⟨hm,hb⟩
 · exact loadGlobal_global N1 hm q
 · exact loadGlobal_builtin N1 hm N2 hb q
theorem Fly.at {T:Tp}{lo:Nat}{ea:Addr}{c:Str}{h:Heap}{C:Addr}{P:Prop}(f:Fly T lo ea c h) (hc:T.c c=some C) (k:∀ (oe:Obj) (vs:Array Value),T.hd=false→lo≤ea→h.get? ea=some oe→oe.cls=.ref C→oe.data=.fields vs→vs[2]?=some .none→P):P:=by
 obtain ⟨C',oe,vs,v,f1,f2,f3,f4,f5,f6,f7,f8,f9⟩:=f
 have e1:=f1.2
 rw [hc] at e1; cases e1
 exact k oe vs f1.1 f2 f3 f4 f5 f7
theorem Yix.hit {c x n:Str}{np pos:Pos}{b₀:Stmt}{body:List Stmt}{rest:List ExceptHandler}{C D:Addr}(TO:Yaf T) (hg:T.gv x=some (.glob x)) (hk:sc.names.lookup x=some .globalImplicit) (ho:Yes sc=true) (hc:T.c c=some C) (hd:T.c x=some D)
   (hm:Ynw T.K C D true=true) (hl:sc.names.lookup n=some .local) (h:∀ ρ,Yeg (T.at true) d sc (upd ρ n (some (.exc c))) (fun zz zz=>False) (b₀::body) (fun fl zz σ'=>∀ ρ',Q fl ρ' σ') σ) :
   Yix T d sc X (.ExceptHandler (some (.Name x np)) (some n) (b₀::body) pos::rest) c Q σ:=by
 intro env A fs F ρ ι s ea ι₀ h₀ hsc I f hn hb e
 subst hsc
 refine wpAny_handleBy_cons (codeAny_handlers_test (Yru I TO hg hk ho hd ?_)) (by intro q; cases q)
 refine f.fly.at hc fun oe vs f1 f2 f3 f4 f5 f7=>?_
 obtain ⟨hh,g,dr,t,os⟩:=s
 refine Yj5 (TO.X0.keeps I.rep.base) hm f3 f4 ?_
 refine codeAny_handlers_suite_as ?_
 refine Ydb (S:=frs fs) f fun h'' tt f'=>?_
 have hle:h₀.objs.size≤ea:=f2
 have I₂:=I.touch tt f.fly hn hb hle
 have e₂:Ext T F ι₀ h₀ ι h'':=e.touch tt (fun a ha=>(by obtain ⟨_,_,o,_,_,g,gc,_⟩:=I.aok.mem ha; exact ⟨o,g,gc⟩)) hle
 refine f'.fly.at hc fun oe vs g1 g2 g3 g4 g5 g7=>?_
 have hx:Yb9 (A.mark (some (.ref ea))) ι h'':=fun v q=>by
   have:v=.ref ea:=(Zab q).symm
   subst this
   exact ⟨ea,oe,C,vs,rfl,g3,g4,g5,g7,hn⟩
 have I₃:Inv (T.at true) (A.mark (some (.ref ea))) fs d env F ρ ι σ ⟨h'',g,dr,t,os⟩:=⟨I₂.rep.at,⟨I₂.aok.frames,fun e he=>(I₂.aok.funs e he).at,I₂.aok.depth,I₂.aok.units,fun q=>(by cases q),hx⟩,I₂.frm.at,I₂.top,I₂.gens,I₂.os⟩
 refine Yjc (v:=.exc c) I₃ (by unfold Yao; rw [hl]) ?_ fun h₃ t₃ I₄ e₃=>?_
 · exact ⟨ea,oe,C,rfl,g3,hc,g4⟩
 refine Zib (h ρ env _ fs F ι _ rfl I₄) (fun fl s₅ p=>?_) fun z s₅ p=>?_
 · obtain ⟨fl',ρ',σ',ι',q,r,I₅,e₅⟩:=p
   refine Ys8 (A:=A.mark (some (.ref ea))) I₅ hl fun h₆ t₆ ρ₆ I₆ e₆=>?_
   have hA:A.handled=none:=I.aok.hd f1
   have eb:T.at true=T.at true:=rfl
   have back:∀ {P:Tp→Prop},P ((T.at true).at T.hd)→P T:=fun h=>h
   have IT:Inv T A fs d env F ρ₆ ι' σ' { s₅ with heap:=h₆,toks:=t₆ } :=
     ⟨I₆.rep.at (b:=T.hd),⟨I₆.aok.frames,fun e he=>(I₆.aok.funs e he).at (b:=T.hd),I₆.aok.depth,I₆.aok.units,fun zz=>hA,.none hA⟩,I₆.frm.at (b:=T.hd),I₆.top,I₆.gens,I₆.os⟩
   exact ⟨fl',ρ₆,σ',ι',q ρ₆,(show Yhh ((T.at true).at T.hd) ι' h₆ fl' fl from r.imp fun zz zz r=>(r.mono e₆.mono).at),IT,e₂.trans ((e₃.at (b:=T.hd)).trans ((e₅.at (b:=T.hd)).trans (e₆.at (b:=T.hd))))⟩
 · obtain ⟨zz,zz,zz,zz,zz,zz,q,zz⟩:=p
   exact q.elim
end
end
section
noncomputable def Br (b:Bool) (P R:Prop):Prop:=@Bool.rec (fun zz=>Prop) R P b
theorem Br.mk {b:Bool}{P R:Prop}(h1:b=true→P) (h2:b=false→R):Br b P R:=by
 cases b
 · exact h2 rfl
 · exact h1 rfl
theorem Br.t {b:Bool}{P R:Prop}(h:b=true) (p:P):Br b P R:=by subst h; exact p
theorem Br.f {b:Bool}{P R:Prop}(h:b=false) (p:R):Br b P R:=by subst h; exact p
inductive Cal (T:Tp) (d:Nat) (X:QX) (f:V) (args:List V) (Q:QE) (σ:Hp):Prop where
 | mk (h:Yaa T d X f args Q σ):Cal T d X f args Q σ
inductive Evx (T:Tp) (d:Nat) (sc:Scope) (ρ:Loc) (X:QX) (e:Expr) (Q:QE) (σ:Hp):Prop where
 | mk (h:Yal T d sc ρ X e Q σ):Evx T d sc ρ X e Q σ
inductive Tsx (T:Tp) (d:Nat) (sc:Scope) (ρ:Loc) (X:QX) (e:Expr) (B:Bool→Hp→Prop) (σ:Hp):Prop where
 | mk (h:Ydx T d sc ρ X e B σ):Tsx T d sc ρ X e B σ
inductive Stx (T:Tp) (d:Nat) (sc:Scope) (ρ:Loc) (X:XS) (st:Stmt) (Q:QS) (σ:Hp):Prop where
 | mk (h:Yba T d sc ρ X st Q σ):Stx T d sc ρ X st Q σ
inductive Itm (o i:V) (Q:QE) (σ:Hp):Prop where
 | mk (h:Ydy o i Q σ):Itm o i Q σ
inductive Bin (op:Operator) (a b:V) (Q:QE) (σ:Hp):Prop where
 | mk (h:Ymi op a b Q σ):Bin op a b Q σ
inductive Cmp (op:CmpOp) (a b:V) (Q:QE) (σ:Hp):Prop where
 | mk (h:Ydf op a b Q σ):Cmp op a b Q σ
theorem Cal.out {T:Tp}{d:Nat}{X:QX}{f:V}{args:List V}{Q:QE}{σ:Hp}(h:Cal T d X f args Q σ):Yaa T d X f args Q σ:=by cases h; assumption
theorem Evx.out {T:Tp}{d:Nat}{sc:Scope}{ρ:Loc}{X:QX}{e:Expr}{Q:QE}{σ:Hp}(h:Evx T d sc ρ X e Q σ):Yal T d sc ρ X e Q σ:=by cases h; assumption
theorem Tsx.out {T:Tp}{d:Nat}{sc:Scope}{ρ:Loc}{X:QX}{e:Expr}{B:Bool→Hp→Prop}{σ:Hp}(h:Tsx T d sc ρ X e B σ):Ydx T d sc ρ X e B σ:=by cases h; assumption
theorem Stx.out {T:Tp}{d:Nat}{sc:Scope}{ρ:Loc}{X:XS}{st:Stmt}{Q:QS}{σ:Hp}(h:Stx T d sc ρ X st Q σ):Yba T d sc ρ X st Q σ:=by cases h; assumption
noncomputable def gd (b:Bool) (P:Prop):Prop:=@Bool.rec (fun zz=>Prop) False P b
theorem gd.of {b:Bool}{P:Prop}(h:b=true) (p:P):gd b P:=by subst h; exact p
theorem gd.out {b:Bool}{P:Prop}(h:gd b P):b=true∧P:=by
 cases b
 · exact h.elim
 · exact ⟨rfl,h⟩
noncomputable def Ypb:List V→Nat→Bool
 | [],z1=>true
 | z1::r,n+1=>Ypb r n
 | z1::z2,0=>false
theorem Yfj:∀ {vs:List V}{n:Nat},Ypb vs n=true→vs.length≤n
 | [],z1,z2=>Zkb _
 | z1::z2,z3+1,h=>Zwb (Yfj h)
noncomputable def tvc (v:V) (σ:Hp) (K:Bool→Prop):Prop:=match Ydd v σ with | some b=>K b | none=>False
theorem tvc.of {v:V}{σ:Hp}{K:Bool→Prop}{b:Bool}(h:Ydd v σ=some b) (k:K b):tvc v σ K:=by unfold tvc; rw [h]; exact k
theorem tvc.out {v:V}{σ:Hp}{K:Bool→Prop}(h:tvc v σ K):∃ b,Ydd v σ=some b∧K b:=by
 unfold tvc at h
 generalize Ydd v σ=o at h ⊢
 cases o
 · exact (show False from h).elim
 · exact ⟨_,rfl,h⟩
noncomputable def bvc (v:V) (K:Bool→Prop):Prop:=match v with | .bool b=>K b | _=>False
theorem bvc.out {v:V}{K:Bool→Prop}(h:bvc v K):∃ b,v=.bool b∧K b:=by
 cases v <;> first | exact h.elim | exact ⟨_,rfl,h⟩
noncomputable def Yrw (op:Operator) (a b:V) (Q:QE) (σ:Hp):Prop:=match a,b with
 | .int x,.int y=>(match op with
   | .Add=>Q (.int (x+y)) σ
   | .Sub=>Q (.int (x - y)) σ
   | .FloorDiv=>gd (y != 0 && decide (y.natAbs < 1073741824)) (Q (.int (x.fdiv y)) σ)
   | .Mod=>gd (y != 0) (Q (.int (x.fmod y)) σ)
   | op=>Bin op a b Q σ)
 | a,b=>Bin op a b Q σ
theorem Yrw.out {op:Operator}{a b:V}{Q:QE}{σ:Hp}(h:Yrw op a b Q σ):Ymi op a b Q σ:=by
 have key:Bin op a b Q σ→Ymi op a b Q σ:=fun h=>h.rec id
 cases a <;> first | exact key h | skip
 cases b <;> first | exact key h | skip
 cases op <;> first | exact key h | skip
 · exact ⟨_,_,.add ..,h⟩
 · exact ⟨_,_,.sub ..,h⟩
 · exact ⟨_,_,.mod _ _ (bne_iff_ne.mp (gd.out h).1),(gd.out h).2⟩
 · exact ⟨_,_,.fdiv _ _ (bne_iff_ne.mp (Bool.and_eq_true_iff.mp (gd.out h).1).1) (Zgb (Bool.and_eq_true_iff.mp (gd.out h).1).2),(gd.out h).2⟩
noncomputable def Ys2 (op:CmpOp) (a b:V) (Q:QE) (σ:Hp):Prop:=match a,b with
 | .int x,.int y=>(match op with
   | .Lt=>Q (.bool (decide (x < y))) σ
   | .LtE=>Q (.bool (decide (x≤y))) σ
   | .Gt=>Q (.bool (decide (y < x))) σ
   | .GtE=>Q (.bool (decide (y≤x))) σ
   | .Eq=>Q (.bool (x == y)) σ
   | .NotEq=>Q (.bool (x != y)) σ
   | op=>Cmp op a b Q σ)
 | .str x,.str y=>(match op with
   | .Eq=>Q (.bool (x == y)) σ
   | .NotEq=>Q (.bool (x != y)) σ
   | op=>Cmp op a b Q σ)
 | a,b=>Cmp op a b Q σ
theorem Ys2.out {op:CmpOp}{a b:V}{Q:QE}{σ:Hp}(h:Ys2 op a b Q σ):Ydf op a b Q σ:=by
 have key:Cmp op a b Q σ→Ydf op a b Q σ:=fun h=>h.rec id
 cases a <;> first | exact key h | skip
 · cases b <;> first | exact key h | skip
   cases op <;> first | exact key h | exact ⟨_,.eqi ..,h⟩ | exact ⟨_,.nei ..,h⟩ | exact ⟨_,.lt ..,h⟩ | exact ⟨_,.le ..,h⟩ | exact ⟨_,.gt ..,h⟩ | exact ⟨_,.ge ..,h⟩
 · cases b <;> first | exact key h | skip
   cases op <;> first | exact key h | exact ⟨_,.eqs ..,h⟩ | exact ⟨_,.nes ..,h⟩
noncomputable def Yw3 (vs:List V) (k:Int):Option V:=match k with
 | .ofNat n=>bif Nat.ble n 1000 then vs[n]? else none
 | .negSucc n=>bif Nat.ble n 1000 then (seqIndex? (.negSucc n) vs.length).bind (vs[·]?) else none
set_option tactic.hygienic true in
theorem Ypv {vs:List V}{k:Int}{v:V}(h:Yw3 vs k=some v):∃ j,seqIndex? k vs.length=some j∧vs[j]?=some v∧decide (-(2 ^ 63)≤k∧k < 2 ^ 63)=true:=by
 unfold Yw3 at h
 split at h
 · rename_i n
   cases hn:Nat.ble n 1000 <;> rw [hn] at h
   · cases h
   · have hl:=(Zb.mp h).1
     have:=Nat.le_of_ble_eq_true hn
     refine ⟨n,?_,h,Zmb ?_⟩
     · unfold seqIndex?
       simp only [show ¬ ((Int.ofNat n:Int) < 0) by simp,if_false]
       rw [if_pos (by simp only [Zob,decide_eq_true_eq]; clear h; simp only [Int.ofNat_eq_natCast]; lia)]
       simp
     · clear h; simp only [Int.ofNat_eq_natCast]; lia
 · rename_i n
   cases hn:Nat.ble n 1000 <;> rw [hn] at h
   · cases h
   · obtain ⟨j,h1,h2⟩:=Option.bind_eq_some_iff.mp h
     have:=Nat.le_of_ble_eq_true hn
     exact ⟨j,h1,h2,Zmb (by clear h h1 h2; lia)⟩
noncomputable def opP {α:Type}(o:Option α) (P:α→Prop):Prop:=match o with
 | some v=>P v
 | none=>False
theorem Ytv {α:Type}{o:Option α}{P:α→Prop}(h:opP o P):∃ v,o=some v∧P v:=by
 cases o
 · exact (show False from h).elim
 · exact ⟨_,rfl,h⟩
noncomputable def Ydc (o i:V) (Q:QE) (σ:Hp):Prop:=match o,i with
 | .tup vs,.int k=>opP (Yw3 vs k) fun v=>Q v σ
 | o,i=>Itm o i Q σ
set_option tactic.hygienic true in
theorem Ydc.out {o i:V}{Q:QE}{σ:Hp}(h:Ydc o i Q σ):Ydy o i Q σ:=by
 have key:Itm o i Q σ→Ydy o i Q σ:=fun h=>h.rec id
 cases o <;> first | exact key h | skip
 cases i <;> first | exact key h | skip
 rename_i vs k
 obtain ⟨v,hv,h⟩:=Ytv h
 refine (Ypv hv).elim fun j h9=>Yh5 h9 fun h1 h2 h3=>?_
 exact Yxx h1 h2 h3 h
theorem Ydc.at {vs:List V}{k:Int}{v:V}{Q:QE}{σ:Hp}(h:Yw3 vs k=some v) (q:Q v σ):Ydc (.tup vs) (.int k) Q σ:=by
 show opP _ _; rw [h]; exact q
theorem Ycl {op:CmpOp}{a b:V}{Q Q':QE}{σ:Hp}(h:Ydf op a b Q σ) (k:∀ v σ,Q v σ→Q' v σ):Ydf op a b Q' σ:=h.rec fun r c q=>⟨r,c,k _ _ q⟩
inductive Yam (T:Tp) (ov:V) (name:Str) (σ:Hp) (K:V→Prop):Prop where
 | mk (f:V) (h:Yd8 T σ name ov f) (k:K f):Yam T ov name σ K
noncomputable def Yxd (v:V) (K:Int→Prop):Prop:=match v with | .int i=>K i | _=>False
theorem Yxd.out {v:V}{K:Int→Prop}(h:Yxd v K):∃ i,v=.int i∧K i:=by
 cases v <;> first | exact h.elim | exact ⟨_,rfl,h⟩
noncomputable def nmG (o:Option V) (Q:QE) (σ:Hp):Prop:=@Option.rec V (fun zz=>Prop) False (fun v=>Q v σ) o
theorem nmG.of {o:Option V}{v:V}{Q:QE}{σ:Hp}(h:o=some v) (q:Q v σ):nmG o Q σ:=by subst h; exact q
theorem nmG.out {o:Option V}{Q:QE}{σ:Hp}(h:nmG o Q σ):∃ v,o=some v∧Q v σ:=by
 cases o with
 | none=>exact h.elim
 | some v=>exact ⟨v,rfl,h⟩
set_option genCtorIdx false in
inductive Tg where
 | nm (x:Str) (p:Pos)
 | at (o:Expr) (a:Str) (p:Pos)
 | ix (o i:Expr) (p:Pos)
 | tp (es:List Expr) (k:Nat) (p:Pos)
 | cl (f:Expr) (args:List Expr) (kws:List Keyword) (p:Pos)
 | lc (elt:Expr) (gens:List Comprehension) (scope:Scope) (p:Pos)
 | no
noncomputable def tg (e:Expr):Tg:=e.casesOn (fun _ _ _=>.no) (fun _ _ _=>.no) (fun _ _ _ _=>.no) (fun _ _ _=>.no) (fun _ _ _ _=>.no) (fun _ _ _ _=>.no) (fun _ _ _=>.no) (fun _ _ _=>.no) .lc (fun _ _ _ _=>.no) (fun _ _ _ _ _=>.no) (fun _ _ _ _=>.no) (fun _ _=>.no) (fun _ _=>.no) (fun _ _=>.no) (fun _ _ _ _=>.no) .cl (fun _ _ _ _=>.no) (fun _ _=>.no) (fun _ _ _=>.no) .at .ix (fun _ _=>.no) .nm (fun _ _=>.no) .tp (fun _ _ _ _=>.no)
noncomputable def Tg.back:Tg→Expr
 | .nm x p=>.Name x p
 | .at o a p=>.Attribute o a p
 | .ix o i p=>.Subscript o i p
 | .tp es k p=>.Tuple es k p
 | .cl f args kws p=>.Call f args kws p
 | .lc elt gens scope p=>.ListComp elt gens scope p
 | .no=>.Starred (.Name "" default) default
noncomputable def Tg.ok:Tg→Bool
 | .no=>false
 | .nm z1 z2=>true
 | .at z1 z2 z3=>true
 | .ix z1 z2 z3=>true
 | .tp z1 z2 z3=>true
 | .cl z1 z2 z3 z4=>true
 | .lc z1 z2 z3 z4=>true
theorem Yto (e:Expr) (h:(tg e).ok=true):e=(tg e).back:=by
 cases e <;> first | rfl | exact (Zv h).elim
theorem Yea {e:Expr}{t:Tg}(h:tg e=t) (hk:t.ok=true):e=t.back:=(Yto e (h▸hk)).trans (congrArg Tg.back h)
set_option genInjectivity false
set_option genCtorIdx false in
inductive Wh where
 | tup
 | list
 | callG (x:Str)
 | callM (f ov:V)
set_option genCtorIdx false in
inductive Ko where
 | binR (op:Operator) (e:Expr)
 | binA (op:Operator) (a:V)
 | cmpR (op:CmpOp) (e:Expr)
 | cmpA (op:CmpOp) (a:V)
 | chnR (op op2:CmpOp) (e e2:Expr)
 | chnA (op op2:CmpOp) (a:V) (e2:Expr)
 | chnB (op2:CmpOp) (b:V) (e2:Expr)
 | arg (acc:List V) (es:List Expr) (w:Wh)
 | ixR (i:Expr)
 | ixA (o:V)
 | attr (a:Str)
 | not
 | neg
 | bo (op:BoolOp) (es:List Expr)
 | meth (name:Str) (args:List Expr)
 | comp (scope:Scope) (x:Str) (ifs:List Expr) (elt:Expr)
 | tst
 | tsb
 | rev
 | asgN (x:Str) (rest:List (List Stmt))
 | asgA (o:Expr) (a:Str) (rest:List (List Stmt))
 | asgB (a:Str) (v:V) (rest:List (List Stmt))
 | asgS (o i:Expr) (rest:List (List Stmt))
 | asgI (i:Expr) (v:V) (rest:List (List Stmt))
 | asgV (v ov:V) (rest:List (List Stmt))
 | expr (rest:List (List Stmt))
 | for1 (x:Str) (body:List Stmt) (rest:List (List Stmt))
 | for2 (a b:Str) (body:List Stmt) (rest:List (List Stmt))
 | bnot
 | bal (op:BoolOp) (es:List Expr)
 | ite (b o:List Stmt) (rest:List (List Stmt))
set_option genCtorIdx false in
inductive Cf where
 | ev (e:Expr) (k:List Ko) (ρ:Loc) (σ:Hp)
 | rt (v:V) (k:List Ko) (ρ:Loc) (σ:Hp)
 | ag (es:List Expr) (acc:List V) (w:Wh) (k:List Ko) (ρ:Loc) (σ:Hp)
 | bo (op:BoolOp) (es:List Expr) (k:List Ko) (ρ:Loc) (σ:Hp)
 | ts (e:Expr) (k:List Ko) (ρ:Loc) (σ:Hp)
 | al (op:BoolOp) (es:List Expr) (k:List Ko) (ρ:Loc) (σ:Hp)
 | bl (b:Bool) (k:List Ko) (ρ:Loc) (σ:Hp)
 | st (sss:List (List Stmt)) (ρ:Loc) (σ:Hp)
noncomputable def Yxt (a b:V) (Q:QE) (σ:Hp):Prop:=Yrw .Add a b Q σ∧Ys2 .Eq a b Q σ∧Ydc a b Q σ∧tvc a σ (fun zz=>True)∧nmG none Q σ∧gd true True
section
variable (r:Cf→Prop)
noncomputable def rtQ (k:List Ko) (ρ:Loc):QE:=fun v σ=>let _h:=Yxt; r (.rt v k ρ σ)
noncomputable def blQ (k:List Ko) (ρ:Loc):Bool→Hp→Prop:=fun b σ=>let _h:=Yxt; r (.bl b k ρ σ)
noncomputable def blK (k:List Ko) (ρ:Loc) (σ:Hp) (b:Bool):Prop:=let _h:=Yxt; r (.bl b k ρ σ)
noncomputable def notK (k:List Ko) (ρ:Loc) (σ:Hp) (b:Bool):Prop:=r (.rt (.bool (!b)) k ρ σ)
noncomputable def negK (k:List Ko) (ρ:Loc) (σ:Hp) (i:Int):Prop:=r (.rt (.int (-i)) k ρ σ)
noncomputable def boK (op:BoolOp) (es:List Expr) (v:V) (k:List Ko) (ρ:Loc) (σ:Hp) (b:Bool):Prop:=match op with
 | .And=>Br b (r (.bo .And es k ρ σ)) (r (.rt v k ρ σ))
 | .Or=>Br b (r (.rt v k ρ σ)) (r (.bo .Or es k ρ σ))
noncomputable def chK (op2:CmpOp) (b:V) (e:Expr) (k:List Ko) (ρ:Loc) (σ:Hp) (c:Bool):Prop:=Br c (r (.ev e (.cmpA op2 b::k) ρ σ)) (r (.rt (.bool false) k ρ σ))
noncomputable def mtK (args:List Expr) (ov:V) (k:List Ko) (ρ:Loc) (σ:Hp) (f:V):Prop:=r (.ag args [] (.callM f ov) k ρ σ)
noncomputable def Yxi:List V→List V→(List V→Prop)→Prop
 | [],out,P=>P out
 | v::acc,out,P=>Yxi acc (v::out) P
noncomputable def Ych (Q:QS) (rest:List (List Stmt)):QS:=fun fl ρ σ=>match fl with
 | .next=>r (.st rest ρ σ)
 | fl=>Q fl ρ σ
end
section
variable (T:Tp) (sc:Scope)
noncomputable def Yfv (x:Str):Bool:=match sc.names.lookup x with | some .globalImplicit=>true | _=>false
noncomputable def Yxj (v:V):Bool:=v.casesOn (Yaw v) (fun _=>Yaw v) (fun _=>Yaw v) (fun _=>Yaw v) (fun _=>Yaw v) (fun _=>Yaw v) (fun x=>(T.g x).any fun v=>PySem.W.keepIn T.K v) (fun _ _=>Yaw v) (fun _=>Yaw v) (fun _=>Yaw v) (fun _=>Yaw v) (fun _=>Yaw v) (fun _=>Yaw v) (fun _ _=>Yaw v)
noncomputable def Yt2:Option V→Bool
 | some v=>Yxj T v
 | none=>false
end
noncomputable def nmO:Tg→Option Str
 | .nm x z1=>some x
 | z1=>none
theorem Yhj {e:Expr}{x:Str}(h:nmO (tg e)=some x):∃ p,e=.Name x p:=by
 cases ht:tg e <;> rw [ht] at h <;> first | exact (Yap h).elim | exact ⟨_,Yai h▸Yea ht rfl⟩
noncomputable def Yxg:Tg→Option (Str×Expr)
 | .cl f [a] [] z1=>(nmO (tg f)).map fun x=>(x,a)
 | z1=>none
noncomputable def Yuc (sc:Scope) (x:Str) (a:Expr):Bool:=x == ("reversed" : Str) && (Yfv sc x && Yb4 [a])
noncomputable def Ym3:Option V→Bool
 | some (.type n)=>n == "reversed"
 | z1=>false
theorem Yme {o:Option V}(h:Ym3 o=true):o=some (.type "reversed"):=by
 rcases o with zz | v
 · exact (Zv h).elim
 · cases v <;> first | exact (Zv h).elim | exact congrArg (some<|V.type ·) (eq_of_beq h)
inductive Ym5 (K:V→Hp→Prop) (v:V) (σ:Hp):Prop where
 | mk (l:Nat) (vs:List V) (h:v=.ref l) (h1:σ[l]?=some (.list vs)) (k:K (.rev l vs.length) σ):Ym5 K v σ
noncomputable def Ynp (sc:Scope) (x:Str):Bool:=match sc.names.lookup x with | some .cell=>true | _=>false
noncomputable def Yjq (sc:Scope) (x:Str):Bool:=match sc.names.lookup x with | some .local=>true | _=>false
noncomputable def Yyj (sc:Scope) (e:Expr):Bool:=match Yxg (tg e) with
 | some (x,a) => !Yuc sc x a
 | none=>true
section
variable (T:Tp) (d:Nat) (sc:Scope) (X:QX) (Q:QS) (r:Cf→Prop)
noncomputable def Ypo (scope:Scope) (c:Comprehension) (x:Str):Bool:=Ydh scope sc && Yao scope x && Yfb c.iter && !T.hd && c.is_async == 0 && Yyj sc c.iter
noncomputable def Yt0 (elt:Expr) (gens:List Comprehension) (scope:Scope) (P:Prop) (k:List Ko) (ρ:Loc) (σ:Hp):Prop:=match gens with
 | [c]=>(match nmO (tg c.target) with
   | some x=>bif Ypo T sc scope c x then r (.ev c.iter (.comp scope x c.ifs elt::k) ρ σ) else P
   | none=>P)
 | z1=>P
noncomputable def stE (e:Expr) (k:List Ko) (ρ:Loc) (σ:Hp):Prop:=e.casesOn
 (fun op es z1=>r (.bo op es k ρ σ)) (fun _ _ _=>Evx T d sc ρ X e (rtQ r k ρ) σ)
 (fun l op e2 z1=>r (.ev l (.binR op e2::k) ρ σ))
 (fun op x z1=>(match op with
   | .Not=>r (.ev x (.not::k) ρ σ)
   | .USub=>r (.ev x (.neg::k) ρ σ)
   | z1=>Evx T d sc ρ X e (rtQ r k ρ) σ)) (fun _ _ _ _=>Evx T d sc ρ X e (rtQ r k ρ) σ) (fun _ _ _ _=>Evx T d sc ρ X e (rtQ r k ρ) σ)
 (fun ks vs z1=>bif ks.isEmpty && vs.isEmpty then r (.rt (.ref σ.length) k ρ (σ++[.sdict []])) else Evx T d sc ρ X e (rtQ r k ρ) σ) (fun _ _ _=>Evx T d sc ρ X e (rtQ r k ρ) σ)
 (fun elt gens scope z1=>Yt0 T sc r elt gens scope (Evx T d sc ρ X e (rtQ r k ρ) σ) k ρ σ) (fun _ _ _ _=>Evx T d sc ρ X e (rtQ r k ρ) σ) (fun _ _ _ _ _=>Evx T d sc ρ X e (rtQ r k ρ) σ) (fun _ _ _ _=>Evx T d sc ρ X e (rtQ r k ρ) σ) (fun _ _=>Evx T d sc ρ X e (rtQ r k ρ) σ) (fun _ _=>Evx T d sc ρ X e (rtQ r k ρ) σ) (fun _ _=>Evx T d sc ρ X e (rtQ r k ρ) σ)
 (fun l ops rs z1=>(match ops,rs with
   | [op],[e2]=>bif behindInMarks op e2 then Evx T d sc ρ X e (rtQ r k ρ) σ else r (.ev l (.cmpR op e2::k) ρ σ)
   | [op,op2],[m,e2]=>bif behindInMarks op2 e2 then Evx T d sc ρ X e (rtQ r k ρ) σ else r (.ev l (.chnR op op2 m e2::k) ρ σ)
   | z1,z2=>Evx T d sc ρ X e (rtQ r k ρ) σ))
 (fun f args kws pos=>(match kws with | _::_=>Evx T d sc ρ X e (rtQ r k ρ) σ | []=>match tg f with
   | .nm x z1=>bif Yb4 args && Yfv sc x then gd (Yt2 T (T.gv x)) (r (.ag args [] (.callG x) k ρ σ)) else Evx T d sc ρ X e (rtQ r k ρ) σ
   | .at o name apos=>bif Yck o && Yb4 args && (apos.endLine == pos.line) && Nat.ble args.length 20 then r (.ev o (.meth name args::k) ρ σ)
     else Evx T d sc ρ X e (rtQ r k ρ) σ
   | z1=>Evx T d sc ρ X e (rtQ r k ρ) σ)) (fun _ _ _ _=>Evx T d sc ρ X e (rtQ r k ρ) σ) (fun _ _=>Evx T d sc ρ X e (rtQ r k ρ) σ)
 (fun c z1 z2=>(match c with
   | .none=>r (.rt .none k ρ σ)
   | .bool b=>r (.rt (.bool b) k ρ σ)
   | .int i=>r (.rt (.int i) k ρ σ)
   | .str t=>r (.rt (.str t) k ρ σ)
   | z1=>Evx T d sc ρ X e (rtQ r k ρ) σ))
 (fun v a z1=>bif Yck v then r (.ev v (.attr a::k) ρ σ) else Evx T d sc ρ X e (rtQ r k ρ) σ)
 (fun v i z1=>bif Yeb i then r (.ev v (.ixR i::k) ρ σ) else Evx T d sc ρ X e (rtQ r k ρ) σ) (fun _ _=>Evx T d sc ρ X e (rtQ r k ρ) σ)
 (fun x z1=>bif Yoq sc x then nmG (ρ x) (rtQ r k ρ) σ else gd (Yfv sc x) (nmG (T.gv x) (rtQ r k ρ) σ))
 (fun es z1=>bif Yb4 es then r (.ag es [] .list k ρ σ) else Evx T d sc ρ X e (rtQ r k ρ) σ)
 (fun es z1 z2=>bif Yb4 es then r (.ag es [] .tup k ρ σ) else Evx T d sc ρ X e (rtQ r k ρ) σ) (fun _ _ _ _=>Evx T d sc ρ X e (rtQ r k ρ) σ)
noncomputable def Yxc (w:Wh) (k:List Ko) (ρ:Loc) (σ:Hp) (vs:List V):Prop:=match w with
 | .tup=>gd (Ypb vs 100) (r (.rt (.tup vs) k ρ σ))
 | .list=>gd (Ypb vs 100) (r (.rt (.ref σ.length) k ρ (σ++[.list vs])))
 | .callG x=>nmG (T.gv x) (fun v σ=>Cal T d X v vs (rtQ r k ρ) σ) σ
 | .callM f ov=>Cal T d X f (ov::vs) (rtQ r k ρ) σ
noncomputable def stR (v:V) (k:List Ko) (ρ:Loc) (σ:Hp):Prop:=match k with
 | []=>Q (.ret v) ρ σ
 | f::k=>match f with
   | .binR op e=>r (.ev e (.binA op v::k) ρ σ)
   | .binA op a=>Yrw op a v (rtQ r k ρ) σ
   | .cmpR op e=>r (.ev e (.cmpA op v::k) ρ σ)
   | .cmpA op a=>Ys2 op a v (rtQ r k ρ) σ
   | .chnR op op2 e e2=>r (.ev e (.chnA op op2 v e2::k) ρ σ)
   | .chnA op op2 a e2=>Ys2 op a v (rtQ r (.chnB op2 v e2::k) ρ) σ
   | .chnB op2 b e2=>bvc v (chK r op2 b e2 k ρ σ)
   | .arg acc es w=>r (.ag es (v::acc) w k ρ σ)
   | .ixR i=>r (.ev i (.ixA v::k) ρ σ)
   | .ixA o=>Ydc o v (rtQ r k ρ) σ
   | .attr a=>Yad T a (rtQ r k ρ) v σ
   | .not=>tvc v σ (notK r k ρ σ)
   | .neg=>Yxd v (negK r k ρ σ)
   | .bo op es=>tvc v σ (boK r op es v k ρ σ)
   | .meth name args=>Yam T v name σ (mtK r args v k ρ σ)
   | .comp scope x ifs elt=>Yc6 T d sc ρ X scope x ifs elt (rtQ r k ρ) v σ
   | .tst=>tvc v σ (blK r k ρ σ)
   | .tsb=>bvc v (blK r k ρ σ)
   | .rev=>Ym5 (rtQ r k ρ) v σ
   | .asgN x rest=>r (.st rest (upd ρ x (some v)) σ)
   | .asgA o a rest=>r (.ev o (.asgB a v rest::k) ρ σ)
   | .asgB a u rest=>Yaj T a ρ (Ych r Q rest) u v σ
   | .asgS o i rest=>r (.ev o (.asgI i v rest::k) ρ σ)
   | .asgI i u rest=>r (.ev i (.asgV u v rest::k) ρ σ)
   | .asgV u ov rest=>Yat ρ (Ych r Q rest) u ov v σ
   | .expr rest=>r (.st rest ρ σ)
   | .for1 x body rest=>Yc7 T d sc X (nx1 x) body (Ych r Q rest) v ρ σ
   | .for2 a b body rest=>Yc7 T d sc X (nx2 a b) body (Ych r Q rest) v ρ σ
   | .bnot=>False
   | .bal z1 z2=>False
   | .ite z1 z2 z3=>False
noncomputable def stT (e:Expr) (k:List Ko) (ρ:Loc) (σ:Hp):Prop:=e.casesOn
 (fun op es z1=>r (.al op es k ρ σ)) (fun _ _ _=>r (.ev e (.tst::k) ρ σ)) (fun _ _ _ _=>r (.ev e (.tst::k) ρ σ))
 (fun op x z1=>(match op with
   | .Not=>r (.ts x (.bnot::k) ρ σ)
   | z1=>Tsx T d sc ρ X e (blQ r k ρ) σ)) (fun _ _ _ _=>r (.ev e (.tst::k) ρ σ))
 (fun _ _ _ _=>Tsx T d sc ρ X e (blQ r k ρ) σ) (fun _ _ _=>r (.ev e (.tst::k) ρ σ)) (fun _ _ _=>r (.ev e (.tst::k) ρ σ)) (fun _ _ _ _=>r (.ev e (.tst::k) ρ σ)) (fun _ _ _ _=>r (.ev e (.tst::k) ρ σ)) (fun _ _ _ _ _=>r (.ev e (.tst::k) ρ σ)) (fun _ _ _ _=>r (.ev e (.tst::k) ρ σ)) (fun _ _=>r (.ev e (.tst::k) ρ σ)) (fun _ _=>r (.ev e (.tst::k) ρ σ)) (fun _ _=>r (.ev e (.tst::k) ρ σ))
 (fun l ops rs z1=>(match ops,rs with
   | [op],[e2]=>bif behindInMarks op e2 then Tsx T d sc ρ X e (blQ r k ρ) σ else r (.ev l (.cmpR op e2::.tsb::k) ρ σ)
   | [op,op2],[m,e2]=>bif behindInMarks op2 e2 then Tsx T d sc ρ X e (blQ r k ρ) σ else r (.ev l (.chnR op op2 m e2::.tsb::k) ρ σ)
   | z1,z2=>Tsx T d sc ρ X e (blQ r k ρ) σ)) (fun _ _ _ _=>r (.ev e (.tst::k) ρ σ)) (fun _ _ _ _=>r (.ev e (.tst::k) ρ σ)) (fun _ _=>r (.ev e (.tst::k) ρ σ)) (fun _ _ _=>r (.ev e (.tst::k) ρ σ)) (fun _ _ _=>r (.ev e (.tst::k) ρ σ)) (fun _ _ _=>r (.ev e (.tst::k) ρ σ)) (fun _ _=>r (.ev e (.tst::k) ρ σ)) (fun _ _=>r (.ev e (.tst::k) ρ σ)) (fun _ _=>r (.ev e (.tst::k) ρ σ)) (fun _ _ _=>r (.ev e (.tst::k) ρ σ)) (fun _ _ _ _=>r (.ev e (.tst::k) ρ σ))
noncomputable def stL (b:Bool) (k:List Ko) (ρ:Loc) (σ:Hp):Prop:=match k with
 | []=>Q (.ret (.bool b)) ρ σ
 | f::k=>f.casesOn (fun _ _=>False) (fun _ _=>False) (fun _ _=>False) (fun _ _=>False) (fun _ _ _ _=>False) (fun _ _ _ _=>False) (fun _ _ _=>False) (fun _ _ _=>False) (fun _=>False) (fun _=>False) (fun _=>False) False False (fun _ _=>False) (fun _ _=>False) (fun _ _ _ _=>False) False False False (fun _ _=>False) (fun _ _ _=>False) (fun _ _ _=>False) (fun _ _ _=>False) (fun _ _ _=>False) (fun _ _ _=>False) (fun _=>False) (fun _ _ _=>False) (fun _ _ _ _=>False) (r (.bl (!b) k ρ σ)) (fun op es=>match op with
     | .And=>Br b (r (.al .And es k ρ σ)) (r (.bl false k ρ σ))
     | .Or=>Br b (r (.bl true k ρ σ)) (r (.al .Or es k ρ σ))) (fun t o rest=>Br b (r (.st (t::rest) ρ σ)) (r (.st (o::rest) ρ σ)))
noncomputable def itG (iter:Expr) (k:List Ko) (ρ:Loc) (σ:Hp):Prop:=match Yxg (tg iter) with
 | some (x,a)=>bif Yuc sc x a then gd (Ym3 (T.gv x)) (r (.ev a (.rev::k) ρ σ)) else r (.ev iter k ρ σ)
 | none=>r (.ev iter k ρ σ)
noncomputable def Yy1 (a b:Option Str) (iter:Expr) (body:List Stmt) (P:Prop) (rest:List (List Stmt)) (ρ:Loc) (σ:Hp):Prop:=match a,b with
 | some a,some b=>bif Yao sc a && Yao sc b && Yfb iter && !T.hd then itG T sc r iter [.for2 a b body rest] ρ σ else P
 | z1,z2=>P
noncomputable def forG (t:Tg) (iter:Expr) (body:List Stmt) (P:Prop) (rest:List (List Stmt)) (ρ:Loc) (σ:Hp):Prop:=match t with
 | .nm x z1=>bif Yao sc x && Yfb iter && !T.hd then itG T sc r iter [.for1 x body rest] ρ σ else P
 | .tp es z1 z2=>(match es with
   | [a,b]=>Yy1 T sc r (nmO (tg a)) (nmO (tg b)) iter body P rest ρ σ
   | z1=>P)
 | z1=>P
noncomputable def Yy6 (t:Tg) (value:Expr) (P:Prop) (rest:List (List Stmt)) (ρ:Loc) (σ:Hp):Prop:=match t with
 | .nm x z1=>bif Yao sc x then r (.ev value [.asgN x rest] ρ σ) else P
 | .at o a z1=>r (.ev value [.asgA o a rest] ρ σ)
 | .ix o i z1=>r (.ev value [.asgS o i rest] ρ σ)
 | z1=>P
noncomputable def Yyy (t u:Tg) (value:Expr) (P:Prop) (rest:List (List Stmt)) (ρ:Loc) (σ:Hp):Prop:=match t with
 | .nm y py=>bif Ynp sc y then r (.ev value [.asgN y rest] ρ σ) else
   match u with
   | .lc elt gens scope pos=>bif Yjq sc y && (py.line == pos.line && !(scope.names.any fun (n,k)=>n == y && (k == .local || k == .cell))) then Yt0 T sc r elt gens scope P [.asgN y rest] ρ σ else P
   | z1=>P
 | z1=>P
noncomputable def stM (st:Stmt) (rest:List (List Stmt)) (ρ:Loc) (σ:Hp):Prop:=st.casesOn (fun _ _ _ _ _ _ _ _ _ _=>Stx T d sc ρ X st (Ych r Q rest) σ) (fun _ _ _ _ _ _ _ _ _ _=>Stx T d sc ρ X st (Ych r Q rest) σ) (fun _ _ _ _ _ _ _ _ _ _ _=>Stx T d sc ρ X st (Ych r Q rest) σ) (fun v _=>match v with | some e=>r (.ev e [] ρ σ) | none=>Q (.ret .none) ρ σ) (fun _ _=>Stx T d sc ρ X st (Ych r Q rest) σ) (fun ts value _=>match ts with | [t]=>bif Ye3 value then Yy6 sc r (tg t) value (Stx T d sc ρ X st (Ych r Q rest) σ) rest ρ σ else Yyy T sc r (tg t) (tg value) value (Stx T d sc ρ X st (Ych r Q rest) σ) rest ρ σ | _=>Stx T d sc ρ X st (Ych r Q rest) σ) (fun _ _ _ _ _ _ _=>Stx T d sc ρ X st (Ych r Q rest) σ) (fun _ _ _ _=>Stx T d sc ρ X st (Ych r Q rest) σ) (fun _ _ _ _ _=>Stx T d sc ρ X st (Ych r Q rest) σ) (fun t iter body el _=>match el with | []=>forG T sc r (tg t) iter body (Stx T d sc ρ X st (Ych r Q rest) σ) rest ρ σ | _::_=>Stx T d sc ρ X st (Ych r Q rest) σ) (fun _ _ _ _ _=>Stx T d sc ρ X st (Ych r Q rest) σ) (fun _ _ _ _=>Stx T d sc ρ X st (Ych r Q rest) σ) (fun e b o _=>r (.ts e [.ite b o rest] ρ σ)) (fun _ _ _=>Stx T d sc ρ X st (Ych r Q rest) σ) (fun _ _ _=>Stx T d sc ρ X st (Ych r Q rest) σ) (fun _ _ _=>Stx T d sc ρ X st (Ych r Q rest) σ) (fun _ _ _=>Stx T d sc ρ X st (Ych r Q rest) σ) (fun _ _ _ _ _=>Stx T d sc ρ X st (Ych r Q rest) σ) (fun _ _ _ _ _=>Stx T d sc ρ X st (Ych r Q rest) σ) (fun _ _ _=>Stx T d sc ρ X st (Ych r Q rest) σ) (fun _ _=>Stx T d sc ρ X st (Ych r Q rest) σ) (fun _ _ _ _=>Stx T d sc ρ X st (Ych r Q rest) σ) (fun _ _=>Stx T d sc ρ X st (Ych r Q rest) σ) (fun _ _=>Stx T d sc ρ X st (Ych r Q rest) σ) (fun e _=>bif Ye3 e then r (.ev e [.expr rest] ρ σ) else Stx T d sc ρ X st (Ych r Q rest) σ) (fun _=>r (.st rest ρ σ)) (fun _=>Q .brk ρ σ) (fun _=>Q .cont ρ σ)
noncomputable def Yvb (c:Cf):Prop:=match c with
 | .ev e k ρ σ=>stE T d sc X r e k ρ σ
 | .rt v k ρ σ=>stR T d sc X Q r v k ρ σ
 | .ag es acc w k ρ σ=>(match es with
   | e::es=>r (.ev e (.arg acc es w::k) ρ σ)
   | []=>Yxi acc [] (Yxc T d X r w k ρ σ))
 | .bo op es k ρ σ=>(match es with
   | []=>False
   | [x]=>r (.ev x k ρ σ)
   | x::y::t=>r (.ev x (.bo op (y::t)::k) ρ σ))
 | .ts e k ρ σ=>stT T d sc X r e k ρ σ
 | .al op es k ρ σ=>(match es with
   | x::es=>r (.ts x (.bal op es::k) ρ σ)
   | []=>r (.bl (match op with | .And=>true | .Or=>false) k ρ σ))
 | .bl b k ρ σ=>stL Q r b k ρ σ
 | .st sss ρ σ=>(match sss with
   | []=>Q .next ρ σ
   | []::rest=>r (.st rest ρ σ)
   | (st::b)::rest=>stM T d sc X Q r st (b::rest) ρ σ)
noncomputable def gw:Nat→Cf→Prop
 | 0,z1=>False
 | n+1,c=>Yvb T d sc X Q (gw n) c
end
theorem Yex {b:Bool}{P R:Prop}(h:bif b then P else R):(b=true∧P)∨(b=false∧R):=by
 cases b
 · exact .inr ⟨rfl,h⟩
 · exact .inl ⟨rfl,h⟩
theorem Ycc {b:Bool}{P Rn C:Prop}(h:bif b then P else Rn) (h1:b=true→P→C) (h2:Rn→C):C:=by
 cases b
 · exact h2 h
 · exact h1 rfl h
theorem Ytu {b:Bool}{P C:Prop}(h:gd b P) (k:b=true→P→C):C:=by
 cases b
 · exact h.elim
 · exact k rfl h
theorem Ynn {o:Option V}{Q:QE}{σ:Hp}{C:Prop}(h:nmG o Q σ) (k:∀ v,o=some v→Q v σ→C):C:=by
 cases o
 · exact h.elim
 · exact k _ rfl h
theorem Yb8 {a b:Bool}(h:(a && b)=true):a=true∧b=true:=Bool.and_eq_true_iff.mp h
theorem Yxf {b:Bool}(h:(!b)=true):b=false:=by cases b <;> first | rfl | cases h
theorem dr {x y m:Nat}(h:x+y < m):x < m:=Zk (Zy ..) h
theorem dl {x y m:Nat}(h:x+y < m):y < m:=Zk (Ztb ..) h
theorem z1 {a m:Nat}(h:1+a < m+1):a < m:=by rw [Nat.add_comm] at h; exact Nat.lt_of_succ_lt_succ h
theorem z2 {a b m:Nat}(h:1+a+b < m+1):b < m:=dl (z1 (Nat.add_assoc 1 a b▸h))
theorem z3 {a b c m:Nat}(h:1+a+b+c < m+1):c < m:=z2 (a:=a+b) (Nat.add_assoc 1 a b▸h)
theorem Yw4 {op:BoolOp}{es:List Expr}{p:Pos}{m:Nat}(h:sizeOf (Expr.BoolOp op es p) < m+1):sizeOf es < m:=by rw [Expr.BoolOp.sizeOf_spec] at h; exact z2 (dr h)
theorem Yze {l e:Expr}{op:Operator}{p:Pos}{m:Nat}(h:sizeOf (Expr.BinOp l op e p) < m+1):sizeOf l < m∧sizeOf e < m:=by rw [Expr.BinOp.sizeOf_spec] at h; exact ⟨z1 (dr (dr (dr h))),z3 (dr h)⟩
theorem zUn {e:Expr}{op:UnaryOp}{p:Pos}{m:Nat}(h:sizeOf (Expr.UnaryOp op e p) < m+1):sizeOf e < m:=by rw [Expr.UnaryOp.sizeOf_spec] at h; exact z2 (dr h)
theorem Yc8 {α:Type}[SizeOf α] {e:α}{es:List α}{m:Nat}(h:sizeOf (e::es) < m):sizeOf e < m∧sizeOf es < m:=by rw [List.cons.sizeOf_spec] at h; exact ⟨dl (dr h),dl h⟩
theorem Yy8 {l:Expr}{ops:List CmpOp}{es:List Expr}{p:Pos}{m:Nat}(h:sizeOf (Expr.Compare l ops es p) < m+1):sizeOf l < m∧sizeOf es < m:=by rw [Expr.Compare.sizeOf_spec] at h; exact ⟨z1 (dr (dr (dr h))),z3 (dr h)⟩
theorem Yyp {f:Expr}{es:List Expr}{ks:List Keyword}{p:Pos}{m:Nat}(h:sizeOf (Expr.Call f es ks p) < m+1):sizeOf f < m∧sizeOf es < m:=by rw [Expr.Call.sizeOf_spec] at h; exact ⟨z1 (dr (dr (dr h))),z2 (dr (dr h))⟩
theorem zAtt {o:Expr}{a:Str}{p:Pos}{m:Nat}(h:sizeOf (Expr.Attribute o a p) < m):sizeOf o < m:=by rw [Expr.Attribute.sizeOf_spec] at h; exact dl (dr (dr h))
theorem zAt1 {o:Expr}{a:Str}{p:Pos}{m:Nat}(h:sizeOf (Expr.Attribute o a p) < m+1):sizeOf o < m:=by rw [Expr.Attribute.sizeOf_spec] at h; exact z1 (dr (dr h))
theorem Yy7 {o i:Expr}{p:Pos}{m:Nat}(h:sizeOf (Expr.Subscript o i p) < m+1):sizeOf o < m∧sizeOf i < m:=by rw [Expr.Subscript.sizeOf_spec] at h; exact ⟨z1 (dr (dr h)),z2 (dr h)⟩
theorem Yxk {es:List Expr}{p:Pos}{m:Nat}(h:sizeOf (Expr.List es p) < m+1):sizeOf es < m:=by rw [Expr.List.sizeOf_spec] at h; exact z1 (dr h)
theorem zTup {es:List Expr}{k:Nat}{p:Pos}{m:Nat}(h:sizeOf (Expr.Tuple es k p) < m+1):sizeOf es < m:=by rw [Expr.Tuple.sizeOf_spec] at h; exact z1 (dr (dr h))
theorem Yyh {e:Expr}{c:Comprehension}{sc:Scope}{p:Pos}{m:Nat}(h:sizeOf (Expr.ListComp e [c] sc p) < m+1):sizeOf c.iter < m:=by
 rw [Expr.ListComp.sizeOf_spec] at h
 have h:=(Yc8 (z2 (dr (dr h)))).1
 cases c; rw [Comprehension.mk.sizeOf_spec] at h; exact dl (dr (dr h))
theorem zSt {st:Stmt}{b:List Stmt}{m:Nat}(h:sizeOf (st::b) < m+1):sizeOf st < m∧sizeOf b < m:=by rw [List.cons.sizeOf_spec] at h; exact ⟨z1 (dr h),z2 h⟩
theorem zIf {e:Expr}{b o:List Stmt}{p:Pos}{m:Nat}(h:sizeOf (Stmt.If e b o p) < m):sizeOf b < m∧sizeOf o < m:=by rw [Stmt.If.sizeOf_spec] at h; exact ⟨dl (dr (dr h)),dl (dr h)⟩
theorem Yev {sc:Scope}{x:Str}(h:Yfv sc x=true):sc.names.lookup x=some .globalImplicit:=by
 unfold Yfv at h
 generalize sc.names.lookup x=o at h ⊢
 rcases o with zz | k
 · exact (Zv h).elim
 · cases k <;> first | exact (Zv h).elim | rfl
theorem Yls {sc:Scope}{x:Str}(h:Ynp sc x=true):sc.names.lookup x=some .cell:=by
 unfold Ynp at h
 generalize sc.names.lookup x=o at h ⊢
 rcases o with zz | k
 · exact (Zv h).elim
 · cases k <;> first | exact (Zv h).elim | rfl
theorem Ykd {sc:Scope}{x:Str}(h:Yjq sc x=true):sc.names.lookup x=some .local:=by
 unfold Yjq at h
 generalize sc.names.lookup x=o at h ⊢
 rcases o with zz | k
 · exact (Zv h).elim
 · cases k <;> first | exact (Zv h).elim | rfl
theorem Yko {P:List V→Prop}:∀ {acc out:List V},Yxi acc out P→P (acc.reverse++out)
 | [],z1,h=>h
 | v::acc,out,h=>by rw [List.reverse_cons,Ze]; exact Yko (acc:=acc) (out:=v::out) h
section
variable {T:Tp}{d:Nat}{sc:Scope}{X:QX}{Q:QS}{ρ:Loc}{σ:Hp}
theorem Yei.mono {Q Q':Bool→Hp→Prop}{ι:Inj}{h:Heap}{b:Bool}{s':Shared}(p:Yei T Q ι h b s') (k:∀ b σ,Q b σ→Q' b σ):Yei T Q' ι h b s' :=
 by obtain ⟨σ',ι',q,rp,e',g,o⟩:=p; exact ⟨σ',ι',k _ _ q,rp,e',g,o⟩
theorem Ydx.mono {e:Expr}{B B':Bool→Hp→Prop}(h:Ydx T d sc ρ X e B σ) (k:∀ b σ,B b σ→B' b σ):Ydx T d sc ρ X e B' σ :=
 fun env A fs F ι s hsc I=>Zib (h env A fs F ι s hsc I) (fun zz zz p=>p.mono k) fun zz zz p=>p
theorem Yda.mono {es:List Expr}{L L':List V→Hp→Prop}(h:Yda T d sc ρ X es L σ) (k:∀ vs σ,L vs σ→L' vs σ):Yda T d sc ρ X es L' σ :=
 fun env A fs F ι s hsc I=>Zib (h env A fs F ι s hsc I) (fun zz zz p=>by obtain ⟨vs,σ',ι',q,r,rp,e',g,o⟩:=p; exact ⟨vs,σ',ι',k _ _ q,r,rp,e',g,o⟩) fun zz zz p=>p
theorem Yal.mon {e:Expr}{Q Q':QE}(h:Yal T d sc ρ X e Q σ) (k:∀ v σ,Q v σ→Q' v σ):Yal T d sc ρ X e Q' σ:=h.mono k fun zz zz h=>h
theorem Yc7.mono {nx:V→Loc→Option Loc}{body:List Stmt}{Q Q':QS}{v:V}(h:Yc7 T d sc X nx body Q v ρ σ) (k:∀ fl ρ σ,Q fl ρ σ→Q' fl ρ σ):Yc7 T d sc X nx body Q' v ρ σ :=
 h.rec fun items J h0 h1 h2 h3=>⟨items,J,h0,h1,fun ρ σ j=>k _ _ _ (h2 ρ σ j),fun i x ρ σ j e=>Zh (h3 i x ρ σ j e) fun ρ' h=>⟨ρ',h.1,h.2.mono (fun fl ρ σ q=>by cases fl <;> first | exact q | exact k _ _ _ q) fun zz zz q=>q⟩⟩
noncomputable def Rn (T:Tp) (d:Nat) (sc:Scope) (X:QX) (Q:QS) (c:Cf):Prop:=∃ n,gw T d sc X Q n c
theorem Rn.of {n:Nat}{c:Cf}(h:gw T d sc X Q n c):Rn T d sc X Q c:=⟨n,h⟩
theorem Rn.un {c:Cf}{P:Prop}(h:Rn T d sc X Q c) (k:∀ n,Yvb T d sc X Q (gw T d sc X Q n) c→P):P:=Zh h fun n h=>by
 cases n
 · exact (show False from h).elim
 · exact k _ h
theorem Yg2 {n:Nat}{rest:List (List Stmt)}(fl:Fl) (ρ:Loc) (σ:Hp) (h:Ych (gw T d sc X Q n) Q rest fl ρ σ):Ych (Rn T d sc X Q) Q rest fl ρ σ:=by
 cases fl <;> first | exact h | exact ⟨_,h⟩
theorem Yvg {n:Nat}{w:Wh}{k:List Ko}{vs:List V}(h:Yxc T d X (gw T d sc X Q n) w k ρ σ vs):Yxc T d X (Rn T d sc X Q) w k ρ σ vs:=by
 cases w
 · exact gd.of (gd.out h).1 ⟨_,(gd.out h).2⟩
 · exact gd.of (gd.out h).1 ⟨_,(gd.out h).2⟩
 · exact Zh (nmG.out h) fun v h=>nmG.of h.1 ⟨h.2.out.mono (fun zz zz h=>⟨_,h⟩) fun zz zz h=>h⟩
 · exact ⟨(Cal.out h).mono (fun zz zz h=>⟨_,h⟩) fun zz zz h=>h⟩
theorem Ybv {n:Nat}{e:Expr}{k:List Ko}(h:Evx T d sc ρ X e (rtQ (gw T d sc X Q n) k ρ) σ):Yal T d sc ρ X e (rtQ (Rn T d sc X Q) k ρ) σ:=h.out.mon fun zz zz h=>Rn.of h
theorem Yil {n:Nat}{e:Expr}{k:List Ko}(h:Tsx T d sc ρ X e (blQ (gw T d sc X Q n) k ρ) σ):Ydx T d sc ρ X e (blQ (Rn T d sc X Q) k ρ) σ:=h.out.mono fun zz zz h=>Rn.of h
theorem Yf9 {n:Nat}{st:Stmt}{rest:List (List Stmt)}(h:Stx T d sc ρ X st (Ych (gw T d sc X Q n) Q rest) σ):Yba T d sc ρ X st (Ych (Rn T d sc X Q) Q rest) σ:=h.out.mono Yg2 fun zz zz h=>h
noncomputable abbrev Yjp (T:Tp) (d:Nat) (sc:Scope) (X:QX) (Q:QS) (m:Nat):Prop:=∀ (e:Expr),sizeOf e < m→∀ k ρ σ,Rn T d sc X Q (.ev e k ρ σ)→Yal T d sc ρ X e (rtQ (Rn T d sc X Q) k ρ) σ
theorem Ynx {m:Nat}(ih:Yjp T d sc X Q m):∀ {es:List Expr}{acc:List V}{w:Wh}{k:List Ko}{ρ:Loc}{σ:Hp},sizeOf es < m→Rn T d sc X Q (.ag es acc w k ρ σ)→Yda T d sc ρ X es (fun vs σ=>Yxc T d X (Rn T d sc X Q) w k ρ σ (acc.reverse++vs)) σ
 | [],z1,z2,z3,z4,z5,z6,h=>h.un fun zz h=>Yda.nil (Yvg (Yko h))
 | e::es,acc,w,k,ρ,σ,hm,h=>h.un fun n h =>
   Yda.cons ((ih e (Yc8 hm).1 _ _ _ (Rn.of h)).mon fun v σ h=>Rn.un h fun n h=>(Ynx ih (Yc8 hm).2 (Rn.of h)).mono fun vs σ h=>by rw [List.reverse_cons,Ze] at h; exact h)
theorem Ys9 {m:Nat}(ih:Yjp T d sc X Q m) {op:BoolOp}:∀ {es:List Expr}{k:List Ko}{ρ:Loc}{σ:Hp},sizeOf es < m→Rn T d sc X Q (.bo op es k ρ σ)→Ybr T d sc ρ X op es (rtQ (Rn T d sc X Q) k ρ) σ
 | [],z1,z2,z3,z4,h=>h.un fun zz h=>(show False from h).elim
 | [x],z1,z2,z3,hm,h=>h.un fun zz h=>Ybr.one (ih x (Yc8 hm).1 _ _ _ (Rn.of h))
 | x::y::t,k,ρ,σ,hm,h=>h.un fun n h=>by
   have h:=ih x (Yc8 hm).1 _ _ _ (Rn.of h)
   cases op
   · exact Ybr.and (h.mon fun v σ h=>Rn.un h fun n h=>Zh (tvc.out h) fun b h=>⟨b,h.1,by
       cases b
       · exact Rn.of h.2
       · exact Ys9 ih (Yc8 hm).2 (Rn.of h.2)⟩)
   · exact Ybr.or (h.mon fun v σ h=>Rn.un h fun n h=>Zh (tvc.out h) fun b h=>⟨b,h.1,by
       cases b
       · exact Ys9 ih (Yc8 hm).2 (Rn.of h.2)
       · exact Rn.of h.2⟩)
theorem Yom {op:CmpOp}{a v:V}{k:List Ko}(h:Rn T d sc X Q (.rt v (.cmpA op a::k) ρ σ)):Ydf op a v (rtQ (Rn T d sc X Q) k ρ) σ:=h.un fun zz h=>Ycl (Ys2.out h) fun zz zz h=>Rn.of h
theorem Yr8 {m:Nat}(ih:Yjp T d sc X Q m) {l e:Expr}{op:CmpOp}{k:List Ko}(hl:sizeOf l < m) (he:sizeOf e < m) (h:Rn T d sc X Q (.ev l (.cmpR op e::k) ρ σ)):Yal T d sc ρ X l (fun a σ=>Yal T d sc ρ X e (fun b σ=>Ydf op a b (rtQ (Rn T d sc X Q) k ρ) σ) σ) σ :=
 (ih l hl _ _ _ h).mon fun zz zz h=>Rn.un h fun zz h=>(ih e he _ _ _ (Rn.of h)).mon fun zz zz h=>Yom h
theorem Yr7 {m:Nat}(ih:Yjp T d sc X Q m) {l e e2:Expr}{op op2:CmpOp}{k:List Ko}(hl:sizeOf l < m) (he:sizeOf e < m) (he2:sizeOf e2 < m) (h:Rn T d sc X Q (.ev l (.chnR op op2 e e2::k) ρ σ)) :
   Yal T d sc ρ X l (fun a σ=>Yal T d sc ρ X e (fun b σ=>Ydf op a b (fun v σ=>∃ c,v=.bool c∧(if c then Yal T d sc ρ X e2 (fun w σ=>Ydf op2 b w (rtQ (Rn T d sc X Q) k ρ) σ) σ else rtQ (Rn T d sc X Q) k ρ (.bool false) σ)) σ) σ) σ :=
 (ih l hl _ _ _ h).mon fun zz zz h=>Rn.un h fun zz h=>(ih e he _ _ _ (Rn.of h)).mon fun b zz h=>Rn.un h fun zz h=>Ycl (Ys2.out h) fun v σ h=>Rn.un (Rn.of h) fun zz h=>Zh (bvc.out h) fun c h=>⟨c,h.1,by
   cases c
   · exact Rn.of h.2
   · exact (ih e2 he2 _ _ _ (Rn.of h.2)).mon fun zz zz h=>Yom h⟩
theorem Yo5 {m:Nat}(ih:Yjp T d sc X Q m) {iter elt:Expr}{ifs:List Expr}{scope:Scope}{x:Str}{k:List Ko}(hi:sizeOf iter < m) (h:Rn T d sc X Q (.ev iter (.comp scope x ifs elt::k) ρ σ)):Yal T d sc ρ X iter (fun v σ=>Yc6 T d sc ρ X scope x ifs elt (rtQ (Rn T d sc X Q) k ρ) v σ) σ :=
 (ih iter hi _ _ _ h).mon fun zz zz h=>Rn.un h fun zz h=>(show Yc6 _ _ _ _ _ _ _ _ _ _ _ _ from h).rec fun items J h0 h1 h2 h3=>⟨items,J,h0,h1,fun acc σ j=>Rn.of (h2 acc σ j),h3⟩
theorem Ycs {scope:Scope}{c:Comprehension}{x:Str}(h:Ypo T sc scope c x=true):Ydh scope sc=true∧Yao scope x=true∧Yfb c.iter=true∧T.hd=false∧c.is_async=0 :=
 have h:=(Yb8 h).1; ⟨(Yb8 (Yb8 (Yb8 (Yb8 h).1).1).1).1,(Yb8 (Yb8 (Yb8 (Yb8 h).1).1).1).2,(Yb8 (Yb8 (Yb8 h).1).1).2,Yxf (Yb8 (Yb8 h).1).2,eq_of_beq (Yb8 h).2⟩
theorem Yos {n:Nat}{elt:Expr}{gens:List Comprehension}{scope:Scope}{P C:Prop}{k:List Ko}(h:Yt0 T sc (gw T d sc X Q n) elt gens scope P k ρ σ) (h1:P→C)
   (h2:∀ x p iter ifs,gens=[⟨.Name x p,iter,ifs,0⟩]→Ydh scope sc=true→Yao scope x=true→Yfb iter=true→T.hd=false→Rn T d sc X Q (.ev iter (.comp scope x ifs elt::k) ρ σ)→C):C:=by
 rcases gens with zz | ⟨c,zz | ⟨zz,zz⟩⟩
 · exact h1 h
 · have h:(match nmO (tg c.target) with
     | some x=>bif Ypo T sc scope c x then gw T d sc X Q n (.ev c.iter (.comp scope x c.ifs elt::k) ρ σ) else P
     | none=>P):=h
   cases hx:nmO (tg c.target) with
   | none=>rw [hx] at h; exact h1 h
   | some x =>
     rw [hx] at h
     exact Ycc h (fun hb h=>Zh (Yhj hx) fun p e=>h2 x p c.iter c.ifs (by
       have:=(Ycs hb).2.2.2.2
       cases c; cases this; cases e; rfl) (Ycs hb).1 (Ycs hb).2.1 (Ycs hb).2.2.1 (Ycs hb).2.2.2.1 (Rn.of h)) h1
 · exact h1 h
set_option tactic.hygienic true in
theorem Yur {m:Nat}(TO:Yaf T) (ho:Yes sc=true) (ih:Yjp T d sc X Q m) {n:Nat}{x:Str}{np pos:Pos}{args:List Expr}{k:List Ko}(hm:sizeOf args < m) (ns:Yb4 args=true) (hg:Yfv sc x=true) (h:gd (Yt2 T (T.gv x)) (gw T d sc X Q n (.ag args [] (.callG x) k ρ σ))):Yal T d sc ρ X (.Call (.Name x np) args [] pos) (rtQ (Rn T d sc X Q) k ρ) σ :=
 Ytu h fun h0 h=>by
   cases hv:T.gv x with
   | none=>rw [hv] at h0; exact (Zv h0).elim
   | some v =>
     rw [hv] at h0
     have h4:=(Ynx ih hm (Rn.of h)).mono (L':=fun vs σ=>Yaa T d X v vs (rtQ (Rn T d sc X Q) k ρ) σ) fun vs σ h=>Ynn h fun u h1 h2=>Yai (hv.symm.trans h1)▸h2.out
     refine Yal.call TO ns (Yal.glob TO ?_ hv (Yev hg) ho)
     cases v <;> first | exact ⟨.inl h0,.inl h0,h4⟩ | skip
     rename_i y
     refine ⟨.inr (.inl ⟨y,rfl⟩),.inr fun v hv=>?_,h4⟩
     rcases hv with ⟨y,e,hv⟩ | ⟨c,y,e,zz⟩
     · cases e
       have h0:(T.g y).any (fun v=>PySem.W.keepIn T.K v)=true:=h0
       rw [hv] at h0; exact h0
     · cases e
set_option tactic.hygienic true in
theorem Ym9 (TO:Yaf T) (ho:Yes sc=true):∀ m,Yjp T d sc X Q m
 | 0,z1,hm,z2,z3,z4,z5=>absurd hm (Nat.not_lt_zero _)
 | m+1,e,hm,k,ρ,σ,g=>g.un fun n h=>by
   clear g
   have ih:=Ym9 TO ho m
   cases e <;> first | exact Ybv h | skip
   · exact Yal.bools (Ys9 ih (Yw4 hm) (Rn.of h))
   · exact Yal.bin ((ih _ (Yze hm).1 _ _ _ (Rn.of h)).mon fun zz zz h=>Rn.un h fun zz h=>(ih _ (Yze hm).2 _ _ _ (Rn.of h)).mon fun zz zz h=>Rn.un h fun zz h=>(Yrw.out h).rec fun v σ r q=>⟨v,σ,r,Rn.of q⟩)
   · rename_i op _ _
     cases op <;> first | exact Ybv h | skip
     · exact Yal.not ((ih _ (zUn hm) _ _ _ (Rn.of h)).mon fun zz zz h=>Rn.un h fun zz h=>Zh (tvc.out h) fun b h=>⟨b,h.1,Rn.of h.2⟩)
     · exact Yal.neg ((ih _ (zUn hm) _ _ _ (Rn.of h)).mon fun zz zz h=>Rn.un h fun zz h=>Zh (Yxd.out h) fun b h=>⟨b,h.1,Rn.of h.2⟩)
   · rename_i ks vs _
     cases ks <;> first | exact Ybv h | skip
     cases vs <;> first | exact Ybv h | skip
     exact Yal.dict (Rn.of h)
   · exact Yos h Ybv fun x p iter ifs e h1 h2 h3 h4 h5=>by subst e; exact Yal.comp h1 h2 h3 (Yo5 ih (Yyh hm) h5) h4
   · rename_i l ops rs _
     have hz:=Yy8 hm
     clear hm
     rcases ops with zz | ⟨op,zz | ⟨op2,zz | ⟨zz,zz⟩⟩⟩ <;> rcases rs with zz | ⟨r,zz | ⟨r2,zz | ⟨zz,zz⟩⟩⟩ <;> first | exact Ybv h | skip
     · rcases Yex h with ⟨zz,h⟩ | ⟨hb,h⟩
       · exact Ybv h
       · exact Yal.cmp (Yr8 ih hz.1 (Yc8 hz.2).1 (Rn.of h)) hb
     · rcases Yex h with ⟨zz,h⟩ | ⟨hb,h⟩
       · exact Ybv h
       · exact Yal.cmp2 (Yr7 ih hz.1 (Yc8 hz.2).1 (Yc8 (Yc8 hz.2).2).1 (Rn.of h)) hb
   · rename_i f args kws pos
     have hz:=Yyp hm
     clear hm
     cases kws <;> first | exact Ybv h | skip
     have h:(match tg f with
       | .nm x z1=>bif Yb4 args && Yfv sc x then gd (Yt2 T (T.gv x)) (gw T d sc X Q n (.ag args [] (.callG x) k ρ σ)) else Evx T d sc ρ X (.Call f args [] pos) (rtQ (gw T d sc X Q n) k ρ) σ
       | .at o name apos=>bif Yck o && Yb4 args && (apos.endLine == pos.line) && Nat.ble args.length 20 then gw T d sc X Q n (.ev o (.meth name args::k) ρ σ)
         else Evx T d sc ρ X (.Call f args [] pos) (rtQ (gw T d sc X Q n) k ρ) σ
       | z1=>Evx T d sc ρ X (.Call f args [] pos) (rtQ (gw T d sc X Q n) k ρ) σ):=h
     cases ht:tg f <;> rw [ht] at h <;> first | exact Ybv h | skip
     · exact Ycc h (fun hb h=>by rw [Yea ht rfl]; exact Yur TO ho ih hz.2 (Yb8 hb).1 (Yb8 hb).2 h) Ybv
     · exact Ycc h (fun hb h=>by
         have e:=Yea ht rfl
         rw [e] at hz ⊢
         exact Yal.meth TO (Yb8 (Yb8 (Yb8 hb).1).1).1 (Yb8 (Yb8 (Yb8 hb).1).1).2 (Yb8 (Yb8 hb).1).2 (Zk (Nat.le_of_ble_eq_true (Yb8 hb).2) (by decide)) ((ih _ (zAtt hz.1) _ _ _ (Rn.of h)).mon fun zz zz h=>Rn.un h fun zz h=>(show Yam _ _ _ _ _ from h).rec fun f h1 h2=>⟨f,h1,(Ynx ih hz.2 (Rn.of h2)).mono fun zz zz h=>Cal.out h⟩)) Ybv
   · rename_i c _ _
     cases c <;> first | exact Ybv h | skip
     · exact Yal.none (Rn.of h)
     · exact Yal.bool (Rn.of h)
     · exact Yal.int (Rn.of h)
     · exact Yal.str (Rn.of h)
   · exact Ycc h (fun hb h=>Yal.attr TO hb ((ih _ (zAt1 hm) _ _ _ (Rn.of h)).mon fun zz zz h=>Rn.un h fun zz h=>(show Yad _ _ _ _ _ from h).rec fun l c gs v C h0 h1 h2 h3 h4 h5 h6=>⟨l,c,gs,v,C,h0,h1,h2,h3,h4,h5,Rn.of h6⟩)) Ybv
   · exact Ycc h (fun hb h=>Yal.ix hb ((ih _ (Yy7 hm).1 _ _ _ (Rn.of h)).mon fun zz zz h=>Rn.un h fun zz h=>(ih _ (Yy7 hm).2 _ _ _ (Rn.of h)).mon fun zz zz h=>Rn.un h fun zz h=>(Ydc.out h).rec fun v r q=>⟨v,r,Rn.of q⟩)) Ybv
   · exact Ycc h (fun hb h=>Ynn h fun v h1 h2=>Yal.nm h1 hb ho (Rn.of h2)) fun h=>Ytu h fun h0 h=>Ynn h fun v h1 h2=>Yal.glob TO (Rn.of h2) h1 (Yev h0) ho
   · exact Ycc h (fun hb h=>Yal.list ((Ynx ih (Yxk hm) (Rn.of h)).mono fun vs σ h=>⟨Za (Yfj (gd.out h).1) (by decide),(gd.out h).2⟩) hb) Ybv
   · exact Ycc h (fun hb h=>Yal.tup ((Ynx ih (zTup hm) (Rn.of h)).mono fun vs σ h=>⟨Za (Yfj (gd.out h).1) (by decide),(gd.out h).2⟩) hb) Ybv
theorem Ycr (TO:Yaf T) (ho:Yes sc=true) {e:Expr}{k:List Ko}(h:Rn T d sc X Q (.ev e k ρ σ)):Yal T d sc ρ X e (rtQ (Rn T d sc X Q) k ρ) σ:=Ym9 TO ho _ e (Zs _) k ρ σ h
noncomputable abbrev Yvy (T:Tp) (d:Nat) (sc:Scope) (X:QX) (Q:QS) (m:Nat):Prop:=∀ (e:Expr),sizeOf e < m→∀ k ρ σ,Rn T d sc X Q (.ts e k ρ σ)→Ydx T d sc ρ X e (blQ (Rn T d sc X Q) k ρ) σ
theorem Ytq {m:Nat}(ih:Yvy T d sc X Q m) {op:BoolOp}:∀ {es:List Expr}{k:List Ko}{ρ:Loc}{σ:Hp},sizeOf es < m→Rn T d sc X Q (.al op es k ρ σ)→Ydv T d sc ρ X op es (blQ (Rn T d sc X Q) k ρ) σ
 | [],z1,z2,z3,z4,h=>h.un fun zz h=>by
   cases op
   · exact Ydv.and_nil (Rn.of h)
   · exact Ydv.or_nil (Rn.of h)
 | x::es,k,ρ,σ,hm,h=>h.un fun zz h=>by
   have h:=ih x (Yc8 hm).1 _ _ _ (Rn.of h)
   cases op
   · exact Ydv.and_cons (h.mono fun b σ h=>Rn.un h fun zz h=>by
       cases b
       · exact Rn.of h
       · exact Ytq ih (Yc8 hm).2 (Rn.of h))
   · exact Ydv.or_cons (h.mono fun b σ h=>Rn.un h fun zz h=>by
       cases b
       · exact Ytq ih (Yc8 hm).2 (Rn.of h)
       · exact Rn.of h)
theorem Ynj {n:Nat}{v:V}{k:List Ko}(h:bvc v (blK (gw T d sc X Q n) k ρ σ)):∃ c,v=.bool c∧blQ (Rn T d sc X Q) k ρ c σ:=Zh (bvc.out h) fun c h=>⟨c,h.1,Rn.of h.2⟩
theorem Yvv {n:Nat}{e:Expr}{k:List Ko}(TO:Yaf T) (ho:Yes sc=true) (h:gw T d sc X Q n (.ev e (.tst::k) ρ σ)) (hp:Yh7 e=true):Ydx T d sc ρ X e (blQ (Rn T d sc X Q) k ρ) σ:=Ydx.val ((Ycr TO ho (Rn.of h)).mon fun zz zz h=>Rn.un h fun zz h=>Zh (tvc.out h) fun b h=>⟨b,h.1,Rn.of h.2⟩) hp
set_option tactic.hygienic true in
theorem Yw5 (TO:Yaf T) (ho:Yes sc=true):∀ m,Yvy T d sc X Q m
 | 0,z1,hm,z2,z3,z4,z5=>absurd hm (Nat.not_lt_zero _)
 | m+1,e,hm,k,ρ,σ,g=>g.un fun n h=>by
   clear g
   have ih:=Yw5 TO ho m
   cases e <;> first | exact Yvv TO ho h rfl | exact Yil h | skip
   · exact Ydx.bool (Ytq ih (Yw4 hm) (Rn.of h))
   · rename_i op _ _
     cases op <;> first | exact Yil h | skip
     exact Ydx.not ((ih _ (zUn hm) _ _ _ (Rn.of h)).mono fun b σ h=>Rn.un h fun zz h=>Rn.of h)
   · rename_i l ops rs _
     have hz:=Yy8 hm
     clear hm
     rcases ops with zz | ⟨op,zz | ⟨op2,zz | ⟨zz,zz⟩⟩⟩ <;> rcases rs with zz | ⟨r,zz | ⟨r2,zz | ⟨zz,zz⟩⟩⟩ <;> first | exact Yil h | skip
     · rcases Yex h with ⟨zz,h⟩ | ⟨hb,h⟩
       · exact Yil h
       · exact Ydx.cmp ((Yr8 (Ym9 TO ho m) hz.1 (Yc8 hz.2).1 (Rn.of h)).mon fun zz zz h=>h.mon fun zz zz h=>Ycl h fun zz zz h=>Rn.un h fun zz h=>Ynj h) hb
     · rcases Yex h with ⟨zz,h⟩ | ⟨hb,h⟩
       · exact Yil h
       · exact Ydx.cmp2 ((Yr7 (Ym9 TO ho m) hz.1 (Yc8 hz.2).1 (Yc8 (Yc8 hz.2).2).1 (Rn.of h)).mon fun zz zz h=>h.mon fun zz zz h=>Ycl h fun zz zz h=>Zh h fun c h=>⟨c,h.1,by
           cases c
           · exact Rn.un h.2 fun zz h=>Zh (Ynj (v:=.bool false) h) fun c h=>by cases h.1; exact h.2
           · exact (show Yal _ _ _ _ _ _ _ _ from h.2).mon fun zz zz h=>Ycl h fun zz zz h=>Rn.un h fun zz h=>Ynj h⟩) hb
theorem Yse (TO:Yaf T) (ho:Yes sc=true) {e:Expr}{k:List Ko}(h:Rn T d sc X Q (.ts e k ρ σ)):Ydx T d sc ρ X e (blQ (Rn T d sc X Q) k ρ) σ:=Yw5 TO ho _ e (Zs _) k ρ σ h
theorem Yvs {n:Nat}{x:Str}{np pos:Pos}{a:Expr}{k:List Ko}(TO:Yaf T) (ho:Yes sc=true) (hb:Yuc sc x a=true) (h:gd (Ym3 (T.gv x)) (gw T d sc X Q n (.ev a (.rev::k) ρ σ))):Ylk T d sc ρ X (.Call (.Name x np) [a] [] pos) (rtQ (Rn T d sc X Q) k ρ) σ :=
 Ytu h fun h0 h=>Ylk.reversed TO (Yal.glob TO ⟨rfl,rfl⟩ (Yme h0) (Yev (Yb8 (Yb8 hb).2).1) ho) (Yb8 (Yb8 hb).2).2 ((Ycr TO ho (Rn.of h)).mon fun zz zz h=>Rn.un h fun zz h=>(show Ym5 _ _ _ from h).rec fun l vs a b c=>⟨l,vs,a,b,Rn.of c⟩)
set_option tactic.hygienic true in
theorem Yrp {e:Expr}{x:Str}{a:Expr}(h:Yxg (tg e)=some (x,a)):∃ np pos,e=.Call (.Name x np) [a] [] pos:=by
 cases ht:tg e <;> rw [ht] at h <;> first | exact (Yap h).elim | skip
 rename_i f args kws p
 rcases args with zz | ⟨b,zz | ⟨zz,zz⟩⟩ <;> first | exact (Yap h).elim | skip
 cases kws <;> first | exact (Yap h).elim | skip
 obtain ⟨y,h1,h2⟩:=Zpb.mp h
 cases h2
 obtain ⟨np,h3⟩:=Yhj h1
 exact ⟨np,p,h3▸Yea ht rfl⟩
theorem Yr1 {n:Nat}{iter:Expr}{k:List Ko}(TO:Yaf T) (ho:Yes sc=true) (h:itG T sc (gw T d sc X Q n) iter k ρ σ):Ylk T d sc ρ X iter (rtQ (Rn T d sc X Q) k ρ) σ:=by
 have pl:gw T d sc X Q n (.ev iter k ρ σ)→Ylk T d sc ρ X iter (rtQ (Rn T d sc X Q) k ρ) σ:=fun h=>(Ycr TO ho (Rn.of h)).it
 unfold itG at h
 cases hv:Yxg (tg iter) with
 | none=>rw [hv] at h; exact pl h
 | some p =>
   rw [hv] at h
   exact Ycc h (fun hb h=>ex2 (Yrp hv) fun np pos e=>by rw [e]; exact Yvs TO ho hb h) pl
theorem Ylk.mono {e:Expr}{K K':V→Hp→Prop}(h:Ylk T d sc ρ X e K σ) (k:∀ v σ,K v σ→K' v σ):Ylk T d sc ρ X e K' σ:=fun env A fs F ι s hsc I =>
 Zib (h env A fs F ι s hsc I) (fun zz zz p=>p.rec (fun v σ' ι' a b c e f g=>.of v σ' ι' (k _ _ a) b c e f g) fun l n I σ' ι' a b c e f g i j m=>.rev l n I σ' ι' (k _ _ a) b c e f g i j m) fun zz zz p=>p
set_option tactic.hygienic true in
theorem Yt3 {n:Nat}{t iter:Expr}{u:Tg}{body:List Stmt}{pos:Pos}{rest:List (List Stmt)}{P:Prop}(TO:Yaf T) (ho:Yes sc=true) (vx:P→Yba T d sc ρ X (.For t iter body [] pos) (Ych (Rn T d sc X Q) Q rest) σ) (ht:tg t=u)
   (h:forG T sc (gw T d sc X Q n) u iter body P rest ρ σ):Yba T d sc ρ X (.For t iter body [] pos) (Ych (Rn T d sc X Q) Q rest) σ:=by
 cases u <;> first | exact vx h | skip
 · cases Yea ht rfl
   exact Ycc h (fun hb h=>Yba.forG ((Yr1 TO ho h).mono fun zz zz h=>Rn.un h fun zz h=>Yc7.mono h Yg2) (Yu4 (Yb8 (Yb8 hb).1).1) (Yb8 (Yb8 hb).1).2 (Yxf (Yb8 hb).2)) vx
 · rename_i es _ _
   rcases es with zz | ⟨a,zz | ⟨b,zz | ⟨zz,zz⟩⟩⟩ <;> first | exact vx h | skip
   have h:Yy1 T sc (gw T d sc X Q n) (nmO (tg a)) (nmO (tg b)) iter body P rest ρ σ:=h
   cases ha:nmO (tg a) with
   | none=>rw [ha] at h; exact vx h
   | some x =>
     rw [ha] at h
     cases hb:nmO (tg b) with
     | none=>rw [hb] at h; exact vx h
     | some y =>
       rw [hb] at h
       obtain ⟨pa,rfl⟩:=Yhj ha
       obtain ⟨pb,rfl⟩:=Yhj hb
       cases Yea ht rfl
       exact Ycc h (fun hb h=>Yba.forG ((Yr1 TO ho h).mono fun zz zz h=>Rn.un h fun zz h=>Yc7.mono h Yg2) (Yuq (Yxf (Yb8 hb).2) (Yb8 (Yb8 (Yb8 hb).1).1).1 (Yb8 (Yb8 (Yb8 hb).1).1).2) (Yb8 (Yb8 hb).1).2 (Yxf (Yb8 hb).2)) vx
theorem Yjx {v:V}{x:Str}{rest:List (List Stmt)}{ρ:Loc}{σ:Hp}(h:Rn T d sc X Q (.rt v [.asgN x rest] ρ σ)):Ych (Rn T d sc X Q) Q rest .next (upd ρ x (some v)) σ:=h.un fun zz h=>Rn.of h
theorem Ywq {n:Nat}{t value:Expr}{u:Tg}{pos:Pos}{rest:List (List Stmt)}{P:Prop}(TO:Yaf T) (ho:Yes sc=true) (hc:Ye3 value=true) (vx:P→Yba T d sc ρ X (.Assign [t] value pos) (Ych (Rn T d sc X Q) Q rest) σ) (ht:tg t=u)
   (h:Yy6 sc (gw T d sc X Q n) u value P rest ρ σ):Yba T d sc ρ X (.Assign [t] value pos) (Ych (Rn T d sc X Q) Q rest) σ:=by
 cases u <;> first | exact vx h | cases Yea ht rfl
 · exact Ycc h (fun hb h=>Yba.assign ((Ycr TO ho (Rn.of h)).mon fun zz zz h=>Yjx h) hc hb) vx
 · exact Yba.setAttr TO ((Ycr TO ho (Rn.of h)).mon fun zz zz h=>Rn.un h fun zz h=>(Ycr TO ho (Rn.of h)).mon fun zz zz h=>Rn.un h fun zz h=>(show Yaj _ _ _ _ _ _ _ from h).rec fun l c gs C h0 h1 h2 h3 h4 h5=>⟨l,c,gs,C,h0,h1,h2,h3,h4,Yg2 _ _ _ h5⟩) hc
 · exact Yba.setItem ((Ycr TO ho (Rn.of h)).mon fun zz zz h=>Rn.un h fun zz h=>(Ycr TO ho (Rn.of h)).mon fun zz zz h=>Rn.un h fun zz h=>(Ycr TO ho (Rn.of h)).mon fun zz zz h=>Rn.un h fun zz h=>(show Yat _ _ _ _ _ _ from h).rec (fun l k kvs h0 h1 h2 h3 h4=>.mk l k kvs h0 h1 h2 h3 (Yg2 _ _ _ h4)) fun l k kvs h0 h1 h2 h3 h4=>.pr l k kvs h0 h1 h2 h3 (Yg2 _ _ _ h4)) hc
theorem Ytp {n:Nat}{t value:Expr}{u v:Tg}{pos:Pos}{rest:List (List Stmt)}{P:Prop}(TO:Yaf T) (ho:Yes sc=true) (vx:P→Yba T d sc ρ X (.Assign [t] value pos) (Ych (Rn T d sc X Q) Q rest) σ) (ht:tg t=u) (hu:tg value=v)
   (h:Yyy T sc (gw T d sc X Q n) u v value P rest ρ σ):Yba T d sc ρ X (.Assign [t] value pos) (Ych (Rn T d sc X Q) Q rest) σ:=by
 cases u <;> first | exact vx h | skip
 cases Yea ht rfl
 refine Ycc h (fun hb h=>Yba.assignCell ((Ycr TO ho (Rn.of h)).mon fun zz zz h=>Yjx h) (Yls hb)) fun g=>?_
 clear h
 cases v <;> first | exact vx g | skip
 cases Yea hu rfl
 refine Ycc g (fun hb h=>?_) vx
 exact Yos h vx fun x p iter ifs e h1 h2 h3 h4 h5=>by
   subst e
   exact Yba.assignComp h1 h2 h3 (Ykd (Yb8 hb).1) (Yb8 hb).2 ((Yo5 (Ym9 TO ho _) (Zs _) h5).mon fun zz zz h=>h.rec fun items J h0 h1 h2 h3=>⟨items,J,h0,h1,fun acc σ j=>Yjx (h2 acc σ j),h3⟩) h4
set_option tactic.hygienic true in
theorem Yvw (TO:Yaf T) (ho:Yes sc=true):∀ (m:Nat) (b:List Stmt),sizeOf b < m→∀ rest ρ σ,Rn T d sc X Q (.st (b::rest) ρ σ)→Yeg T d sc ρ X b (Ych (Rn T d sc X Q) Q rest) σ
 | 0,z1,hm,z2,z3,z4,z5=>absurd hm (Nat.not_lt_zero _)
 | m+1,[],z1,rest,ρ,σ,h=>h.un fun zz h=>Yeg.nil (Rn.of h)
 | m+1,st::b,hm,rest,ρ,σ,g=>g.un fun n h=>by
   clear g
   have ih:=Yvw TO ho m
   have hz:=zSt hm
   clear hm
   refine Yeg.cons (Yba.mono (Q:=Ych (Rn T d sc X Q) Q (b::rest)) ?_ (fun fl ρ' σ' h=>?_) fun zz zz h=>h)
   rotate_left
   · cases fl <;> first | exact h | exact ih b hz.2 _ _ _ h
   cases st <;> first | exact Yf9 h | skip
   · rename_i e _
     cases e
     · exact Yba.retNone h
     · exact Yba.ret ((Ycr TO ho (Rn.of h)).mon fun zz zz h=>Rn.un h fun zz h=>h)
   · rename_i ts value _
     rcases ts with zz | ⟨t,zz | ⟨zz,zz⟩⟩ <;> first | exact Yf9 h | skip
     rcases Yex h with ⟨hc,h⟩ | ⟨zz,h⟩
     · exact Ywq TO ho hc Yf9 rfl h
     · exact Ytp TO ho Yf9 rfl rfl h
   · rename_i t iter body orelse _
     cases orelse <;> first | exact Yf9 h | skip
     exact Yt3 TO ho Yf9 rfl h
   · exact Yba.ite ((Yse TO ho (Rn.of h)).mono fun t σ h=>Rn.un h fun zz h=>by
       cases t
       · exact ih _ (zIf hz.1).2 _ _ _ (Rn.of h)
       · exact ih _ (zIf hz.1).1 _ _ _ (Rn.of h))
   · rcases Yex h with ⟨hc,h⟩ | ⟨zz,h⟩
     · exact Yba.expr ((Ycr TO ho (Rn.of h)).mon fun zz zz h=>Rn.un h fun zz h=>Rn.of h) hc
     · exact Yf9 h
   · exact Yba.pass (Rn.of h)
   · exact Yba.brk h
   · exact Yba.cont h
end
noncomputable def tsQ (B:Bool→Hp→Prop):QS:=fun fl zz σ=>match fl with
 | .ret v=>bvc v fun b=>B b σ
 | z1=>False
section
variable {T:Tp}{d:Nat}{sc:Scope}{X:QX}{ρ:Loc}
theorem Ye0 (TO:Yaf T) (ho:Yes sc=true) (_:Nat) (e:Expr) (Q:QE) (σ:Hp) (h:gw T d sc X (Yt7 Q) 4000 (.ev e [] ρ σ)):Yal T d sc ρ X e Q σ:=(Ycr TO ho (Rn.of h)).mon fun zz zz h=>Rn.un h fun zz h=>h
theorem Yej (TO:Yaf T) (ho:Yes sc=true) (_ _:Nat) (e:Expr) (B:Bool→Hp→Prop) (σ:Hp) (h:gw T d sc X (tsQ B) 4000 (.ts e [] ρ σ)):Ydx T d sc ρ X e B σ:=(Yse TO ho (Rn.of h)).mono fun zz zz h=>Rn.un h fun zz h=>h
theorem Ybd (TO:Yaf T) (ho:Yes sc=true) (_:Nat) (ss:List Stmt) (Q:QS) (ρ:Loc) (σ:Hp) (h:gw T d sc X Q 4000 (.st [ss] ρ σ)):Yeg T d sc ρ X ss Q σ:=(Yvw TO ho _ ss (Zs _) [] ρ σ (Rn.of h)).mono (fun fl ρ σ h=>by
 cases fl <;> first | exact h | exact Rn.un h fun zz h=>h) fun zz zz h=>h
end
end
section
noncomputable def Has (ρ:Loc):List (Str×V)→Prop
 | []=>True
 | (k,v)::r=>ρ k=some v∧Has ρ r
noncomputable def Yox (ρ:Loc):List (Str×V)→Loc
 | []=>ρ
 | (k,v)::r=>upd (Yox ρ r) k (some v)
theorem Has.eq {ρ:Loc}:∀ {kvs:List (Str×V)},Has ρ kvs→Yox ρ kvs=ρ:=by
 intro xx
 induction xx with
 | nil =>
   intro z1
   exact rfl
 | cons pp r ih =>
   obtain ⟨k,v⟩:=pp
   intro h
   show upd (Yox ρ r) k (some v)=ρ
   rw [ih h.2]
   funext y
   unfold upd
   split
   · next e=>rw [e]; exact h.1.symm
   · rfl
theorem Yio {T:Tp}{d n:Nat}{sc:Scope}{X:QX}{ρ:Loc}{σ:Hp}{b:Bool}{A B:Hp→Prop}(h:¬ b=true) (q:B σ):blK (gw T d sc X (tsQ fun b σ=>if b then A σ else B σ) (n+1)) [] ρ σ b:=show (if b then A σ else B σ) by rw [if_neg h]; exact q
theorem Yfr {T:Tp}{d n:Nat}{sc:Scope}{X:QX}{ρ:Loc}{σ:Hp}{b:Bool}{A B:Hp→Prop}(h:b=true) (q:A σ):blK (gw T d sc X (tsQ fun b σ=>if b then A σ else B σ) (n+1)) [] ρ σ b:=show (if b then A σ else B σ) by rw [if_pos h]; exact q
theorem Has.on {P:Loc→Prop}{ρ:Loc}{kvs:List (Str×V)}(h:Has ρ kvs) (k:P (Yox ρ kvs)):P ρ:=h.eq▸k
theorem Has.use {ρ:Loc}{kvs:List (Str×V)}(h:Has ρ kvs):∃ r,ρ=Yox r kvs:=⟨ρ,h.eq.symm⟩
section
variable {T:Tp}{d:Nat}{sc:Scope}{X:QX}{Q:QE}{σ:Hp}
theorem Yaa.go {x:Str}{ps:List Str}{body:List Stmt}{args:List V}(TO:Yaf T) (e:(T.g x).bind (Ywl T.K)=some (ps,body,sc)) (hl:args.length=ps.length)
 (hb:gw T d sc X (Yt7 Q) 4000 (.st [body] (Ycf (fun zz=>none) ps args) σ)):Yaa T (d+1) X (.glob x) args Q σ:=Zh (Option.bind_eq_some_iff.mp e) fun zz e=>Yaa.fn TO (FnV.glob e.1 (Yeh e.2).1) hl (Ybd TO (Yeh e.2).2 0 _ _ _ _ hb)
theorem Yb5.goM {c x:Str}{ps:List Str}{body:List Stmt}{args:List V}(TO:Yaf T) (e:(T.m c x).bind (Ywl T.K)=some (ps,body,sc)) (hl:args.length=ps.length)
 (hb:gw T d sc X (Yt7 Q) 4000 (.st [body] (Ycf (fun zz=>none) ps args) σ)):Yb5 T (d+1) X (.mth c x) args Q σ:=Zh (Option.bind_eq_some_iff.mp e) fun zz e=>Yb5.fn TO (FnV.mth e.1 (Yeh e.2).1) hl (Ybd TO (Yeh e.2).2 0 _ _ _ _ hb)
theorem Yaa.goM {c x:Str}{ps:List Str}{body:List Stmt}{args:List V}(TO:Yaf T) (e:(T.m c x).bind (Ywl T.K)=some (ps,body,sc)) (hl:args.length=ps.length)
 (hb:gw T d sc X (Yt7 Q) 4000 (.st [body] (Ycf (fun zz=>none) ps args) σ)):Yaa T (d+1) X (.mth c x) args Q σ:=(Yb5.goM TO e hl hb).call
theorem Yaa.goX {x:Str}{ps:List Str}{body:List Stmt}{args:List V}(TO:Yaf T) (e:(T.g x).bind (Ywl T.K)=some (ps,body,sc)) (hl:args.length=ps.length)
 (hb:Yeg T d sc (Ycf (fun zz=>none) ps args) X body (Yt7 Q) σ):Yaa T (d+1) X (.glob x) args Q σ:=Zh (Option.bind_eq_some_iff.mp e) fun zz e=>Yaa.fn TO (FnV.glob e.1 (Yeh e.2).1) hl hb
theorem Cal.len {v:V}{n:Nat}(e:Ypr σ v=some n) (hn:n < 2 ^ 62) (q:Q (.int n) σ):Cal T d X (.bi "len") [v] Q σ:=⟨Yaa.len e hn q⟩
theorem Cal.lenT {vs:List V}(h:Ypb vs 100=true) (q:Q (.int vs.length) σ):Cal T d X (.bi "len") [.tup vs] Q σ:=.len rfl (Zk (Yfj h) (by decide)) q
theorem Cal.isi {v:V}{ty:String}{b:Bool}(e:Yxe σ v ty=some b) (q:Q (.bool b) σ):Cal T d X (.bi "isinstance") [v,.type ty] Q σ:=⟨Yaa.isi e q⟩
theorem Cal.ord {c:Nat}(q:Q (.int c) σ):Cal T d X (.bi "ord") [.str ⟨#[c]⟩] Q σ:=⟨Yaa.ord q⟩
theorem Cal.range {n:Int}(q:Q (.rng n) σ):Cal T d X (.type "range") [.int n] Q σ:=⟨Yaa.range q⟩
theorem Cal.list {v:V}{vs:List V}(e:Yxm σ v=some vs) (hn:vs.length≤sizeLine) (q:Q (.ref σ.length) (σ++[.list vs])):Cal T d X (.type "list") [v] Q σ:=⟨Yaa.list e hn q⟩
theorem Ybe {l:Nat}{vs:List V}(h:σ[l]?=some (.list vs)):Ye6 σ (.ref l)=some vs:=Yjk h
theorem Yk1 {l:Nat}{vs:List V}(h:σ[l]?=some (.list vs)):Ye6 σ (.rev l vs.length)=some vs.reverse:=(Yjk h).trans (if_pos rfl)
theorem Yfg {l:Nat}{vs:List V}(h:σ[l]?=some (.list vs)):Yxm σ (.ref l)=some vs:=Yjk h
theorem Yup {l:Nat}{vs:List V}(h:σ[l]?=some (.list vs)):Yhc σ (.ref l)=some "list":=Yjk h
theorem Yhu {l:Nat}{vs:List V}(h:σ[l]?=some (.list vs)):Yxe σ (.ref l) "list" = some true:=by unfold Yxe; rw [Yup h]; rfl
theorem Yb2 {l:Nat}{vs:List V}(h:σ[l]?=some (.list vs)) (hl:vs.length < 1000000000):Ydd (.ref l) σ=some (!vs.isEmpty):=(Yjk h).trans (if_pos hl)
theorem Yct {l:Nat}{vs:List V}(h:σ[l]?=some (.list vs)) (hl:vs.length < 1000000000) (h0:vs.isEmpty=false):Ydd (.ref l) σ=some true:=(Yb2 h hl).trans (congrArg (fun b=>some (!b)) h0)
theorem Yfw {vs:List V}{n:Nat}(h:vs.length=n):Ypr σ (.tup vs)=some n:=congrArg some h
theorem Yep {x:Str}{n:Nat}(h:x.length=n):Ypr σ (.str x)=some n:=congrArg some h
theorem Yfz {l n:Nat}{vs:List V}(h:σ[l]?=some (.list vs)) (hn:vs.length=n):Ypr σ (.ref l)=some n:=(Ykt h).trans (congrArg some hn)
theorem Yem {l:Nat}{vs:List V}(h:σ[l]?=some (.list vs)):Yo3 σ (.ref l)=some "list":=congrArg Ysw h
theorem Yam.bi {ov:V}{name:Str}{id ty:String}{K:V→Prop}(h1:Yo3 σ ov=some ty) (h2:Ybu ty name id) (k:K (.bi id)):Yam T ov name σ K:=⟨.bi id,.bi h1 h2,k⟩
theorem Yam.append {l:Nat}{vs:List V}{K:V→Prop}(h:σ[l]?=some (.list vs)) (k:K (.bi "list.append")):Yam T (.ref l) "append" σ K:=.bi (Yem h) Yrn k
theorem Yam.pop {l:Nat}{vs:List V}{K:V→Prop}(h:σ[l]?=some (.list vs)) (k:K (.bi "list.pop")):Yam T (.ref l) "pop" σ K:=.bi (Yem h) Yx2 k
theorem Yam.extend {l:Nat}{vs:List V}{K:V→Prop}(h:σ[l]?=some (.list vs)) (k:K (.bi "list.extend")):Yam T (.ref l) "extend" σ K:=.bi (Yem h) Yp4 k
theorem Yam.clear {l:Nat}{vs:List V}{K:V→Prop}(h:σ[l]?=some (.list vs)) (k:K (.bi "list.clear")):Yam T (.ref l) "clear" σ K:=.bi (Yem h) Yta k
theorem Yam.join {x:Str}{K:V→Prop}(k:K (.bi "str.join")):Yam T (.str x) "join" σ K:=.bi (ty:="str") rfl Yw9 k
theorem Itm.list {l:Nat}{vs:List V}{k:Int}{j:Nat}{v:V}(e0:σ[l]?=some (.list vs)) (e1:seqIndex? k vs.length=some j) (e2:vs[j]?=some v) (e3:Yr9 k) (q:Q v σ):Itm (.ref l) (.int k) Q σ:=⟨Ywt e0 e1 e2 e3 q⟩
theorem Cmp.inR {neg r:Bool}{a b:V}(h:InR σ a b r) (q:Q (.bool (neg != r)) σ):Cmp (if neg then .NotIn else .In) a b Q σ:=by
 cases neg
 · exact ⟨r,.isin _ _ _ h,Bool.false_bne r▸q⟩
 · exact ⟨!r,.nin _ _ _ h,Bool.true_bne r▸q⟩
theorem Cmp.inD {k:Str}{l:Nat}{kvs:List (Str×V)}{r:Bool}(h:σ[l]?=some (.sdict kvs)) (e:(kvs.any fun kv=>kv.1=k)=r) (q:Q (.bool r) σ):Cmp .In (.str k) (.ref l) Q σ:=⟨r,.isin _ _ _ (e▸.dict _ _ _ h),q⟩
theorem Cmp.ninD {k:Str}{l:Nat}{kvs:List (Str×V)}{r:Bool}(h:σ[l]?=some (.sdict kvs)) (e:(kvs.any fun kv=>kv.1=k)=r) (q:Q (.bool (!r)) σ):Cmp .NotIn (.str k) (.ref l) Q σ:=⟨_,.nin _ _ _ (e▸.dict _ _ _ h),q⟩
theorem Cmp.eqR {a b:V}{da db:PyData}{r:Bool}(h1:Yer σ da a) (h2:Yer σ db b) (h3:da.depth≤40) (e:PyData.eqv da db=r) (q:Q (.bool r) σ):Cmp .Eq a b Q σ:=⟨r,e▸.eq _ _ _ _ h1 h2 h3,q⟩
theorem Cmp.neR {a b:V}{da db:PyData}{r:Bool}(h1:Yer σ da a) (h2:Yer σ db b) (h3:da.depth≤40) (e:PyData.eqv da db=r) (q:Q (.bool (!r)) σ):Cmp .NotEq a b Q σ:=⟨_,.ne _ _ _ _ h1 h2 h3,e▸q⟩
theorem Cmp.isN {v:V}{r:Bool}(h:Yf1 v=some r) (q:Q (.bool r) σ):Cmp .Is v .none Q σ:=⟨r,.isN _ _ h,q⟩
theorem Cmp.notN {v:V}{r:Bool}(h:Yf1 v=some r) (q:Q (.bool (!r)) σ):Cmp .IsNot v .none Q σ:=⟨_,.notN _ _ h,q⟩
theorem Bin.cat {s t:Str}(k:s.length+t.length≤sizeLine) (h:Q (.str (s++t)) σ):Bin .Add (.str s) (.str t) Q σ:=⟨_,_,.cat _ _ k,h⟩
theorem Bin.mulr {x y:Int}(k:decide (-(2 ^ 64) < y∧y < 2 ^ 64)=true) (h:Q (.int (x*y)) σ):Bin .Mult (.int x) (.int y) Q σ:=⟨_,_,.mul _ _ (.inr (Zgb k:-(2 ^ 64) < y∧y < 2 ^ 64)),h⟩
theorem Bin.mull {x y:Int}(k:decide (-(2 ^ 64) < x∧x < 2 ^ 64)=true) (h:Q (.int (x*y)) σ):Bin .Mult (.int x) (.int y) Q σ:=⟨_,_,.mul _ _ (.inl (Zgb k:-(2 ^ 64) < x∧x < 2 ^ 64)),h⟩
theorem Yrw.add {Q:QS}{k:List Ko}{ρ:Loc}{n:Nat}{x y z:Int}(e:x+y=z) (h:rtQ (gw T d sc X Q n) k ρ (.int z) σ):rtQ (gw T d sc X Q (n+1)) (.binA .Add (.int x)::k) ρ (.int y) σ:=by subst e; exact h
theorem Bin.lists {l m:Nat}{xs ys:List V}(h1:σ[l]?=some (.list xs)) (h2:σ[m]?=some (.list ys)) (h3:xs.length+ys.length≤sizeLine) (h:Q (.ref σ.length) (σ++[.list (xs++ys)])):Bin .Add (.ref l) (.ref m) Q σ:=⟨_,_,.lists _ _ _ _ h1 h2 h3,h⟩
end
end
section
section
variable {T:Tp}{d:Nat}{sc:Scope}{ρ:Loc}{X:QX}{Q:QE}{σ:Hp}
end
theorem Ye4 (env:Env) (r:List Stmt):∀ ss:List Stmt,execs (ss++r) env=(execs ss env >>= fun f=>match f with | .next=>execs r env | f=>pure f)
 | []=>by
   rw [List.nil_append,show execs [] env=pure Flow.next from rfl,pure_bind]
 | st::ss=>by
   rw [List.cons_append,execs_cons,execs_cons,bind_assoc]
   congr 1
   funext f
   cases f
   · exact Ye4 env r ss
   · exact (pure_bind _ _).symm
   · exact (pure_bind _ _).symm
   · exact (pure_bind _ _).symm
theorem Yeg.cutAt {T:Tp}{d:Nat}{sc:Scope}{ρ:Loc}{X:XS}{Q:QS}{σ:Hp}{ss:List Stmt}(k:Nat) (P:Loc→Hp→Prop) (h1:Yeg T d sc ρ X (ss.take k) (fun fl ρ' σ'=>match fl with | .next=>P ρ' σ' | fl=>Q fl ρ' σ') σ) (h2:∀ ρ' σ',P ρ' σ'→Yeg T d sc ρ' X (ss.drop k) Q σ'):Yeg T d sc ρ X ss Q σ:=by
 intro env A fs F ι s hsc I
 rw [← List.take_append_drop k ss,Ye4]
 refine Zhb (Zib (h1 env A fs F ι s hsc I) (fun f s₁ p=>?_) fun zz zz p=>p)
 obtain ⟨fl,ρ',σ',ι',q,r,i,e⟩:=p
 induction r with
 | next=>exact Zib (h2 _ _ q env A fs F ι' s₁ hsc i) (fun zz zz p=>p.trans e) fun zz zz p=>p.trans e
 | brk=>exact Zjb ⟨_,ρ',σ',ι',q,.brk,i,e⟩
 | cont=>exact Zjb ⟨_,ρ',σ',ι',q,.cont,i,e⟩
 | ret r=>exact Zjb ⟨_,ρ',σ',ι',q,.ret r,i,e⟩
end
section
theorem Rep.retag {T:Tp}{ι:Inj}{σ:Hp}{h:Heap}(r:Rep T ι σ h) {k:Nat}(hk:σ[k]?=some (.sdict [])):Rep T ι (σ.set k (.tdict [])) h where
 len:=by simp [r.len]
 big:=r.big
 size:=r.size
 base:=r.base
 objs:=fun l o p e q=>by
   by_cases hl:k=l
   · subst hl
     rw [Zw (Zb.mp hk).1] at e
     cases e
     obtain ⟨h0,rvs,⟨o,es,ep,h1,h2,h3,zz,h5,zz⟩,h7⟩:=r.objs k _ p hk q
     cases rvs with
     | cons=>cases h7
     | nil =>
       refine ⟨h0,[],⟨o,es,ep,h1,h2,h3,?_,fun zz hx=>by simp at hx,List.nodup_nil⟩,.nil⟩
       cases hs:es.toList with
       | nil=>rfl
       | cons=>rw [hs] at h5; cases h5
   · rw [Zi hl] at e
     exact r.objs l o p e q
 fresh:=r.fresh
 apart:=r.apart
theorem Yaa.retag {T:Tp}{d:Nat}{X:QX}{f:V}{args:List V}{Q:QE}{σ:Hp}(h:Yaa T d X f args (fun v σ'=>∃ k,σ'[k]?=some (.sdict [])∧Q v (σ'.set k (.tdict []))) σ):Yaa T d X f args Q σ:=by
 intro A fs ι s fv xs S rf rxs
 refine Zib (h A fs ι s fv xs S rf rxs) (fun x s' p=>?_) fun zz zz p=>p
 obtain ⟨v,σ',ι',⟨k,hk,q⟩,rv,rp,ex,g,o⟩:=p
 exact ⟨v,_,ι',q,rv,rp.retag hk,ex,g,o⟩
section
variable {T:Tp}{d:Nat}{X:QX}{Q:QE}{σ:Hp}
theorem Cmp.pairs {neg:Bool}{k:Str×Int}{l:Nat}{kvs:List ((Str×Int)×V)}(hl:σ[l]?=some (.tdict kvs)) (q:Q (.bool (neg != kvs.any fun kv=>kv.1=k)) σ):Cmp (if neg then .NotIn else .In) (.tup [.str k.1,.int k.2]) (.ref l) Q σ:=.inR (.tdict _ _ _ hl) q
theorem Itm.pair {l:Nat}{k:Str×Int}{kvs:List ((Str×Int)×V)}{v:V}(h1:σ[l]?=some (.tdict kvs)) (h2:(kvs.find? fun kv=>kv.1=k).map (·.2)=some v) (q:Q v σ):Itm (.ref l) (.tup [.str k.1,.int k.2]) Q σ:=⟨⟨v,.tdict _ _ _ _ h1 h2,q⟩⟩
theorem Yat.pair {l:Nat}{k:Str×Int}{kvs:List ((Str×Int)×V)}{v:V}{ρ:Loc}{K:QS}(h1:σ[l]?=some (.tdict kvs)) (h2:kvs.length≤sizeLine) (q:K .next ρ (σ.set l (.tdict (Ydw kvs k v)))):Yat ρ K v (.ref l) (.tup [.str k.1,.int k.2]) σ:=.pr l k kvs rfl rfl h1 h2 q
end
end
section
section
variable {T:Tp}{d:Nat}{sc:Scope}{ρ:Loc}{X:QX}{Q:QE}{σ:Hp}
theorem Cal.isiInt {i:Int}(q:Q (.bool true) σ):Cal T d X (.bi "isinstance") [.int i,.type "int"] Q σ:=⟨.b2 rfl fun S r r2=>by
 rw [Yar.type_inv r2]; obtain ⟨t,rfl⟩:=r.int_inv
 exact IsiPair.int_int (S.post0 q .bool_mk)⟩
theorem Cal.isiNo {i:Int}(q:Q (.bool false) σ):Cal T d X (.bi "isinstance") [.int i,.type "bool"] Q σ:=⟨.b2 rfl fun S r r2=>by
 rw [Yar.type_inv r2]; obtain ⟨t,rfl⟩:=r.int_inv
 exact IsiPair.int_bool (S.post q .bool_mk _)⟩
end
inductive Ytj (T:Tp) (d:Nat) (sc:Scope) (ρ:Loc) (X:QX) (σ:Hp):List (Option Expr)→List Expr→List (Str×V)→Prop where
 | nil:Ytj T d sc ρ X σ [] [] []
 | cons {k:Str}{kk:Nat}{p:Pos}{e:Expr}{ks:List (Option Expr)}{es:List Expr}{v:V}{kvs:List (Str×V)}(h:Yal T d sc ρ X e (fun u τ=>u=v∧τ=σ) σ) (t:Ytj T d sc ρ X σ ks es kvs):Ytj T d sc ρ X σ (some (.Constant (.str k) kk p)::ks) (e::es) ((k,v)::kvs)
section
variable {T:Tp}{A:Around}{fs:List Env}{d:Nat}{env:Env}{F:List Addr}{ι:Inj}{s:Shared}{ρ:Loc}{σ:Hp}{sc:Scope}{X:QX}{Q:QE}
inductive Yu5 (T:Tp) (A:Around) (fs:List Env) (d:Nat) (env:Env) (F:List Addr) (ρ:Loc) (ι:Inj) (σ:Hp) (s:Shared) (kvs:List (Str×V)) (vs:List (Value×Value)) (s₁:Shared):Prop where
 | mk (rvs:List (Str×Value)) (h1:Carries (PySem.strKind T.prog T.w) vs rvs) (h2:Yhd T ι s₁.heap kvs rvs) (h3:Inv T A fs d env F ρ ι σ s₁) (h4:Ext T [] ι s.heap ι s₁.heap):Yu5 T A fs d env F ρ ι σ s kvs vs s₁
theorem Ext.same {h h':Heap}{ι':Inj}(e:Ext T F ι h ι' h') (hl:ι'.length=ι.length):ι'=ι:=by
 obtain ⟨κ,rfl,zz⟩:=e.pre
 rw [Zf] at hl
 rw [List.eq_nil_of_length_eq_zero (Nat.add_left_cancel (hl.trans (Nat.add_zero _).symm)),Zlc]
theorem Yuv (hsc:env.scope=sc) {pos:Pos}{ks:List (Option Expr)}{es:List Expr}{kvs:List (Str×V)}(h:Ytj T d sc ρ X σ ks es kvs):∀ {s:Shared},Inv T A fs d env F ρ ι σ s→wpAny (model T.prog T.w) A (evalPairs (pairTrees ks es env pos)) (Yu5 T A fs d env F ρ ι σ s kvs) (Yav T [] X ι s.heap) s:=by
 induction h with
 | nil=>exact fun I=>pairTrees_nil_walk ⟨[],trivial,.nil,I,.refl ..⟩
 | @cons k kk p e ks es v kvs h t ih =>
   intro s I
   refine pairTrees_cons_walk (wpAny_Constant_str ?_)
   have I':Inv T A fs d env F ρ ι σ { s with toks:=s.toks+1 }:=⟨I.rep,I.aok,I.frm,I.top,I.gens,I.os⟩
   refine Zib (h env A fs F ι _ hsc I') (fun x s₁ p=>?_) fun zz zz p=>p
   obtain ⟨u,σ₁,ι₁,⟨rfl,rfl⟩,rv,rp,ex,g,o⟩:=p
   cases ex.same (rp.len.trans I.rep.len.symm)
   have I₁:=I'.ext ex rp g o
   refine Zib (ih I₁) (fun vs s₂ p=>?_) fun zz zz p=>p.trans ex
   obtain ⟨rvs,c1,c2,I₂,e₂⟩:=p
   exact ⟨(k,x)::rvs,⟨by simp [PySem.strKind,Value.isStrOf],rfl,c1⟩,.cons (rv.mono e₂.mono) c2,I₂,ex.trans e₂⟩
theorem Ytj.shape {ks:List (Option Expr)}{es:List Expr}{kvs:List (Str×V)}(h:Ytj T d sc ρ X σ ks es kvs):ks.all (·.isSome)=true∧ks.length=es.length:=by
 induction h with
 | nil=>exact ⟨rfl,rfl⟩
 | cons z1 z2 ih=>exact ⟨by rw [List.all_cons,ih.1]; rfl,congrArg Nat.succ ih.2⟩
theorem Yal.dictS {pos:Pos}{ks:List (Option Expr)}{es:List Expr}{kvs:List (Str×V)}(hd:Ytj T d sc ρ X (σ++[.sdict []]) ks es kvs) (hn:(kvs.map (·.1)).Nodup) (h0:ks≠[]) (hl:ks.length≤15) (q:Q (.ref σ.length) (σ++[.sdict kvs])):Yal T d sc ρ X (.Dict ks es pos) Q σ:=by
 intro env A fs F ι s hsc I
 refine wpAny_Dict_walk (knd:=PySem.strKind T.prog T.w) hd.shape.1 hd.shape.2 h0 hl ?_
 have hget:(s.heap.push { cls:=.type "dict",data:=.dict #[] }).get? s.heap.objs.size=some { cls:=.type "dict",data:=.dict #[] }:=Zsc _ rfl
 have no:s.heap.objs.size∉own ι:=fun z=>absurd (I.rep.own_lt z) (Zub _)
 have e:=Ext.push T [] ι s.heap { cls:=.type "dict",data:=.dict #[] }
 have R₀:Rep T (ι++[(s.heap.objs.size,s.heap.objs.size)]) (σ++[.sdict []]) (s.heap.push { cls:=.type "dict",data:=.dict #[] }):=(I.rep.push _).more (p:=(s.heap.objs.size,s.heap.objs.size)) ⟨rfl,[],⟨_,#[],0,hget,⟨rfl,rfl,rfl⟩,rfl,fun zz h=>by simp at h,.nil,by simp⟩,.nil⟩ I.rep.size I.rep.size no no
 have e₀:Ext T [] ι s.heap (ι++[(s.heap.objs.size,s.heap.objs.size)]) (s.heap.push { cls:=.type "dict",data:=.dict #[] }):=⟨⟨[(s.heap.objs.size,s.heap.objs.size)],rfl,by simp⟩,e.size,e.cls,e.frz,e.keep,e.frm⟩
 have I₀:Inv T A fs d env F ρ (ι++[(s.heap.objs.size,s.heap.objs.size)]) (σ++[.sdict []]) { s with heap:=s.heap.push { cls:=.type "dict",data:=.dict #[] } }:=I.ext e₀ R₀ I.gens I.os
 refine Zib (Yuv hsc hd I₀) (fun vs s₁ p=>?_) fun zz zz p=>p.trans e₀
 obtain ⟨rvs,c1,c2,I₁,e₁⟩:=p
 have hι:(ι++[(s.heap.objs.size,s.heap.objs.size)])[σ.length]?=some (s.heap.objs.size,s.heap.objs.size):=by rw [← I.rep.len]; simp
 obtain ⟨zz,rs,hdo,hv⟩:=I₁.rep.objs σ.length (.sdict []) _ (by simp) hι
 cases hv
 refine ⟨rvs,c1,hdo,fun h' hd' hs=>?_⟩
 rw [merged_nil_of_nodup rvs (by rw [c2.keys]; exact hn)] at hd'
 obtain ⟨ob,b1,b2⟩:=Yfl hdo
 obtain ⟨ob',b1',b2'⟩:=Yfl hd'
 obtain ⟨S',ex⟩:=St.turned (t:=s₁.toks+vs.length) (o:=.sdict kvs) I₁.st hι hs (.inl rfl) b1 b1' (b2'.trans b2.symm) (Yd4 b2) fun mo=>⟨rfl,_,hd',c2.imp fun zz zz r=>r.mono mo⟩
 have es:(σ++[Yas.sdict []]).set σ.length (.sdict kvs)=σ++[.sdict kvs]:=by simp
 rw [es] at S'
 exact ⟨_,_,_,q,⟨s.heap.objs.size,s.heap.objs.size,rfl,hι⟩,S'.rep,e₀.trans (e₁.trans ex),S'.gens,S'.os⟩
theorem Ylo (x:Str):(Builtin.Str.strSliceIndices none none (-1) x.length).filterMap (x.cps[·]?)=x.cps.toList.reverse:=by
 rw [picked_rev,PySem.W.krv_range,List.filterMap_reverse]
 exact congrArg List.reverse (PySem.W.krv_all x.cps)
theorem Yal.revStr {value st:Expr}{p pos:Pos}(ht:∀ o r,letTemporaryGo value o r=pure ())
   (h:Yal T d sc ρ X value (fun o σ₁=>Yal T d sc ρ X st (fun k σ₂=>k=.int (-1)∧∃ x:Str,o=.str x∧x.length≤sizeLine∧Q (.str ⟨x.cps.toList.reverse.toArray⟩) σ₂) σ₁) σ) :
   Yal T d sc ρ X (.Subscript value (.Slice Option.none Option.none (some st) p) pos) Q σ:=by
 intro env A fs F ι s hsc I
 refine wpAny_Subscript_Slice_step (T:="str") PySem.F.slot_str_getitem.lookup (Zib (h env A fs F ι s hsc I) (fun o s₁ p=>?_) fun zz zz p=>p) ht
 obtain ⟨v,σ₁,ι₁,q,rv,rp,ex,g,oo⟩:=p
 have I₁:=I.ext ex rp g oo
 refine wpAny_Slice ?_
 rw [evalPart_none,evalPart_some]
 refine Zjb (Zjb (Zib (q env A fs F ι₁ s₁ hsc I₁) (fun k s₂ p=>?_) fun zz zz p=>p.trans ex))
 obtain ⟨kv,σ₂,ι₂,⟨rfl,x,rfl,hx,q⟩,rk,rp2,ex2,g2,o2⟩:=p
 obtain ⟨t,rfl⟩:=rv.str_inv
 obtain ⟨u,rfl⟩:=rk.int_inv
 refine ⟨typeIs_str _ x t,wpAny_getItem_str_slice (l:=Option.none) (u:=Option.none) (st:=some (-1,u)) ⟨_,Zsc _ rfl,rfl,rfl⟩ rfl ?_⟩
 have e:sliceMade x t Option.none Option.none (some (-1,u))=.str ⟨x.cps.toList.reverse.toArray⟩:=by
   rw [← Ylo x]; rfl
 rw [e]
 have I₂:=I₁.ext ex2 rp2 g2 o2
 have ep:=Ext.push T [] ι₂ s₂.heap { cls:=.type "slice",data:=.fields #[.none,.none,.int (-1) u] }
 exact ⟨by simpa [Str.length] using hx,_,σ₂,ι₂,q,.str_mk,I₂.rep.push _,ex.trans (ex2.trans ep),I₂.gens,I₂.os⟩
end
end
section
noncomputable def Yak (c:Nat):Bool:=c == 10 || c == 9 || (decide (32≤c) && decide (c≤126) && c != 37)
theorem sz (n:Nat) (h:Nat.ble n 1000=true):n≤sizeLine:=Za (Nat.le_of_ble_eq_true h) (by decide)
theorem szo {n:Nat}(h:n≤16777216):n≤sizeLine:=sizeLine_eq▸h
theorem Ysn {α:Type}{l:List α}(h:l.length=1):∃ a,l=[a]:=by
 cases l with
 | nil=>cases h
 | cons a r=>cases r with
   | nil=>exact ⟨a,rfl⟩
   | cons b r=>cases h
theorem Ymu {α:Type}{l:List α}(h:l.length=2):∃ a b,l=[a,b]:=by
 cases l with
 | nil=>cases h
 | cons a r=>obtain ⟨b,rfl⟩:=Ysn (Nat.succ.inj h); exact ⟨a,b,rfl⟩
theorem Yzc {α:Type}{l:List α}(h:l.length=3):∃ a b c,l=[a,b,c]:=by
 cases l with
 | nil=>cases h
 | cons a r=>obtain ⟨b,c,rfl⟩:=Ymu (Nat.succ.inj h); exact ⟨a,b,c,rfl⟩
theorem Yzg {α:Type}{l:List α}(h:l.length=4):∃ a b c d,l=[a,b,c,d]:=by
 cases l with
 | nil=>cases h
 | cons a r=>obtain ⟨b,c,d,rfl⟩:=Yzc (Nat.succ.inj h); exact ⟨a,b,c,d,rfl⟩
theorem Yy3 {α:Type}{l:List α}(h:l.length=5):∃ a b c d e,l=[a,b,c,d,e]:=by
 cases l with
 | nil=>cases h
 | cons a r=>obtain ⟨b,c,d,e,rfl⟩:=Yzg (Nat.succ.inj h); exact ⟨a,b,c,d,e,rfl⟩
theorem Yoy {a b:Nat}:((⟨#[a]⟩:Str) == ⟨#[b]⟩)=(a == b):=by
 by_cases e:a=b
 · subst e; simp
 · have e2:(⟨#[a]⟩:Str)≠⟨#[b]⟩:=fun q=>e (by injection q with q; simpa using q)
   rw [Zmc.mpr e2,Zmc.mpr e]
set_option tactic.hygienic true in
end
section
set_option genSizeOf false
set_option genInjectivity false
inductive Pt where
 | sign (c:Nat)
 | span (a b:Nat)
 | any
 | rule (n:Str)
 | row (ps:List Pt)
 | alt (ps:List Pt)
 | many (p:Pt)
 | nt (p:Pt)
mutual
noncomputable def Pt.v:Pt→V
 | .sign c=>.tup [.str "sign",.str ⟨#[c]⟩]
 | .span a b=>.tup [.str "span",.str ⟨#[a]⟩,.str ⟨#[b]⟩]
 | .any=>.tup [.str "any"]
 | .rule n=>.tup [.str "rule",.str n]
 | .row ps=>.tup [.str "row",.tup (Pt.vs ps)]
 | .alt ps=>.tup [.str "or",.tup (Pt.vs ps)]
 | .many p=>.tup [.str "many",p.v]
 | .nt p=>.tup [.str "not",p.v]
noncomputable def Pt.vs:List Pt→List V
 | []=>[]
 | p::r=>p.v::Pt.vs r
end
theorem Pt.v1 (c:Nat):(Pt.sign c).v=V.tup [V.str (Str.ofString "sign"),V.str { cps:=#[c] }]:=rfl
theorem Pt.v2 (a b:Nat):(Pt.span a b).v=V.tup [V.str (Str.ofString "span"),V.str { cps:=#[a] },V.str { cps:=#[b] }]:=rfl
theorem Pt.v3:Pt.any.v=V.tup [V.str (Str.ofString "any")]:=rfl
theorem Pt.v4 (n:Str):(Pt.rule n).v=V.tup [V.str (Str.ofString "rule"),V.str n]:=rfl
theorem Pt.v5 (ps:List Pt):(Pt.row ps).v=V.tup [V.str (Str.ofString "row"),V.tup (Pt.vs ps)]:=rfl
theorem Pt.v6 (ps:List Pt):(Pt.alt ps).v=V.tup [V.str (Str.ofString "or"),V.tup (Pt.vs ps)]:=rfl
theorem Pt.v7 (p:Pt):p.many.v=V.tup [V.str (Str.ofString "many"),p.v]:=rfl
theorem Pt.v8 (p:Pt):p.nt.v=V.tup [V.str (Str.ofString "not"),p.v]:=rfl
theorem Pt.vs1:Pt.vs []=[]:=rfl
theorem Pt.vs2 (p:Pt) (r:List Pt):Pt.vs (p::r)=p.v::Pt.vs r:=rfl
theorem Pt.vs_map:∀ ps:List Pt,Pt.vs ps=ps.map Pt.v:=by
 intro xx
 induction xx with
 | nil =>
   simp [Pt.vs1]
 | cons p r ih =>
   simp [Pt.vs2,ih]
noncomputable def Pt.kids:Pt→List Pt
 | .row ps | .alt ps=>ps
 | .many p | .nt p=>[p]
 | .sign _ | .span _ _ | .any | .rule _=>[]
theorem Pt.kids1 (ps:List Pt):(Pt.row ps).kids=ps:=rfl
theorem Pt.kids2 (ps:List Pt):(Pt.alt ps).kids=ps:=rfl
theorem Pt.kids3 (p:Pt):p.many.kids=[p]:=rfl
theorem Pt.kids4 (p:Pt):p.nt.kids=[p]:=rfl
theorem Pt.kids5 (c:Nat):(Pt.sign c).kids=[]:=rfl
theorem Pt.kids6 (a b:Nat):(Pt.span a b).kids=[]:=rfl
theorem Pt.kids7:Pt.any.kids=[]:=rfl
theorem Pt.kids8 (n:Str):(Pt.rule n).kids=[]:=rfl
noncomputable def Pt.word:Pt→Str
 | .sign z1 => "sign" | .span _ _ => "span" | .any => "any" | .rule _ => "rule" | .row _ => "row" | .alt _ => "or" | .many _ => "many" | .nt _ => "not"
theorem Pt.word1 (c:Nat):(Pt.sign c).word=Str.ofString "sign":=rfl
theorem Pt.word2 (a b:Nat):(Pt.span a b).word=Str.ofString "span":=rfl
theorem Pt.word3:Pt.any.word=Str.ofString "any":=rfl
theorem Pt.word4 (n:Str):(Pt.rule n).word=Str.ofString "rule":=rfl
theorem Pt.word5 (ps:List Pt):(Pt.row ps).word=Str.ofString "row":=rfl
theorem Pt.word6 (ps:List Pt):(Pt.alt ps).word=Str.ofString "or":=rfl
theorem Pt.word7 (p:Pt):p.many.word=Str.ofString "many":=rfl
theorem Pt.word8 (p:Pt):p.nt.word=Str.ofString "not":=rfl
mutual
noncomputable def Pt.deep:Pt→Nat
 | .row ps | .alt ps=>Pt.deeps ps+1
 | .many p | .nt p=>p.deep+1
 | .sign _ | .span _ _ | .any | .rule _=>1
noncomputable def Pt.deeps:List Pt→Nat
 | []=>0
 | p::r=>max p.deep (Pt.deeps r)
end
theorem Pt.deep1 (ps:List Pt):(Pt.row ps).deep=Pt.deeps ps+1:=rfl
theorem Pt.deep2 (ps:List Pt):(Pt.alt ps).deep=Pt.deeps ps+1:=rfl
theorem Pt.deep3 (p:Pt):p.many.deep=p.deep+1:=rfl
theorem Pt.deep4 (p:Pt):p.nt.deep=p.deep+1:=rfl
theorem Pt.deep5 (c:Nat):(Pt.sign c).deep=1:=rfl
theorem Pt.deep6 (a b:Nat):(Pt.span a b).deep=1:=rfl
theorem Pt.deep7:Pt.any.deep=1:=rfl
theorem Pt.deep8 (n:Str):(Pt.rule n).deep=1:=rfl
theorem Pt.deeps2 (p:Pt) (r:List Pt):Pt.deeps (p::r)=max p.deep (Pt.deeps r):=rfl
mutual
noncomputable def Pt.size:Pt→Nat
 | .row ps | .alt ps=>Pt.sizes ps+1
 | .many p | .nt p=>p.size+1
 | .sign _ | .span _ _ | .any | .rule _=>1
noncomputable def Pt.sizes:List Pt→Nat
 | []=>0
 | p::r=>p.size+Pt.sizes r
end
theorem Pt.size1 (ps:List Pt):(Pt.row ps).size=Pt.sizes ps+1:=rfl
theorem Pt.size2 (ps:List Pt):(Pt.alt ps).size=Pt.sizes ps+1:=rfl
theorem Pt.size3 (p:Pt):p.many.size=p.size+1:=rfl
theorem Pt.size4 (p:Pt):p.nt.size=p.size+1:=rfl
theorem Pt.size5 (c:Nat):(Pt.sign c).size=1:=rfl
theorem Pt.size6 (a b:Nat):(Pt.span a b).size=1:=rfl
theorem Pt.size7:Pt.any.size=1:=rfl
theorem Pt.size8 (n:Str):(Pt.rule n).size=1:=rfl
theorem Pt.sizes1:Pt.sizes []=0:=rfl
theorem Pt.sizes2 (p:Pt) (r:List Pt):Pt.sizes (p::r)=p.size+Pt.sizes r:=rfl
mutual
noncomputable def Pt.good:Pt→Bool
 | .sign c=>Yak c
 | .span a b=>Yak a && Yak b && decide (a≤b)
 | .any=>true
 | .rule z1=>true
 | .row ps=>Pt.goods ps
 | .alt ps => !ps.isEmpty && Pt.goods ps
 | .many p | .nt p=>p.good
noncomputable def Pt.goods:List Pt→Bool
 | []=>true
 | p::r=>p.good && Pt.goods r
end
theorem Pt.good1 (c:Nat):(Pt.sign c).good=Yak c:=rfl
theorem Pt.good2 (a b:Nat):(Pt.span a b).good=(Yak a && Yak b && decide (a≤b)):=rfl
theorem Pt.good3:Pt.any.good=true:=rfl
theorem Pt.good4 (n:Str):(Pt.rule n).good=true:=rfl
theorem Pt.good5 (ps:List Pt):(Pt.row ps).good=Pt.goods ps:=rfl
theorem Pt.good6 (ps:List Pt):(Pt.alt ps).good=(!ps.isEmpty && Pt.goods ps):=rfl
theorem Pt.good7 (p:Pt):p.many.good=p.good:=rfl
theorem Pt.good8 (p:Pt):p.nt.good=p.good:=rfl
theorem Pt.goods1:Pt.goods []=true:=rfl
theorem Pt.goods2 (p:Pt) (r:List Pt):Pt.goods (p::r)=(p.good && Pt.goods r):=rfl
end
section
section
variable {σ r:Hp}{a b a':Yas}
theorem Ygj:(σ++a::r)[σ.length]?=some a:=by simp
theorem Yuz:(σ++a::r).set σ.length a'=σ++a'::r:=by simp
theorem Yh3:(σ++a::b::r)[σ.length+1]?=some b:=by
 rw [Ztc (by exact Zq (Zs (List.length σ)))]; simp
theorem Yu2:(σ++a::b::r).set (σ.length+1) a'=σ++a::a'::r:=by
 rw [List.set_append_right _ _ (by exact Zq (Zs (List.length σ)))]; simp
end
inductive Pt.Asks:Pt→Str→Prop where
 | here {n:Str}:Pt.Asks (.rule n) n
 | deep {p q:Pt}{n:Str}:q∈p.kids→Pt.Asks q n→Pt.Asks p n
theorem Pt.size_pos (p:Pt):1≤p.size:=by cases p <;> simp [Pt.size1,Pt.size2,Pt.size3,Pt.size4,Pt.size5,Pt.size6,Pt.size7,Pt.size8]
theorem Pt.sizes_append:∀ a b:List Pt,Pt.sizes (a++b)=Pt.sizes a+Pt.sizes b:=by
 intro xx
 induction xx with
 | nil =>
   intro b
   simp [Pt.sizes1]
 | cons p r ih =>
   intro b
   simp [Pt.sizes2,ih b]; lia
theorem Pt.kids_size (p:Pt):Pt.sizes p.kids+1≤p.size:=by
 cases p <;> simp [Pt.kids1,Pt.kids2,Pt.kids3,Pt.kids4,Pt.kids5,Pt.kids6,Pt.kids7,Pt.kids8,Pt.size1,Pt.size2,Pt.size3,Pt.size4,Pt.size5,Pt.size6,Pt.size7,Pt.size8,Pt.sizes1,Pt.sizes2]
theorem Pt.deep_pos (p:Pt):1≤p.deep:=by cases p <;> simp [Pt.deep1,Pt.deep2,Pt.deep3,Pt.deep4,Pt.deep5,Pt.deep6,Pt.deep7,Pt.deep8]
theorem Pt.deeps_mem {ps:List Pt}{p:Pt}(h:p∈ps):p.deep≤Pt.deeps ps:=by
 induction ps with
 | nil=>cases h
 | cons a r ih =>
   rw [Pt.deeps2]
   rcases Zg.mp h with rfl | h
   · exact Nat.le_max_left ..
   · exact Za (ih h) (Nat.le_max_right ..)
theorem Pt.goods_mem {ps:List Pt}{p:Pt}(hg:Pt.goods ps=true) (h:p∈ps):p.good=true:=by
 induction ps with
 | nil=>cases h
 | cons a r ih =>
   rw [Pt.goods2,Zob] at hg
   rcases Zg.mp h with rfl | h
   · exact hg.1
   · exact ih hg.2 h
theorem Pt.kids_deep {p q:Pt}(h:q∈p.kids):q.deep+1≤p.deep:=by
 cases p <;> simp only [Pt.kids1,Pt.kids2,Pt.kids3,Pt.kids4,Pt.kids5,Pt.kids6,Pt.kids7,Pt.kids8,Zdc,Zj] at h
 · rw [Pt.deep1]; exact Zwb (Pt.deeps_mem h)
 · rw [Pt.deep2]; exact Zwb (Pt.deeps_mem h)
 · subst h; rw [Pt.deep3]; exact Zl _
 · subst h; rw [Pt.deep4]; exact Zl _
noncomputable def Pt.few:Pt→Prop:=fun p=>p.kids.length < 1000
inductive Pt.All (P:Pt→Prop):Pt→Prop where
 | mk {p:Pt}:P p→(∀ q∈p.kids,Pt.All P q)→Pt.All P p
noncomputable def Pt.rest:Pt→List V
 | .sign c=>[.str ⟨#[c]⟩] | .span a b=>[.str ⟨#[a]⟩,.str ⟨#[b]⟩] | .any=>[] | .rule n=>[.str n] | .row ps=>[.tup (Pt.vs ps)] | .alt ps=>[.tup (Pt.vs ps)] | .many p=>[p.v] | .nt p=>[p.v]
theorem Pt.head (p:Pt):p.v=.tup (.str p.word::p.rest):=by
 cases p <;> simp only [Pt.v1,Pt.v2,Pt.v3,Pt.v4,Pt.v5,Pt.v6,Pt.v7,Pt.v8,Pt.word1,Pt.word2,Pt.word3,Pt.word4,Pt.word5,Pt.word6,Pt.word7,Pt.word8,Pt.rest]
theorem Pt.word_rule {p:Pt}(h:p.word = "rule"):∃ n,p=.rule n:=by
 cases p <;> first | exact ⟨_,rfl⟩ | (have h':=h; simp only [Pt.word1,Pt.word2,Pt.word3,Pt.word5,Pt.word6,Pt.word7,Pt.word8] at h'; exact absurd h' (by decide +kernel))
noncomputable def Ydq (c:Nat):Bool:=decide (97≤c) && decide (c≤122)
theorem Ymq:((List.range 123).all fun c => !Ydq c || Yq3 ⟨#[c]⟩ (Str.ofString "abcdefghijklmnopqrstuvwxyz"))=true:=by decide +kernel
theorem Yn4 {c:Nat}(h:Ydq c=true):Yq3 ⟨#[c]⟩ (Str.ofString "abcdefghijklmnopqrstuvwxyz")=true:=by
 have hc:c < 123:=by simp [Ydq] at h; lia
 have:=List.all_eq_true.mp Ymq c (by simpa using hc)
 simpa [h] using this
noncomputable def Yen (x:Str):Bool:=decide (1≤x.length) && decide (x.length≤12) && x.cps.toList.all Ydq
noncomputable abbrev Ybn (r:Str×Pt):V:=.tup [.str r.1,r.2.v]
structure Yp9 (names:List Str) (r:Str×Pt):Prop where
 name:Yen r.1=true
 good:r.2.good=true
 deep:r.2.deep≤12
 few:Pt.All Pt.few r.2
 size:r.2.size < 100000
 asks:∀ n,r.2.Asks n→n∈names
structure Yan (rs:List (Str×Pt)):Prop where
 one:1≤rs.length
 most:rs.length≤40
 nodup:(rs.map (·.1)).Nodup
 all:∀ r∈rs,Yp9 (rs.map (·.1)) r
noncomputable def Ydi (ns:List Str):List (Str×V):=ns.map fun n=>(n,.bool true)
theorem Yfy {ns:List Str}{n:Str}:((Ydi ns).any fun kv=>decide (kv.1=n))=decide (n∈ns):=by
 rw [Bool.eq_iff_iff]; simp [Ydi]
theorem Yfn {ns:List Str}{n:Str}(h:n∉ns):Yca (Ydi ns) n (.bool true)=Ydi (ns++[n]):=by
 unfold Yca; rw [Yfy,if_neg (by simpa using h)]; simp [Ydi]
theorem Ydn {α:Type}{rs:List α}{f:α→Str}{i:Nat}{r:α}(h:(rs.map f).Nodup) (hr:rs[i]?=some r):f r∉(rs.take i).map f:=fun hmem=>by
 obtain ⟨r',hr',e⟩:=Zsb.mp hmem
 obtain ⟨j,hj,e2⟩:=List.getElem_of_mem hr'
 simp only [List.length_take] at hj
 rw [List.getElem_take] at e2
 obtain ⟨hi1,hi2⟩:=Zb.mp hr
 have:=List.pairwise_iff_getElem.mp h j i (by simp; (clear hi1 hi2 hr e2; lia)) (by simpa using hi1) (by (clear hi1 hi2 hr e2; lia))
 simp [e2,hi2,e] at this
theorem Ya3 {α:Type}{rs:List α}{i:Nat}{r:α}(hr:rs[i]?=some r):rs.take (i+1)=rs.take i++[r]:=by
 rw [List.take_add_one,hr]; rfl
end
section
mutual
noncomputable def Pt.may (B:Str→Bool):Pt→Bool
 | .many _ | .nt _=>true
 | .rule n=>B n
 | .row ps=>Pt.mayAll B ps
 | .alt ps=>Pt.mayAny B ps
 | .sign _ | .span _ _ | .any=>false
noncomputable def Pt.mayAll (B:Str→Bool):List Pt→Bool
 | []=>true
 | p::r=>p.may B && Pt.mayAll B r
noncomputable def Pt.mayAny (B:Str→Bool):List Pt→Bool
 | []=>false
 | p::r=>p.may B || Pt.mayAny B r
end
theorem Pt.may1 (B:Str→Bool) (p:Pt):Pt.may B p.many=true:=rfl
theorem Pt.may2 (B:Str→Bool) (p:Pt):Pt.may B p.nt=true:=rfl
theorem Pt.may3 (B:Str→Bool) (n:Str):Pt.may B (Pt.rule n)=B n:=rfl
theorem Pt.may4 (B:Str→Bool) (ps:List Pt):Pt.may B (Pt.row ps)=Pt.mayAll B ps:=rfl
theorem Pt.may5 (B:Str→Bool) (ps:List Pt):Pt.may B (Pt.alt ps)=Pt.mayAny B ps:=rfl
theorem Pt.may6 (B:Str→Bool) (c:Nat):Pt.may B (Pt.sign c)=false:=rfl
theorem Pt.may7 (B:Str→Bool) (a b:Nat):Pt.may B (Pt.span a b)=false:=rfl
theorem Pt.may8 (B:Str→Bool):Pt.may B Pt.any=false:=rfl
theorem Pt.mayAll1 (B:Str→Bool):Pt.mayAll B []=true:=rfl
theorem Pt.mayAll2 (B:Str→Bool) (p:Pt) (r:List Pt):Pt.mayAll B (p::r)=(Pt.may B p && Pt.mayAll B r):=rfl
theorem Pt.mayAny1 (B:Str→Bool):Pt.mayAny B []=false:=rfl
theorem Pt.mayAny2 (B:Str→Bool) (p:Pt) (r:List Pt):Pt.mayAny B (p::r)=(Pt.may B p || Pt.mayAny B r):=rfl
theorem Pt.mayAll_eq (B:Str→Bool):∀ ps,Pt.mayAll B ps=ps.all (Pt.may B)
 | []=>by simp [Pt.mayAll1]
 | p::r=>by simp [Pt.mayAll2,Pt.mayAll_eq B r]
theorem Pt.mayAny_eq (B:Str→Bool):∀ ps,Pt.mayAny B ps=ps.any (Pt.may B)
 | []=>by simp [Pt.mayAny1]
 | p::r=>by simp [Pt.mayAny2,Pt.mayAny_eq B r]
mutual
theorem Pt.may_mono {B C:Str→Bool}(h:∀ x,B x=true→C x=true):∀ p:Pt,p.may B=true→p.may C=true
 | .sign _,q | .span _ _,q | .any,q=>by simp [Pt.may6,Pt.may7,Pt.may8] at q
 | .rule n,q=>by simp only [Pt.may3] at q ⊢; exact h n q
 | .row ps,q=>by simp only [Pt.may4] at q ⊢; exact Pt.mayAll_mono h ps q
 | .alt ps,q=>by simp only [Pt.may5] at q ⊢; exact Pt.mayAny_mono h ps q
 | .many _,_ | .nt _,_=>by simp [Pt.may1,Pt.may2]
theorem Pt.mayAll_mono {B C:Str→Bool}(h:∀ x,B x=true→C x=true):∀ ps:List Pt,Pt.mayAll B ps=true→Pt.mayAll C ps=true
 | [],z1=>by simp [Pt.mayAll1]
 | p::r,q=>by
   simp only [Pt.mayAll2,Zob] at q ⊢
   exact ⟨Pt.may_mono h p q.1,Pt.mayAll_mono h r q.2⟩
theorem Pt.mayAny_mono {B C:Str→Bool}(h:∀ x,B x=true→C x=true):∀ ps:List Pt,Pt.mayAny B ps=true→Pt.mayAny C ps=true
 | [],q=>by simp [Pt.mayAny1] at q
 | p::r,q=>by
   simp only [Pt.mayAny2,Bool.or_eq_true] at q ⊢
   rcases q with q | q
   · exact .inl (Pt.may_mono h p q)
   · exact .inr (Pt.mayAny_mono h r q)
end
noncomputable def inB (bs:List Str):Str→Bool:=fun x=>decide (x∈bs)
theorem Yew {bs:List Str}{x:Str}:inB bs x=true↔x∈bs:=by simp [inB]
noncomputable def Yec (rs:List (Str×Pt)) (E:List Str):List Str:=(rs.filter fun r=>r.2.may (inB E)).map (·.1)
noncomputable def Ybi (rs:List (Str×Pt)):Nat→List Str
 | 0=>[]
 | n+1=>Yec rs (Ybi rs n)
structure Yym (rs:List (Str×Pt)) (bs:List Str):Prop where
 sub:∀ x∈bs,x∈rs.map (·.1)
 closed:∀ r∈rs,r.2.may (inB bs)=true→r.1∈bs
 least:∀ S:Str→Bool,(∀ r∈rs,r.2.may S=true→S r.1=true)→∀ x∈bs,S x=true
section
variable {rs:List (Str×Pt)}
theorem Yjl {E:List Str}{x:Str}:x∈Yec rs E↔∃ r∈rs,r.2.may (inB E)=true∧r.1=x:=by
 simp only [Yec,Zsb,List.mem_filter]
 constructor
 · rintro ⟨r,⟨h1,h2⟩,h3⟩; exact ⟨r,h1,h2,h3⟩
 · rintro ⟨r,h1,h2,h3⟩; exact ⟨r,⟨h1,h2⟩,h3⟩
theorem Yl3 {E F:List Str}(h:∀ x∈E,x∈F):∀ x∈Yec rs E,x∈Yec rs F:=fun x hx=>by
 rw [Yjl] at hx ⊢
 obtain ⟨r,h1,h2,h3⟩:=hx
 exact ⟨r,h1,Pt.may_mono (fun y hy=>Yew.mpr (h y (Yew.mp hy))) _ h2,h3⟩
theorem Yin:∀ n,∀ x∈Ybi rs n,x∈Ybi rs (n+1)
 | 0,x,hx=>by cases hx
 | n+1,x,hx=>Yl3 (Yin n) x hx
theorem Yn0 {E F:List Str}(h:∀ x∈E,x∈F):(Yec rs E).Sublist (Yec rs F):=by
 unfold Yec
 refine List.Sublist.map _ ?_
 induction rs with
 | nil=>simp
 | cons r t ih =>
   simp only [List.filter_cons]
   by_cases h1:r.2.may (inB E)=true
   · have h2:=Pt.may_mono (fun y hy=>Yew.mpr (h y (Yew.mp hy))) _ h1
     rw [if_pos h1,if_pos h2]; exact ih.cons_cons _
   · rw [if_neg h1]
     split
     · exact ih.cons _
     · exact ih
theorem Yf7:∀ n,Ybi rs (n+1)=Ybi rs n∨(Ybi rs n).length+1≤(Ybi rs (n+1)).length:=fun n=>by
 have hs:(Ybi rs n).Sublist (Ybi rs (n+1)):=by
   cases n with
   | zero=>exact List.nil_sublist _
   | succ n=>exact Yn0 (Yin n)
 rcases Nat.lt_or_ge (Ybi rs n).length (Ybi rs (n+1)).length with h | h
 · exact .inr h
 · exact .inl (hs.eq_of_length_le h).symm
theorem Yg1:∀ n,Ybi rs (n+1)=Ybi rs n∨n+1≤(Ybi rs (n+1)).length
 | 0=>by
   rcases Yf7 (rs:=rs) 0 with h | h
   · exact .inl h
   · exact .inr (by exact h)
 | n+1=>by
   rcases Yg1 n with h | h
   · left; show Yec rs (Ybi rs (n+1))=Yec rs (Ybi rs n); rw [h]
   · rcases Yf7 (rs:=rs) (n+1) with g | g
     · exact .inl g
     · exact .inr (by lia)
theorem Ylt:Yec rs (Ybi rs rs.length)=Ybi rs rs.length:=by
 rcases Yg1 (rs:=rs) rs.length with h | h
 · exact h
 · have:(Yec rs (Ybi rs rs.length)).length≤rs.length:=by
     unfold Yec; rw [Zc]; exact List.length_filter_le ..
   exact absurd h (by show ¬ (rs.length+1≤(Yec rs (Ybi rs rs.length)).length); (clear h; lia))
end
end
section
mutual
noncomputable def Pt.ahd (B:Str→Bool):Pt→List Str
 | .rule n=>[n]
 | .row ps=>Pt.ahdRow B ps
 | .alt ps=>Pt.ahdAlt B ps
 | .many p | .nt p=>p.ahd B
 | .sign _ | .span _ _ | .any=>[]
noncomputable def Pt.ahdRow (B:Str→Bool):List Pt→List Str
 | []=>[]
 | p::r=>p.ahd B++if p.may B then Pt.ahdRow B r else []
noncomputable def Pt.ahdAlt (B:Str→Bool):List Pt→List Str
 | []=>[]
 | p::r=>p.ahd B++Pt.ahdAlt B r
end
theorem Pt.ahd1 (B:Str→Bool) (n:Str):Pt.ahd B (Pt.rule n)=[n]:=rfl
theorem Pt.ahd2 (B:Str→Bool) (ps:List Pt):Pt.ahd B (Pt.row ps)=Pt.ahdRow B ps:=rfl
theorem Pt.ahd3 (B:Str→Bool) (ps:List Pt):Pt.ahd B (Pt.alt ps)=Pt.ahdAlt B ps:=rfl
theorem Pt.ahd4 (B:Str→Bool) (p:Pt):Pt.ahd B p.many=Pt.ahd B p:=rfl
theorem Pt.ahd5 (B:Str→Bool) (p:Pt):Pt.ahd B p.nt=Pt.ahd B p:=rfl
theorem Pt.ahd6 (B:Str→Bool) (c:Nat):Pt.ahd B (Pt.sign c)=[]:=rfl
theorem Pt.ahd7 (B:Str→Bool) (a b:Nat):Pt.ahd B (Pt.span a b)=[]:=rfl
theorem Pt.ahd8 (B:Str→Bool):Pt.ahd B Pt.any=[]:=rfl
theorem Pt.ahdRow1 (B:Str→Bool):Pt.ahdRow B []=[]:=rfl
theorem Pt.ahdRow2 (B:Str→Bool) (p:Pt) (r:List Pt):Pt.ahdRow B (p::r)=Pt.ahd B p++if Pt.may B p=true then Pt.ahdRow B r else []:=rfl
theorem Pt.ahdAlt1 (B:Str→Bool):Pt.ahdAlt B []=[]:=rfl
theorem Pt.ahdAlt2 (B:Str→Bool) (p:Pt) (r:List Pt):Pt.ahdAlt B (p::r)=Pt.ahd B p++Pt.ahdAlt B r:=rfl
mutual
theorem Pt.ahd_size (B:Str→Bool):∀ p:Pt,(p.ahd B).length≤p.size
 | .sign _ | .span _ _ | .any | .rule _=>by simp [Pt.ahd1,Pt.ahd6,Pt.ahd7,Pt.ahd8,Pt.size5,Pt.size6,Pt.size7,Pt.size8]
 | .row ps=>by have:=Pt.ahdRow_size B ps; simp only [Pt.ahd2,Pt.size1]; exact Zeb this
 | .alt ps=>by have:=Pt.ahdAlt_size B ps; simp only [Pt.ahd3,Pt.size2]; exact Zeb this
 | .many p | .nt p=>by have:=Pt.ahd_size B p; simp only [Pt.ahd4,Pt.ahd5,Pt.size3,Pt.size4]; exact Zeb this
theorem Pt.ahdRow_size (B:Str→Bool):∀ ps:List Pt,(Pt.ahdRow B ps).length≤Pt.sizes ps
 | []=>by simp [Pt.ahdRow1]
 | p::r=>by
   have h1:=Pt.ahd_size B p
   have h2:=Pt.ahdRow_size B r
   simp only [Pt.ahdRow2,Pt.sizes2,Zf]
   split
   · lia
   · simp; (clear h2; lia)
theorem Pt.ahdAlt_size (B:Str→Bool):∀ ps:List Pt,(Pt.ahdAlt B ps).length≤Pt.sizes ps
 | []=>by simp [Pt.ahdAlt1]
 | p::r=>by
   have h1:=Pt.ahd_size B p
   have h2:=Pt.ahdAlt_size B r
   simp only [Pt.ahdAlt2,Pt.sizes2,Zf]; lia
end
mutual
noncomputable def Pt.ok (P:Str→Prop):Pt→Prop
 | .sign c=>Yak c=true
 | .span a b=>Yak a=true∧Yak b=true∧a≤b
 | .any=>True
 | .rule n=>P n
 | .row ps=>ps.length < 1000∧Pt.oks P ps
 | .alt ps=>ps≠[]∧ps.length < 1000∧Pt.oks P ps
 | .many p | .nt p=>p.ok P
noncomputable def Pt.oks (P:Str→Prop):List Pt→Prop
 | []=>True
 | p::r=>p.ok P∧Pt.oks P r
end
theorem Pt.ok1 (P:Str→Prop) (c:Nat):Pt.ok P (Pt.sign c)=(Yak c=true):=rfl
theorem Pt.ok2 (P:Str→Prop) (a b:Nat):Pt.ok P (Pt.span a b)=(Yak a=true∧Yak b=true∧a≤b):=rfl
theorem Pt.ok3 (P:Str→Prop):Pt.ok P Pt.any=True:=rfl
theorem Pt.ok4 (P:Str→Prop) (n:Str):Pt.ok P (Pt.rule n)=P n:=rfl
theorem Pt.ok5 (P:Str→Prop) (ps:List Pt):Pt.ok P (Pt.row ps)=(ps.length < 1000∧Pt.oks P ps):=rfl
theorem Pt.ok6 (P:Str→Prop) (ps:List Pt):Pt.ok P (Pt.alt ps)=(ps≠[]∧ps.length < 1000∧Pt.oks P ps):=rfl
theorem Pt.ok7 (P:Str→Prop) (p:Pt):Pt.ok P p.many=Pt.ok P p:=rfl
theorem Pt.ok8 (P:Str→Prop) (p:Pt):Pt.ok P p.nt=Pt.ok P p:=rfl
theorem Pt.oks1 (P:Str→Prop):Pt.oks P []=True:=rfl
theorem Pt.oks2 (P:Str→Prop) (p:Pt) (r:List Pt):Pt.oks P (p::r)=(Pt.ok P p∧Pt.oks P r):=rfl
theorem Pt.oks_mem {P:Str→Prop}{ps:List Pt}(h:Pt.oks P ps):∀ q∈ps,q.ok P:=by
 induction ps with
 | nil=>intro q hq; cases hq
 | cons a r ih =>
   intro q hq
   rw [Pt.oks2] at h
   rcases Zg.mp hq with rfl | hq
   · exact h.1
   · exact ih h.2 q hq
theorem Pt.ok_kids {P:Str→Prop}{p:Pt}(h:p.ok P):∀ q∈p.kids,q.ok P:=by
 intro q hq
 cases p <;> simp only [Pt.kids1,Pt.kids2,Pt.kids3,Pt.kids4,Pt.kids5,Pt.kids6,Pt.kids7,Pt.kids8,Zdc,Zj] at hq
 · rw [Pt.ok5] at h; exact Pt.oks_mem h.2 q hq
 · rw [Pt.ok6] at h; exact Pt.oks_mem h.2.2 q hq
 · subst hq; rw [Pt.ok7] at h; exact h
 · subst hq; rw [Pt.ok8] at h; exact h
mutual
theorem Pt.ok_good {P:Str→Prop}:∀ p:Pt,p.ok P→p.good=true
 | .sign c,h=>by simpa only [Pt.ok1,Pt.ok2,Pt.ok3,Pt.ok4,Pt.ok5,Pt.ok6,Pt.ok7,Pt.ok8,Pt.good1,Pt.good2,Pt.good3,Pt.good4,Pt.good5,Pt.good6,Pt.good7,Pt.good8] using h
 | .span a b,h=>by simp only [Pt.ok2] at h; simp [Pt.good2,h]
 | .any,_ | .rule _,_=>by simp [Pt.good3,Pt.good4]
 | .row ps,h=>by simp only [Pt.ok5] at h; simp only [Pt.good5]; exact Pt.oks_good ps h.2
 | .alt ps,h=>by simp only [Pt.ok6] at h; simp only [Pt.good6,Zob]; exact ⟨by simpa using h.1,Pt.oks_good ps h.2.2⟩
 | .many p,h | .nt p,h=>by simp only [Pt.ok7,Pt.ok8] at h; simp only [Pt.good7,Pt.good8]; exact Pt.ok_good p h
theorem Pt.oks_good {P:Str→Prop}:∀ ps:List Pt,Pt.oks P ps→Pt.goods ps=true
 | [],z1=>by simp [Pt.goods1]
 | p::r,h=>by simp only [Pt.oks2] at h; simp only [Pt.goods2,Zob]; exact ⟨Pt.ok_good p h.1,Pt.oks_good r h.2⟩
end
theorem Pt.ok_few {P:Str→Prop}:∀ (n:Nat) (p:Pt),p.deep≤n→p.ok P→Pt.All Pt.few p
 | 0,p,hn,z1=>absurd (Pt.deep_pos p) (by lia)
 | n+1,p,hn,h=>⟨by
     show p.kids.length < 1000
     cases p <;> simp only [Pt.kids1,Pt.kids2,Pt.kids3,Pt.kids4,Pt.kids5,Pt.kids6,Pt.kids7,Pt.kids8,List.length_nil,List.length_singleton] <;> first | (clear hn; exact Zgb (id (Eq.refl true))) | (simp only [Pt.ok5,Pt.ok6] at h; first | exact h.1 | exact h.2.1),
   fun q hq=>Pt.ok_few n q (by have:=Pt.kids_deep hq; lia) (Pt.ok_kids h q hq)⟩
theorem Pt.ok_asks {P:Str→Prop}{p:Pt}{n:Str}(h:p.Asks n):p.ok P→P n:=by
 induction h with
 | here=>intro h; simpa only [Pt.ok1,Pt.ok2,Pt.ok3,Pt.ok4,Pt.ok5,Pt.ok6,Pt.ok7,Pt.ok8] using h
 | deep hq z1 ih=>intro h; exact ih (Pt.ok_kids h _ hq)
mutual
theorem Pt.ok_mono {P R:Str→Prop}(hm:∀ n,P n→R n):∀ p:Pt,p.ok P→p.ok R
 | .sign c,h=>by simpa only [Pt.ok1,Pt.ok2,Pt.ok3,Pt.ok4,Pt.ok5,Pt.ok6,Pt.ok7,Pt.ok8] using h
 | .span a b,h=>by simpa only [Pt.ok1,Pt.ok2,Pt.ok3,Pt.ok4,Pt.ok5,Pt.ok6,Pt.ok7,Pt.ok8] using h
 | .any,z1=>by simp [Pt.ok3]
 | .rule z1,h=>by simp only [Pt.ok4] at h ⊢; exact hm _ h
 | .row ps,h=>by simp only [Pt.ok5] at h ⊢; exact ⟨h.1,Pt.oks_mono hm ps h.2⟩
 | .alt ps,h=>by simp only [Pt.ok6] at h ⊢; exact ⟨h.1,h.2.1,Pt.oks_mono hm ps h.2.2⟩
 | .many p,h | .nt p,h=>by simp only [Pt.ok7,Pt.ok8] at h ⊢; exact Pt.ok_mono hm p h
theorem Pt.oks_mono {P R:Str→Prop}(hm:∀ n,P n→R n):∀ ps:List Pt,Pt.oks P ps→Pt.oks R ps
 | [],z1=>by simp [Pt.oks1]
 | p::r,h=>by simp only [Pt.oks2] at h ⊢; exact ⟨Pt.ok_mono hm p h.1,Pt.oks_mono hm r h.2⟩
end
mutual
theorem Pt.ok_ahd {P:Str→Prop}(B:Str→Bool):∀ p:Pt,p.ok P→∀ n∈p.ahd B,P n
 | .sign _,_ | .span _ _,_ | .any,_=>by simp [Pt.ahd6,Pt.ahd7,Pt.ahd8]
 | .rule m,h=>by simp only [Pt.ok4] at h; simpa [Pt.ahd1,Pt.ahd2,Pt.ahd3,Pt.ahd4,Pt.ahd5,Pt.ahd6,Pt.ahd7,Pt.ahd8] using h
 | .row ps,h=>by simp only [Pt.ok5] at h; simp only [Pt.ahd2]; exact Pt.oks_ahdRow B ps h.2
 | .alt ps,h=>by simp only [Pt.ok6] at h; simp only [Pt.ahd3]; exact Pt.oks_ahdAlt B ps h.2.2
 | .many p,h | .nt p,h=>by simp only [Pt.ok7,Pt.ok8] at h; simp only [Pt.ahd4,Pt.ahd5]; exact Pt.ok_ahd B p h
theorem Pt.oks_ahdRow {P:Str→Prop}(B:Str→Bool):∀ ps:List Pt,Pt.oks P ps→∀ n∈Pt.ahdRow B ps,P n
 | [],z1=>by simp [Pt.ahdRow1]
 | p::r,h=>by
   simp only [Pt.oks2] at h
   intro n hn
   simp only [Pt.ahdRow2,Zm] at hn
   rcases hn with hn | hn
   · exact Pt.ok_ahd B p h.1 n hn
   · split at hn
     · exact Pt.oks_ahdRow B r h.2 n hn
     · cases hn
theorem Pt.oks_ahdAlt {P:Str→Prop}(B:Str→Bool):∀ ps:List Pt,Pt.oks P ps→∀ n∈Pt.ahdAlt B ps,P n
 | [],z1=>by simp [Pt.ahdAlt1]
 | p::r,h=>by
   simp only [Pt.oks2] at h
   intro n hn
   simp only [Pt.ahdAlt2,Zm] at hn
   rcases hn with hn | hn
   · exact Pt.ok_ahd B p h.1 n hn
   · exact Pt.oks_ahdAlt B r h.2 n hn
end
noncomputable def Yqi (rs:List (Str×Pt)) (B:Str→Bool) (x y:Str):Prop:=∃ r∈rs,r.1=x∧y∈r.2.ahd B
inductive Rch (rs:List (Str×Pt)) (B:Str→Bool) (x:Str):Str→Prop where
 | one {y:Str}:Yqi rs B x y→Rch rs B x y
 | more {y z:Str}:Rch rs B x y→Yqi rs B y z→Rch rs B x z
noncomputable def Yey (rs:List (Str×Pt)):Prop:=∀ (i:Nat) (r:Str×Pt),rs[i]?=some r→∀ (B:Str→Bool),∀ y∈r.2.ahd B,∃ (j:Nat) (r':Str×Pt),i < j∧rs[j]?=some r'∧r'.1=y
theorem Yjy {rs:List (Str×Pt)}(hn:(rs.map (·.1)).Nodup) {i j:Nat}{r r':Str×Pt}(h:rs[i]?=some r) (h':rs[j]?=some r') (e:r.1=r'.1):i=j:=by
 obtain ⟨h1,rfl⟩:=Zb.mp h
 obtain ⟨h2,rfl⟩:=Zb.mp h'
 rcases Nat.lt_trichotomy i j with g | g | g
 · have:=List.pairwise_iff_getElem.mp hn i j (by simpa using h1) (by simpa using h2) g
   simp [e] at this
 · exact g
 · have:=List.pairwise_iff_getElem.mp hn j i (by simpa using h2) (by simpa using h1) g
   simp [e] at this
theorem Yey.rch {rs:List (Str×Pt)}(hl:Yey rs) (hn:(rs.map (·.1)).Nodup) {B:Str→Bool}{x y:Str}(h:Rch rs B x y):∀ (i:Nat) (r:Str×Pt),rs[i]?=some r→r.1=x→∃ (j:Nat) (r':Str×Pt),i < j∧rs[j]?=some r'∧r'.1=y:=by
 have lead:∀ {a b:Str}{i:Nat}{r:Str×Pt},rs[i]?=some r→r.1=a→Yqi rs B a b→∃ (j:Nat) (r':Str×Pt),i < j∧rs[j]?=some r'∧r'.1=b:=by
   intro a b i r h1 h2 ⟨r',h3,h4,h5⟩
   obtain ⟨k,h6⟩:=List.mem_iff_getElem?.mp h3
   have e:=Yjy hn h1 h6 (by rw [h2,h4])
   subst e
   exact hl i r' h6 B _ h5
 induction h with
 | one h=>exact fun i r h1 h2=>lead h1 h2 h
 | more z1 h ih =>
   intro i r h1 h2
   obtain ⟨j,r',g1,g2,g3⟩:=ih i r h1 h2
   obtain ⟨k,r'',f1,f2,f3⟩:=lead g2 g3 h
   exact ⟨k,r'',by (clear f2 g2 lead ih h1; exact Zq (Zk g1 f1)),f2,f3⟩
theorem Yey.no {rs:List (Str×Pt)}(hl:Yey rs) (hn:(rs.map (·.1)).Nodup) {B:Str→Bool}{r:Str×Pt}(hr:r∈rs):¬ Rch rs B r.1 r.1:=fun h=>by
 obtain ⟨i,hi⟩:=List.mem_iff_getElem?.mp hr
 obtain ⟨j,r',g1,g2,g3⟩:=hl.rch hn h i r hi rfl
 have:=Yjy hn hi g2 g3.symm
 (clear g2 hi; exact Zoc g1 (id (Eq.symm this)))
end
section
noncomputable def Yaz (P:Str→Prop) (n s:Nat) (p:Pt):Prop:=p.ok P∧p.deep≤n∧p.size≤s
structure Pcw (P:Str→Prop) (s n c k:Nat) (p:Pt):Prop where
 ok:p.ok P
 deep:p.deep≤n
 size:p.size≤c*s+k
structure Pcs (P:Str→Prop) (s n c k l:Nat) (ps:List Pt):Prop where
 ok:Pt.oks P ps
 deep:Pt.deeps ps≤n
 size:Pt.sizes ps≤c*s+k
 len:ps.length=l
section
variable {P:Str→Prop}{s n c k c' k' l:Nat}{p:Pt}{ps:List Pt}
theorem Pcs.nil:Pcs P s n 0 0 0 []:=⟨(trivial:True),Zkb n,Zkb _,rfl⟩
theorem Pcs.cons (h:Pcw P s n c k p) (t:Pcs P s n c' k' l ps):Pcs P s n (c+c') (k+k') (l+1) (p::ps) :=
 ⟨(⟨h.ok,t.ok⟩:p.ok P∧Pt.oks P ps),(Nat.max_le.mpr ⟨h.deep,t.deep⟩:max p.deep (Pt.deeps ps)≤n),Za (Zcb h.size t.size:p.size+Pt.sizes ps≤_) (Zr (by rw [Nat.add_mul,Nat.add_add_add_comm])),congrArg Nat.succ t.len⟩
theorem Pcs.row (h:Pcs P s n c k l ps) (hl:Nat.ble l 9=true):Pcw P s (n+1) c (k+1) (.row ps) :=
 ⟨(⟨h.len▸Zk (Nat.le_of_ble_eq_true hl) (by decide),h.ok⟩:ps.length < 1000∧Pt.oks P ps),Zwb h.deep,Zwb h.size⟩
theorem Pcs.alt (h:Pcs P s n c k (l+1) ps) (hl:Nat.ble (l+1) 9=true):Pcw P s (n+1) c (k+1) (.alt ps) :=
 ⟨(⟨fun e=>(Nat.succ_ne_zero l) (h.len.symm.trans (congrArg List.length e)),h.len▸Zk (Nat.le_of_ble_eq_true hl) (by decide),h.ok⟩:ps≠[]∧ps.length < 1000∧Pt.oks P ps),Zwb h.deep,Zwb h.size⟩
theorem Pcw.many (h:Pcw P s n c k p):Pcw P s (n+1) c (k+1) (.many p):=⟨h.ok,Zwb h.deep,Zwb h.size⟩
theorem Pcw.nt (h:Pcw P s n c k p):Pcw P s (n+1) c (k+1) (.nt p):=⟨h.ok,Zwb h.deep,Zwb h.size⟩
theorem Pcw.any (h:1≤n):Pcw P s n 0 1 .any:=⟨trivial,h,Ztb ..⟩
theorem Pcw.up (h:Pcw P s n c k p):Pcw P s (n+1) c k p:=⟨h.ok,Zeb h.deep,h.size⟩
theorem Pcw.fin {m:Nat}(h:Pcw P s n c k p) (hc:Nat.ble c 2=true) (hk:Nat.ble k m=true):Yaz P n (2*s+m) p:=⟨h.ok,h.deep,Za h.size (Zcb (Zvb s (Nat.le_of_ble_eq_true hc)) (Nat.le_of_ble_eq_true hk))⟩
theorem Yaz.one (h:Yaz P n s p):Pcw P s n 1 0 p:=⟨h.1,h.2.1,(Nat.one_mul s).symm▸h.2.2⟩
theorem Yaz.lf (h:Yaz P 1 1 p) (hn:1≤n):Pcw P s n 0 1 p:=⟨h.1,Za h.2.1 hn,Za h.2.2 (Ztb ..)⟩
end
inductive Yqs (C:Pt→Prop):List Pt→Prop where
 | nil:Yqs C []
 | cons {p:Pt}{ps:List Pt}(h:C p) (t:Yqs C ps):Yqs C (p::ps)
theorem Yqs.get {C:Pt→Prop}{ps:List Pt}{d:Pt}(h:Yqs C ps) (hd:C d):∀ k,C (ps.getD k d):=h.rec (fun zz=>hd) fun h zz ih k=>k.rec h fun k zz=>ih k
noncomputable def Yh1 (p a b:Pt) (k:Nat):Pt:=[.many p,.nt p,.row [p,a],.row [a,p],.alt [p,a],.alt [a,p],.alt [p,.row []],.row [p,.nt a],.row [a,p,b],.alt [a,.row [p,b],b,p],.alt [b,a,p],.row [.many a,.nt b,.many b,p,.many a],.alt [.nt .any,a,b,p,a,.any]].getD k (.row [a,.many b,p,.many a,b,.nt a,.many p])
theorem Yaz.joined {P:Str→Prop}{n s:Nat}{p a b:Pt}(hn:1≤n) (hp:Yaz P n s p) (ha:Yaz P 1 1 a) (hb:Yaz P 1 1 b) (k:Nat):Yaz P (n+2) (2*s+10) (Yh1 p a b k) :=
 have p0:Pcw P s n 1 0 p:=hp.one
 have a0:Pcw P s n 0 1 a:=ha.lf hn
 have b0:Pcw P s n 0 1 b:=hb.lf hn
 have p1:=p0.up
 have a1:=a0.up
 have b1:=b0.up
 Yqs.get (.cons (p1.many.fin rfl rfl)<|.cons (p1.nt.fin rfl rfl)<|.cons (((Pcs.nil.cons a1).cons p1 |>.row rfl).fin rfl rfl)<|.cons (((Pcs.nil.cons p1).cons a1 |>.row rfl).fin rfl rfl)<|.cons (((Pcs.nil.cons a1).cons p1 |>.alt rfl).fin rfl rfl)<|.cons (((Pcs.nil.cons p1).cons a1 |>.alt rfl).fin rfl rfl)<|.cons (((Pcs.nil.cons (Pcs.nil.row rfl)).cons p1 |>.alt rfl).fin rfl rfl) <|
   .cons (((Pcs.nil.cons a0.nt).cons p1 |>.row rfl).fin rfl rfl)<|.cons ((((Pcs.nil.cons b1).cons p1).cons a1 |>.row rfl).fin rfl rfl)<|.cons (((((Pcs.nil.cons p1).cons b1).cons ((Pcs.nil.cons b0).cons p0 |>.row rfl)).cons a1 |>.alt rfl).fin rfl rfl)<|.cons ((((Pcs.nil.cons p1).cons a1).cons b1 |>.alt rfl).fin rfl rfl) <|
   .cons ((((((Pcs.nil.cons a0.many).cons p1).cons b0.many).cons b0.nt).cons a0.many |>.row rfl).fin rfl rfl)<|.cons (((((((Pcs.nil.cons (.any (Zeb hn))).cons a1).cons p1).cons b1).cons a1).cons (Pcw.any hn).nt |>.alt rfl).fin rfl rfl) .nil)
   (((((((((Pcs.nil.cons p0.many).cons a0.nt).cons b1).cons a0.many).cons p1).cons b0.many).cons a1 |>.row rfl).fin rfl rfl)) k
section
variable {P:Str→Prop}{n s:Nat}{p a b:Pt}
theorem Yaz.mono {n' s':Nat}(h:Yaz P n s p) (hn:n≤n') (hs:s≤s'):Yaz P n' s' p:=⟨h.1,Za h.2.1 hn,Za h.2.2 hs⟩
theorem Yaz.weak {R:Str→Prop}(h:Yaz P n s p) (hm:∀ x,P x→R x):Yaz R n s p:=⟨Pt.ok_mono hm _ h.1,h.2⟩
end
inductive Pt.sure:Pt→Prop where
 | sign {c:Nat}(h:Yak c=true):Pt.sure (.sign c)
 | span {a b:Nat}(h1:Yak a=true) (h2:Yak b=true) (h3:a≤b):Pt.sure (.span a b)
 | any:Pt.sure .any
theorem Pt.sure.pc {P:Str→Prop}{p:Pt}(h:p.sure):Yaz P 1 1 p:=h.rec (fun h=>⟨h,Zl _,Zl _⟩) (fun h1 h2 h3=>⟨⟨h1,h2,h3⟩,Zl _,Zl _⟩) ⟨trivial,Zl _,Zl _⟩
theorem Pt.sure.ah {p:Pt}(h:p.sure) {B:Str→Bool}{ps:List Pt}:(Pt.row (p::ps)).ahd B=[]:=h.rec (fun zz=>rfl) (fun zz zz zz=>rfl) rfl
noncomputable def Ykl (x h t:Pt) (k:Nat):Pt:=[.alt [.row [x,h],t],.alt [t,.row [x,h]],.row [x,h]].getD k t
noncomputable def Yln (p:Pt):Pt:=.row [.alt [.row [p]]]
theorem Yaz.rule {P R:Str→Prop}{s:Nat}{x h t:Pt}(hx:x.sure) (hh:Yaz P 7 s h) (ht:Yaz R 7 s t) (hm:∀ y,R y→P y) (k:Nat):Yaz P 9 (2*s+5) (Ykl x h t k)∧∀ B,∀ y∈(Ykl x h t k).ahd B,R y :=
 have t0:Pcw P s 8 1 0 t:=(ht.weak hm).one.up
 have r0:Pcw P s 8 1 2 (.row [x,h]):=((Pcs.nil.cons hh.one).cons (hx.pc.lf (by decide))).row rfl
 have t1:∀ B,∀ y∈t.ahd B,R y:=fun B=>Pt.ok_ahd B t ht.1
 have r1:∀ B,(Pt.row [x,h]).ahd B=[]:=fun B=>hx.ah
 have al:∀ {p q:Pt}(B:Str→Bool),(Pt.alt [p,q]).ahd B=p.ahd B++(q.ahd B++[]):=fun B=>rfl
 Yqs.get (C:=fun p=>Yaz P 9 (2*s+5) p∧∀ B,∀ y∈p.ahd B,R y) (.cons ⟨((Pcs.nil.cons t0).cons r0 |>.alt rfl).fin rfl rfl,fun B y hy=>by rw [al,r1,List.nil_append,Zlc] at hy; exact t1 B y hy⟩<|.cons ⟨((Pcs.nil.cons r0).cons t0 |>.alt rfl).fin rfl rfl,fun B y hy=>by rw [al,r1,List.nil_append,Zlc] at hy; exact t1 B y hy⟩ <|
   .cons ⟨r0.up.fin rfl rfl,fun B y hy=>by rw [r1] at hy; cases hy⟩ .nil) ⟨t0.up.fin rfl rfl,t1⟩ k
theorem Yaz.wrap {P R:Str→Prop}{s n:Nat}{p:Pt}(h:Yaz P n s p) (ha:∀ B,∀ y∈p.ahd B,R y):Yaz P (n+3) (s+3) (Yln p)∧∀ B,∀ y∈(Yln p).ahd B,R y :=
 have w:Pcw P s (n+3) 1 3 (Yln p):=(Pcs.nil.cons ((Pcs.nil.cons ((Pcs.nil.cons h.one).row rfl)).alt rfl)).row rfl
 ⟨⟨w.ok,w.deep,Nat.one_mul s▸w.size⟩,fun B y hy=>by
   simp [Yln,Pt.ahd2,Pt.ahd3,Pt.ahdAlt1,Pt.ahdAlt2,Pt.ahdRow1,Pt.ahdRow2] at hy; exact ha B y hy⟩
noncomputable def Yc4 (i:Int):Nat:=97+(i.fmod 26).toNat
noncomputable def Ya5 (c:Int) (n:Nat):List Nat:=(List.range n).map fun j:Nat=>Yc4 (c+5*(j:Int))
noncomputable def Ya8 (k:Nat):List Nat:=[97+k % 26,97+k / 26]
noncomputable def Ya2 (style cell:Int) (k:Nat):List Nat :=
 if style.fmod 4=0 then Ya8 k++Ya5 cell (cell.fmod 11).toNat
 else if style.fmod 4=1 then
   let al:=Ya5 style ((style.fdiv 4).fmod 11).toNat
   let i:=(((style*7).fmod 1009).fmod (al.length+1)).toNat
   al.take i++Ya8 k++al.drop i
 else if style.fmod 4=2 then (if k < 12 then List.replicate (k+1) (Yc4 (style.fdiv 4)) else Ya8 k++[122])
 else if k < 26 then [97+k] else Ya8 k
theorem Yty (i:Int) {n:Nat}(h:0 < (n:Int)):(i.fmod n).toNat < n:=(Int.toNat_lt (Int.fmod_nonneg_of_pos i h)).mpr (Int.fmod_lt_of_pos i h)
theorem Yqh (k m:Nat):(k:Int).fdiv m=((k / m:Nat):Int):=(Int.fdiv_eq_ediv_of_nonneg _ (Zvc m)).trans (Int.natCast_ediv k m).symm
theorem Ywb (k m:Nat):(k:Int).fmod m=((k % m:Nat):Int):=(Int.fmod_eq_emod_of_nonneg _ (Zvc m)).trans (Int.natCast_emod k m).symm
theorem Yfs (i:Int):97≤Yc4 i∧Yc4 i≤122:=⟨Zy ..,Zzb (Zjc (Yty i (n:=26) (by decide))) 97⟩
theorem Yi0 {C:List Nat→Prop}{style cell:Int}{k:Nat}(h0:∀ n,n≤10→C (Ya8 k++Ya5 cell n)) (h1:∀ n i,n≤10→C ((Ya5 style n).take i++Ya8 k++(Ya5 style n).drop i)) (h2:∀ i,k < 12→C (List.replicate (k+1) (Yc4 i))) (h3:C (Ya8 k++[122])) (h4:k < 26→C [97+k]) (h5:C (Ya8 k)):C (Ya2 style cell k):=by
 unfold Ya2
 by_cases e:style.fmod 4=0
 · rw [if_pos e]; exact h0 _ (Zjc (Yty cell (n:=11) (by decide)))
 rw [if_neg e]
 by_cases e:style.fmod 4=1
 · rw [if_pos e]; exact h1 _ _ (Zjc (Yty (style.fdiv 4) (n:=11) (by decide)))
 rw [if_neg e]
 by_cases e:style.fmod 4=2
 · rw [if_pos e]
   by_cases g:k < 12
   · rw [if_pos g]; exact h2 _ g
   · rw [if_neg g]; exact h3
 rw [if_neg e]
 by_cases g:k < 26
 · rw [if_pos g]; exact h4 g
 · rw [if_neg g]; exact h5
theorem Ya7 (c:Int) (n:Nat):(Ya5 c n).length=n:=(Zc _).trans List.length_range
theorem Yl0 (style cell:Int) {k:Nat}(_hk:k < 40):1≤(Ya2 style cell k).length∧(Ya2 style cell k).length≤12 :=
 Yi0 (C:=fun l=>1≤l.length∧l.length≤12) (fun n h=>by rw [Zf,Ya7]; exact ⟨Za (by decide) (Zy 2 n),Zzb h 2⟩)
   (fun n i h=>by rw [Ze,Zf,Zf,Nat.add_left_comm,← Zf,List.take_append_drop,Ya7]; exact ⟨Za (by decide) (Zy 2 n),Zzb h 2⟩)
   (fun i h=>by rw [List.length_replicate]; exact ⟨Zwb (Zkb k),h⟩) (show 1≤3∧3≤12 by decide) (fun zz=>show 1≤1∧1≤12 by decide) (show 1≤2∧2≤12 by decide)
theorem Ymo {k:Nat}(hk:k < 40):∀ c∈Ya8 k,97≤c∧c≤122:=List.forall_mem_cons.mpr ⟨⟨Zy ..,Zzb (Zjc (Nat.mod_lt k (by decide:26 > 0))) 97⟩,List.forall_mem_cons.mpr ⟨⟨Zy ..,Zzb (Za (Nat.div_le_div_right (Zq hk)) (by decide:40 / 26≤25)) 97⟩,(by intros; contradiction)⟩⟩
theorem Ygh (style cell:Int) {k:Nat}(hk:k < 40):∀ c∈Ya2 style cell k,97≤c∧c≤122:=by
 have hs:=Ymo hk
 have ht:∀ (x:Int) (n:Nat),∀ c∈Ya5 x n,97≤c∧c≤122:=fun x n c hc=>Zh (Zsb.mp hc) fun j h=>h.2▸Yfs _
 have ap:∀ {a b:List Nat},(∀ c∈a,97≤c∧c≤122)→(∀ c∈b,97≤c∧c≤122)→∀ c∈a++b,97≤c∧c≤122:=fun h g c hc=>(Zm.mp hc).elim (h c) (g c)
 exact Yi0 (C:=fun l=>∀ c∈l,97≤c∧c≤122) (fun n zz=>ap hs (ht _ _)) (fun n i zz=>ap (ap (fun c h=>ht _ _ c (List.mem_of_mem_take h)) hs) fun c h=>ht _ _ c (List.mem_of_mem_drop h)) (fun i zz c hc=>(List.mem_replicate.mp hc).2▸Yfs _) (ap hs fun c h=>Zj.mp h▸(by decide:97≤122∧122≤122))
   (fun g c h=>Zj.mp h▸⟨Zy ..,Zzb (Zjc g) 97⟩) hs
theorem Yc1 {k k':Nat}(h:Ya8 k=Ya8 k'):k=k':=by
 have h1:97+k % 26=97+k' % 26:=congrArg (·.headD 0) h
 have h2:97+k / 26=97+k' / 26:=congrArg (·.tail.headD 0) h
 rw [← Nat.div_add_mod k 26,Nat.add_left_cancel h1,Nat.add_left_cancel h2,Nat.div_add_mod]
theorem Yl5 {style c c':Int}{k k':Nat}(hk:k < 40) (hk':k' < 40) (h:Ya2 style c k=Ya2 style c' k'):k=k':=by
 unfold Ya2 at h
 by_cases e:style.fmod 4=0
 · rw [if_pos e,if_pos e] at h; exact Yc1 (List.append_inj h rfl).1
 rw [if_neg e,if_neg e] at h
 by_cases e:style.fmod 4=1
 · rw [if_pos e,if_pos e] at h
   rw [Ze,Ze] at h
   exact Yc1 (List.append_inj (List.append_cancel_left h) rfl).1
 rw [if_neg e,if_neg e] at h
 have two:∀ {k:Nat}{x:Nat},List.replicate 3 x=Ya8 k++[122]→k < 40→False:=fun {k x} h hk=>by
   have h1:x=97+k / 26:=congrArg (·.tail.headD 0) h
   have h2:x=122:=congrArg (·.tail.tail.headD 0) h
   have h3:97+k / 26≤97+1:=Zzb (Za (Nat.div_le_div_right (Zq hk)) (by decide:40 / 26≤1)) 97
   rw [← h1,h2] at h3; exact absurd h3 (by decide)
 by_cases e:style.fmod 4=2
 · rw [if_pos e,if_pos e] at h
   by_cases g:k < 12 <;> by_cases g':k' < 12
   · rw [if_pos g,if_pos g'] at h
     have h:=congrArg List.length h
     rw [List.length_replicate,List.length_replicate] at h; exact Nat.succ.inj h
   · rw [if_pos g,if_neg g'] at h
     have l:=congrArg List.length h
     rw [List.length_replicate] at l
     have l:k=2:=Nat.succ.inj l
     rw [l] at h; exact (two h hk').elim
   · rw [if_neg g,if_pos g'] at h
     have l:=congrArg List.length h
     rw [List.length_replicate] at l
     have l:k'=2:=(Nat.succ.inj l).symm
     rw [l] at h; exact (two h.symm hk).elim
   · rw [if_neg g,if_neg g'] at h; exact Yc1 (List.append_inj h rfl).1
 · rw [if_neg e,if_neg e] at h
   by_cases g:k < 26 <;> by_cases g':k' < 26
   · rw [if_pos g,if_pos g'] at h; exact Nat.add_left_cancel (congrArg (·.headD 0) h)
   · rw [if_pos g,if_neg g'] at h; exact absurd (congrArg List.length h) (by decide:¬ 1=2)
   · rw [if_neg g,if_pos g'] at h; exact absurd (congrArg List.length h) (by decide:¬ 2=1)
   · rw [if_neg g,if_neg g'] at h; exact Yc1 h
end
section
section
variable {p:Pt}{B:Str→Bool}
noncomputable def Ylw (B:Str→Bool) (row:Bool):List Pt→List Str
 | []=>[]
 | p::r=>p.ahd B++if row && !p.may B then [] else Ylw B row r
theorem Yip (B:Str→Bool) (row:Bool):Ylw B row []=[]:=rfl
theorem Ynd (B:Str→Bool) (row:Bool) (p:Pt) (r:List Pt):Ylw B row (p::r)=Pt.ahd B p++if (row && !Pt.may B p)=true then [] else Ylw B row r:=rfl
theorem Yqr:∀ ps:List Pt,Pt.ahdRow B ps=Ylw B true ps:=by
 intro xx
 induction xx with
 | nil =>
   simp [Pt.ahdRow1,Yip]
 | cons p r ih =>
   rw [Pt.ahdRow2,Ynd,ih]
   cases p.may B <;> simp
theorem Yrt:∀ ps:List Pt,Pt.ahdAlt B ps=Ylw B false ps:=by
 intro xx
 induction xx with
 | nil =>
   simp [Pt.ahdAlt1,Yip]
 | cons p r ih =>
   rw [Pt.ahdAlt2,Ynd,ih]; simp
theorem Pt.ahd_kids (h:p.word ≠ "rule"):p.ahd B=Ylw B (p.word == "row") p.kids:=by
 have e1:((Str.ofString "row" : Str) == "row")=true:=by decide +kernel
 have e2:((Str.ofString "or" : Str) == "row")=false:=by decide +kernel
 have e3:((Str.ofString "many" : Str) == "row")=false:=by decide +kernel
 have e4:((Str.ofString "not" : Str) == "row")=false:=by decide +kernel
 cases p with
 | rule n=>exact absurd rfl h
 | row ps=>simp only [Pt.ahd2,Pt.kids1,Pt.word5,e1,Yqr]
 | alt ps=>simp only [Pt.ahd3,Pt.kids2,Pt.word6,e2,Yrt]
 | many q=>simp only [Pt.ahd4,Pt.kids3,Pt.word7,e3,Yip,Ynd]; simp
 | nt q=>simp only [Pt.ahd5,Pt.kids4,Pt.word8,e4,Yip,Ynd]; simp
 | sign z1=>simp only [Pt.ahd6,Pt.kids5,Yip]
 | span z1 z2=>simp only [Pt.ahd7,Pt.kids6,Yip]
 | any=>simp only [Pt.ahd8,Pt.kids7,Yip]
end
theorem Yp2 {α:Type}(f:α→Bool) (l:List α):(l.map fun k=>V.bool (f k))=(l.map f).map V.bool:=List.map_map.symm
theorem Pt.size_mem {p q:Pt}(h:q∈p.kids):q.size < p.size:=by
 have h1:=Pt.kids_size p
 have:∀ ps:List Pt,q∈ps→q.size≤Pt.sizes ps:=by
   intro ps
   induction ps with
   | nil=>intro h; cases h
   | cons a r ih =>
     intro h
     rw [Pt.sizes2]
     rcases Zg.mp h with rfl | h
     · (clear h1 ih; exact Zy q.size (sizes r))
     · have:=ih h; (clear ih h1; lia)
 have:=this _ h
 lia
noncomputable def Ygf (kvs:List (Str×V)) (x:Str):Bool:=kvs.any fun kv=>decide (kv.1=x)
theorem Ykz {bs:List Str}:Ygf (Ydi bs)=inB bs:=by
 funext x; exact Yfy
section
variable {σ:Hp}{a b:Nat}{o o':Yas}{junk:Hp}
theorem Ya1 {α:Type}{P:α→Prop}{a b:α}(e:a=b) (h:P b):P a:=e▸h
theorem Yab (h:σ[a]?=some o):(σ++junk)[a]?=some o:=by
 rw [Zbb (Zb.mp h).1]; exact h
theorem Ygo (h:σ[a]?=some o):a < σ.length:=(Zb.mp h).1
theorem Yhn (h:σ[a]?=some o):(σ.set a o')[a]?=some o':=by
 rw [Zw (Ygo h)]
theorem Ybf (hn:b≠a):(σ.set b o')[a]?=σ[a]?:=Zi hn
theorem Yae:(σ++[o])[σ.length]?=some o:=by simp
theorem Yss (h:σ.length≤a):∃ jk,(σ++junk).set a o=σ++jk:=⟨_,List.set_append_right _ _ h⟩
end
end
section
mutual
theorem Pt.ahd_asks {B:Str→Bool}{n:Str}:∀ p:Pt,n∈p.ahd B→p.Asks n
 | .sign _,h | .span _ _,h | .any,h=>by simp [Pt.ahd6,Pt.ahd7,Pt.ahd8] at h
 | .rule m,h=>by simp only [Pt.ahd1,Zj] at h; subst h; exact .here
 | .row ps,h=>by
   simp only [Pt.ahd2] at h
   obtain ⟨q,hq,ha⟩:=Pt.ahdRow_asks ps h
   exact .deep (p:=.row ps) hq ha
 | .alt ps,h=>by
   simp only [Pt.ahd3] at h
   obtain ⟨q,hq,ha⟩:=Pt.ahdAlt_asks ps h
   exact .deep (p:=.alt ps) hq ha
 | .many p,h=>by simp only [Pt.ahd4] at h; exact .deep (p:=.many p) (Zj.mpr rfl) (Pt.ahd_asks p h)
 | .nt p,h=>by simp only [Pt.ahd5] at h; exact .deep (p:=.nt p) (Zj.mpr rfl) (Pt.ahd_asks p h)
theorem Pt.ahdRow_asks {B:Str→Bool}{n:Str}:∀ ps:List Pt,n∈Pt.ahdRow B ps→∃ q∈ps,q.Asks n
 | [],h=>by simp [Pt.ahdRow1] at h
 | p::r,h=>by
   simp only [Pt.ahdRow2,Zm] at h
   rcases h with h | h
   · exact ⟨p,by simp,Pt.ahd_asks p h⟩
   · split at h
     · obtain ⟨q,hq,ha⟩:=Pt.ahdRow_asks r h
       exact ⟨q,Zd _ hq,ha⟩
     · cases h
theorem Pt.ahdAlt_asks {B:Str→Bool}{n:Str}:∀ ps:List Pt,n∈Pt.ahdAlt B ps→∃ q∈ps,q.Asks n
 | [],h=>by simp [Pt.ahdAlt1] at h
 | p::r,h=>by
   simp only [Pt.ahdAlt2,Zm] at h
   rcases h with h | h
   · exact ⟨p,by simp,Pt.ahd_asks p h⟩
   · obtain ⟨q,hq,ha⟩:=Pt.ahdAlt_asks r h
     exact ⟨q,Zd _ hq,ha⟩
end
noncomputable def Yhq (kvs:List (Str×V)) (x:Str):Option V:=(kvs.find? fun kv=>decide (kv.1=x)).map (·.2)
theorem Yde:∀ (kvs:List (Str×V)) (x:Str),Yhq kvs x=kvs.lookup x
 | [],z1=>rfl
 | (k,v)::r,x=>by
   unfold Yhq
   rw [List.find?_cons,List.lookup_cons]
   by_cases e:k=x
   · subst e; simp
   · have e2:¬ x=k:=fun q=>e q.symm
     simp only [e,decide_false,Zmc.mpr e2]
     exact Yde r x
theorem Yia (kvs:List (Str×V)) (k x:Str) (v:V):Yhq (Yca kvs k v) x=if x=k then some v else Yhq kvs x:=by
 rw [Yde,Yde,Ye5]
noncomputable def Yb3 (rs:List (Str×Pt)):List (Str×V):=rs.map fun r=>(r.1,r.2.v)
theorem Yif {rs:List (Str×Pt)}{n:Str}:((Yb3 rs).any fun kv=>decide (kv.1=n))=decide (n∈rs.map (·.1)):=by
 rw [Bool.eq_iff_iff]; simp [Yb3]
theorem Yij {rs:List (Str×Pt)}{r:Str×Pt}(h:r.1∉rs.map (·.1)):Yca (Yb3 rs) r.1 r.2.v=Yb3 (rs++[r]):=by
 unfold Yca; rw [Yif,if_neg (by simpa using h)]; simp [Yb3]
theorem Yh6 {rs:List (Str×Pt)}(hn:(rs.map (·.1)).Nodup) {r:Str×Pt}(hr:r∈rs):Yhq (Yb3 rs) r.1=some r.2.v:=by
 induction rs with
 | nil=>cases hr
 | cons a t ih =>
   rw [List.map_cons,Zxc] at hn
   unfold Yhq Yb3
   rw [List.map_cons,List.find?_cons]
   rcases Zg.mp hr with rfl | hr
   · simp
   · have:¬ a.1=r.1:=fun e=>hn.1 (e▸Zsb.mpr ⟨r,hr,rfl⟩)
     simp only [this,decide_false]
     exact ih hn.2 hr
noncomputable def Ycw (rs:List (Str×Pt)) (B:Str→Bool) (kl:List (Str×V)) (lo:Nat) (σ:Hp):Prop:=∀ r∈rs,∃ j,lo < j∧Yhq kl r.1=some (.ref j)∧σ[j]?=some (.list ((r.2.ahd B).map V.str))
theorem Ycw.up {rs:List (Str×Pt)}{B:Str→Bool}{kl:List (Str×V)}{lo:Nat}{σ junk:Hp}(h:Ycw rs B kl lo σ):Ycw rs B kl lo (σ++junk):=fun r hr=>by
 obtain ⟨j,h0,h1,h2⟩:=h r hr
 exact ⟨j,h0,h1,Yab h2⟩
inductive Yrd (rs:List (Str×Pt)) (bs:List Str) (g:Nat) (σ:Hp):Prop where
 | mk (a b c e:Nat) (kl:List (Str×V)) (h0:g < a) (h1:a < b) (h2:b < c) (h3:c < e) (h4:σ[g]?=some (.inst "Grammar" [("pairs",.ref a),("table",.ref b),("bare",.ref c),("leads",.ref e)])) (h5:σ[a]?=some (.list (rs.map Ybn))) (h6:σ[b]?=some (.sdict (Yb3 rs))) (h7:σ[c]?=some (.sdict (Ydi bs))) (h8:σ[e]?=some (.sdict kl)) (h9:Ycw rs (inB bs) kl g σ):Yrd rs bs g σ
theorem Yrd.up {rs:List (Str×Pt)}{bs:List Str}{g:Nat}{σ junk:Hp}(h:Yrd rs bs g σ):Yrd rs bs g (σ++junk):=by
 obtain ⟨a,b,c,e,kl,h1,h2,h3,h4,h5,h6,h7,h8,h9,h10⟩:=h
 exact ⟨a,b,c,e,kl,h1,h2,h3,h4,Yab h5,Yab h6,Yab h7,Yab h8,Yab h9,h10.up⟩
structure Yrl (rs:List (Str×Pt)) (B:Str→Bool) (x:Str) (ms ws:List Str):Prop where
 nodup:ms.Nodup
 mr:∀ y∈ms,Rch rs B x y
 wr:∀ y∈ws,Rch rs B x y
 x0:∀ y,Yqi rs B x y→y∈ms∨y∈ws
 cl:∀ y∈ms,∀ z,Yqi rs B y z→z∈ms∨z∈ws
theorem Yrl.end {rs:List (Str×Pt)}{B:Str→Bool}{x:Str}{ms:List Str}(h:Yrl rs B x ms []):decide (x∈ms)=true↔Rch rs B x x:=by
 rw [decide_eq_true_iff]
 refine ⟨h.mr x,fun hr=>?_⟩
 have:∀ y,Rch rs B x y→y∈ms:=by
   intro y hy
   induction hy with
   | one h1=>exact (h.x0 _ h1).resolve_right (by simp)
   | more z1 h1 ih=>exact (h.cl _ ih _ h1).resolve_right (by simp)
 exact this x hr
theorem Yrl.old {rs:List (Str×Pt)}{B:Str→Bool}{x y:Str}{ms ws:List Str}(h:Yrl rs B x ms (ws++[y])) (hy:y∈ms):Yrl rs B x ms ws where
 nodup:=h.nodup
 mr:=h.mr
 wr:=fun z hz=>h.wr z (Zxb _ hz)
 x0:=fun z hz=>by
   rcases h.x0 z hz with g | g
   · exact .inl g
   · rcases Zm.mp g with g | g
     · exact .inr g
     · cases Zj.mp g; exact .inl hy
 cl:=fun a ha z hz=>by
   rcases h.cl a ha z hz with g | g
   · exact .inl g
   · rcases Zm.mp g with g | g
     · exact .inr g
     · cases Zj.mp g; exact .inl hy
theorem Yqi.uniq {rs:List (Str×Pt)}{B:Str→Bool}(hn:(rs.map (·.1)).Nodup) {r:Str×Pt}(hr:r∈rs) {z:Str}(h:Yqi rs B r.1 z):z∈r.2.ahd B:=by
 obtain ⟨r',hr',e,hz⟩:=h
 obtain ⟨i,hi⟩:=List.mem_iff_getElem?.mp hr
 obtain ⟨j,hj⟩:=List.mem_iff_getElem?.mp hr'
 have:=Yjy hn hi hj e.symm
 subst this
 rw [hi] at hj; cases hj; exact hz
theorem Yrl.new {rs:List (Str×Pt)}{B:Str→Bool}{x:Str}{ms ws:List Str}{r:Str×Pt}(hn:(rs.map (·.1)).Nodup) (hr:r∈rs) (h:Yrl rs B x ms (ws++[r.1])) (hy:r.1∉ms):Yrl rs B x (ms++[r.1]) (ws++r.2.ahd B) where
 nodup:=by
   rw [List.nodup_append]
   exact ⟨h.nodup,by simp,fun a ha b hb=>by cases Zj.mp hb; exact fun e=>hy (e▸ha)⟩
 mr:=fun z hz=>by
   rcases Zm.mp hz with g | g
   · exact h.mr z g
   · cases Zj.mp g; exact h.wr _ (by simp)
 wr:=fun z hz=>by
   rcases Zm.mp hz with g | g
   · exact h.wr z (Zxb _ g)
   · exact .more (h.wr r.1 (by simp)) ⟨r,hr,rfl,g⟩
 x0:=fun z hz=>by
   rcases h.x0 z hz with g | g
   · exact .inl (Zxb _ g)
   · rcases Zm.mp g with g | g
     · exact .inr (Zxb _ g)
     · exact .inl (Zyb _ g)
 cl:=fun a ha z hz=>by
   rcases Zm.mp ha with g | g
   · rcases h.cl a g z hz with g | g
     · exact .inl (Zxb _ g)
     · rcases Zm.mp g with g | g
       · exact .inr (Zxb _ g)
       · exact .inl (Zyb _ g)
   · cases Zj.mp g
     exact .inr (Zyb _ (Yqi.uniq hn hr hz))
theorem Rch.last {rs:List (Str×Pt)}{B:Str→Bool}{x y:Str}(h:Rch rs B x y):∃ r∈rs,y∈r.2.ahd B:=by
 cases h with
 | one h=>obtain ⟨r,h1,zz,h2⟩:=h; exact ⟨r,h1,h2⟩
 | more z1 h=>obtain ⟨r,h1,zz,h2⟩:=h; exact ⟨r,h1,h2⟩
theorem Yan.lead {rs:List (Str×Pt)}(hg:Yan rs) {B:Str→Bool}{x y:Str}(h:Rch rs B x y):∃ r∈rs,r.1=y:=by
 obtain ⟨r,h1,h2⟩:=h.last
 have:=(hg.all r h1).asks y (Pt.ahd_asks _ h2)
 obtain ⟨r',h3,h4⟩:=Zsb.mp this
 exact ⟨r',h3,h4⟩
theorem Yhe {α:Type}[BEq α] [LawfulBEq α] {ms ns:List α}(h:ms.Nodup) (hs:∀ x∈ms,x∈ns):ms.length≤ns.length:=by
 induction ms generalizing ns with
 | nil=>simp
 | cons a r ih =>
   rw [Zxc] at h
   have ha:=hs a (by simp)
   have:=ih (ns:=ns.erase a) h.2 fun x hx=>by
     have hne:x≠a:=fun e=>h.1 (e▸hx)
     exact (List.mem_erase_of_ne hne).mpr (hs x (Zd _ hx))
   rw [List.length_erase_of_mem ha] at this
   have:=List.length_pos_of_mem ha
   simp only [List.length_cons]
   (clear ih; lia)
end
section
structure Mk (σ:Hp) (l:Nat) (fs:List (Str×V)) (ρ':Loc) (σ':Hp):Prop where
 self:ρ' "self" = some (.ref σ.length)
 ru:ρ' "rules" = some (.ref l)
 pre:∃ junk,σ'=σ++junk
 obj:σ'[σ.length]?=some (.inst "Grammar" fs)
section
variable {σ σ':Hp}{l:Nat}{fs fs':List (Str×V)}{ρ':Loc}{o o':Yas}{a:Nat}
theorem Mk.up {jk:Hp}(h:Mk σ l fs ρ' σ'):Mk σ l fs ρ' (σ'++jk):=by
 obtain ⟨h1,h2,⟨junk,rfl⟩,h4⟩:=h
 exact ⟨h1,h2,⟨junk++jk,by rw [Ze]⟩,Yab h4⟩
theorem Mk.put (h:Mk σ l fs ρ' σ') (ha:σ.length < a):Mk σ l fs ρ' (σ'.set a o):=by
 obtain ⟨h1,h2,⟨junk,rfl⟩,h4⟩:=h
 exact ⟨h1,h2,Yss (by (clear h4; exact Zq ha)),by rw [Ybf (by (clear h4; exact Zoc ha))]; exact h4⟩
theorem Mk.field (h:Mk σ l fs ρ' σ'):Mk σ l fs' ρ' ((σ'++[o]).set σ.length (.inst "Grammar" fs'))∧((σ'++[o]).set σ.length (.inst "Grammar" fs'))[σ'.length]?=some o∧σ.length < σ'.length∧∀ a o',a≠σ.length→σ'[a]?=some o'→((σ'++[o]).set σ.length (.inst "Grammar" fs'))[a]?=some o':=by
 obtain ⟨h1,h2,⟨junk,rfl⟩,h4⟩:=h
 have hlt:=Ygo h4
 refine ⟨⟨h1,h2,?_,Yhn (Yab h4)⟩,?_,hlt,fun a o' hn e=>?_⟩
 · rw [Ze]; exact Yss (Zl _)
 · rw [Ybf (by (clear h4; exact Znc hlt))]; exact Yae
 · rw [Ybf (Ne.symm hn)]; exact Yab e
theorem Mk.rules {rs:List (Str×Pt)}(h:Mk σ l fs ρ' σ') (hl:σ[l]?=some (.list (rs.map Ybn))):σ'[l]?=some (.list (rs.map Ybn)):=by
 obtain ⟨h1,h2,⟨junk,rfl⟩,h4⟩:=h
 exact Yab hl
end
structure Ynm (rs:List (Str×Pt)) (bs:List Str):Prop where
 nodup:bs.Nodup
 sub:∀ x∈bs,x∈rs.map (·.1)
 least:∀ S:Str→Bool,(∀ r∈rs,r.2.may S=true→S r.1=true)→∀ x∈bs,S x=true
theorem Ynm.nil (rs:List (Str×Pt)):Ynm rs []:=⟨by simp,by simp,fun zz zz zz h=>by cases h⟩
theorem Ynm.len {rs:List (Str×Pt)}{bs:List Str}(h:Ynm rs bs):bs.length≤rs.length:=by
 simpa using Yhe h.nodup h.sub
theorem Ynm.add {rs:List (Str×Pt)}{bs:List Str}{r:Str×Pt}(h:Ynm rs bs) (hr:r∈rs) (hn:r.1∉bs) (hm:r.2.may (inB bs)=true):Ynm rs (bs++[r.1]) where
 nodup:=by
   rw [List.nodup_append]
   exact ⟨h.nodup,by simp,fun a ha b hb=>by cases Zj.mp hb; exact fun e=>hn (e▸ha)⟩
 sub:=fun x hx=>by
   rcases Zm.mp hx with g | g
   · exact h.sub x g
   · cases Zj.mp g; exact Zsb.mpr ⟨r,hr,rfl⟩
 least:=fun S hS x hx=>by
   rcases Zm.mp hx with g | g
   · exact h.least S hS x g
   · cases Zj.mp g
     exact hS r hr (Pt.may_mono (fun y hy=>h.least S hS y (Yew.mp hy)) _ hm)
theorem Ynm.bare {rs:List (Str×Pt)}{bs:List Str}(h:Ynm rs bs) (hc:∀ r∈rs,r.2.may (inB bs)=true→r.1∈bs):Yym rs bs:=⟨h.sub,hc,h.least⟩
theorem Ycw.snoc {rs:List (Str×Pt)}{B:Str→Bool}{kl:List (Str×V)}{σ σ':Hp}{r:Str×Pt}{j lo:Nat}(h:Ycw rs B kl lo σ) (hn:r.1∉rs.map (·.1)) (hk:∀ (a:Nat) (vs:List V),σ[a]?=some (.list vs)→σ'[a]?=some (.list vs)) (hlo:lo < j) (hj:σ'[j]?=some (.list ((r.2.ahd B).map V.str))):Ycw (rs++[r]) B (Yca kl r.1 (.ref j)) lo σ':=fun r' hr'=>by
 rcases Zm.mp hr' with g | g
 · obtain ⟨i,h0,h1,h2⟩:=h r' g
   refine ⟨i,h0,?_,hk _ _ h2⟩
   rw [Yia,if_neg (fun e:r'.1=r.1=>hn (e▸Zsb.mpr ⟨r',g,rfl⟩))]
   exact h1
 · cases Zj.mp g
   exact ⟨j,hlo,by rw [Yia,if_pos rfl],hj⟩
end
section
open PySem PySem.Calls PyProof.Rows PySem.SeqAt PySem.Builtin PySem.Builtin.Str
noncomputable def S (l:List Nat):Str:=⟨l.toArray⟩
theorem Yp7 (a b:List Nat):S a++S b=S (a++b):=by
 show (⟨a.toArray++b.toArray⟩:Str)=⟨(a++b).toArray⟩
 rw [List.append_toArray]
theorem Ya6 (a:List Nat):(S a).length=a.length:=by simp [S,Str.length]
theorem Yxw {a b:List Nat}(h:S a=S b):a=b:=by
 simpa [S] using h
theorem Ywz:∀ l:List Nat,Txt.join (S []) (l.map fun c=>S [c])=S l:=by
 intro l
 show glued _ _=_
 rw [StrLaws.glued_eq_join]
 induction l with
 | nil=>rfl
 | cons a r ih =>
   cases r with
   | nil=>rfl
   | cons b t =>
     show S [a]++S []++Str.join (S []) ((b::t).map fun c=>S [c])=_
     rw [ih,Yp7,Yp7]; rfl
theorem Yk7 {l:List Nat}{lo hi:Option Int}{a b:Nat}(e:strSliceIndices lo hi 1 (S l).length=strSliceIndices (some (a:Int)) (some (b:Int)) 1 (S l).length) (hab:a≤b) (hb:b≤l.length):Txt.slice (S l) lo hi=S ((l.drop a).take (b - a)):=by
 unfold Txt.slice
 rw [e]
 by_cases hq:((1:Int) == 1 && (strSliceIndices (some (a:Int)) (some (b:Int)) 1 (S l).length).length == (S l).length)=true
 · rw [if_pos hq]
   have hq:=eq_of_beq (Bool.and_eq_true_iff.mp hq).2
   rw [StrLaws.strSliceIndices_plain (len:=(S l).length) hab hb,Zc,List.length_range] at hq
   rw [((List.take_sublist (b - a) (l.drop a)).trans (List.drop_sublist a l)).eq_of_length (by rw [List.length_take,List.length_drop,Nat.min_eq_left (Nat.sub_le_sub_right hb a)]; exact hq)]
 · rw [if_neg hq]; exact congrArg S (StrLaws.sliced_plain (S l) hab hb)
theorem Ymh {l:List Nat}{i:Nat}(h:i≤l.length):Txt.slice (S l) none (some (i:Int))=S (l.take i) :=
 Yk7 (a:=0) (b:=i) (by
   have e:max (0:Int) (min 0 ((S l).length:Int))=0:=by rw [Int.min_eq_left (Zvc _)]; rfl
   show sliceRange 0 _ 1=sliceRange (max (0:Int) (min 0 ((S l).length:Int))) _ 1
   rw [e]) (Zkb i) h
theorem Yja {l:List Nat}{i:Nat}(h:i≤l.length):Txt.slice (S l) (some (i:Int)) none=S (l.drop i):=by
 have e:max (0:Int) (min ((S l).length:Int) ((S l).length:Int))=(S l).length:=by rw [Int.min_self]; exact Int.max_eq_right (Zvc _)
 have g:¬ (((S l).length:Int) < 0):=Int.not_lt.mpr (Zvc _)
 have:=Yk7 (l:=l) (lo:=some (i:Int)) (hi:=none) (a:=i) (b:=(S l).length) (by
   show sliceRange _ ((S l).length:Int) 1=sliceRange _ (max (0:Int) (min (if ((S l).length:Int) < 0 then _ else ((S l).length:Int)) ((S l).length:Int))) 1
   rw [if_neg g,e]) h (Zl _)
 exact this.trans (congrArg S (List.take_of_length_le (Zr List.length_drop)))
theorem Yji:∀ (n c:Nat) (acc:List Nat),(List.replicate n #[c]).foldl (· ++ ·) acc.toArray=(acc++List.replicate n c).toArray
 | 0,c,acc=>by simp
 | n+1,c,acc=>by
   rw [List.replicate_succ,List.foldl_cons]
   have:acc.toArray ++ #[c]=(acc++[c]).toArray:=by simp
   rw [this,Yji n c (acc++[c])]
   simp [List.replicate_succ]
theorem Yxs (c n:Nat):Txt.mul (S [c]) ((n:Int)+1)=S (List.replicate (n+1) c):=by
 unfold Txt.mul
 rw [if_neg (by lia)]
 split
 · rename_i h
   simp [Ya6] at h
   have:n=0:=by lia
   subst this; rfl
 · have e:((n:Int)+1).toNat=n+1:=rfl
   rw [e]
   have:=Yji (n+1) c []
   show (⟨(List.replicate (n+1) #[c]).foldl (· ++ ·) #[]⟩:Str)=S _
   rw [this]; simp [S]
theorem Yqj {style cell:Int}{k:Nat}(hk:k < 40):Yen (S (Ya2 style cell k))=true:=by
 have h:=Yl0 style cell hk
 have h2:=Ygh style cell hk
 simp only [Yen,Zob,decide_eq_true_eq,Ya6,List.all_eq_true]
 refine ⟨h,fun c hc=>?_⟩
 have:=h2 c (by simpa [S] using hc)
 simp [Ydq]; exact this
theorem Yjt {a b c:Nat}{bs:List Str}(ha:Yak a=true) (hb:Yak b=true) (hc:Yak c=true) (hp:bs.Perm [S [a],S [b],S [c]]) (hs:sortedS bs=true):∃ x y z,bs=[S [x],S [y],S [z]]∧Yak x=true∧Yak y=true∧Yak z=true∧x≤y∧y≤z:=by
 have K:∀ r∈bs,∃ x,r=S [x]∧Yak x=true:=fun r hr=>(List.forall_mem_cons.mpr ⟨⟨a,rfl,ha⟩,List.forall_mem_cons.mpr ⟨⟨b,rfl,hb⟩,List.forall_mem_cons.mpr ⟨⟨c,rfl,hc⟩,(by intros; contradiction)⟩⟩⟩:∀ r∈[S [a],S [b],S [c]],∃ x,r=S [x]∧Yak x=true) r (hp.mem_iff.mp hr)
 refine ex3 (Yzc hp.length_eq) fun u v t e=>?_
 clear hp
 rw [e] at K hs
 refine (K u (.head _)).elim fun x hx=>(K v (.tail _ (.head _))).elim fun y hy=>(K t (.tail _ (.tail _ (.head _)))).elim fun z hz=>?_
 refine ⟨x,y,z,e.trans (by rw [hx.1,hy.1,hz.1]),hx.2,hy.2,hz.2,?_⟩
 rw [hx.1,hy.1,hz.1] at hs
 clear K hx hy hz e
 simp [sortedS,risingS,S,PySem.Spec.ltCps] at hs
 lia
end
section
noncomputable def sOk (n:Str):Prop:=PyData.strOk n=true
theorem Yp5 {n:Str}(h:Yen n=true):sOk n:=by
 simp only [Yen,Zob,List.all_eq_true] at h
 unfold sOk PyData.strOk
 rw [Array.all_eq_true_iff_forall_mem]
 intro c hc
 have:=h.2 c (by simpa using hc)
 simp only [Ydq,Zob,decide_eq_true_eq] at this
 simp; (clear hc h; lia)
theorem Pt.oks_of {P:Str→Prop}:∀ ps:List Pt,(∀ q∈ps,q.ok P)→Pt.oks P ps
 | [],z1=>by simp [Pt.oks1]
 | p::r,h=>by rw [Pt.oks2]; exact ⟨h p (by simp),Pt.oks_of r fun q hq=>h q (Zd _ hq)⟩
theorem Pt.ok_of {P:Str→Prop}:∀ (n:Nat) (p:Pt),p.deep≤n→p.good=true→Pt.All Pt.few p→(∀ m,p.Asks m→P m)→p.ok P:=by
 intro n
 induction n with
 | zero=>intro p hn; exact absurd (Pt.deep_pos p) (by lia)
 | succ n ih =>
   intro p hn hg hf ha
   obtain ⟨hfk,hfc⟩:=hf
   have kids:(∀ q∈p.kids,q.good=true)→∀ q∈p.kids,q.ok P:=fun hgk q hq=>ih q (by have:=Pt.kids_deep hq; (clear ih; lia)) (hgk q hq) (hfc q hq) fun m hm=>ha m (.deep hq hm)
   cases p with
   | sign c=>simpa only [Pt.ok1,Pt.ok2,Pt.ok3,Pt.ok4,Pt.ok5,Pt.ok6,Pt.ok7,Pt.ok8,Pt.good1,Pt.good2,Pt.good3,Pt.good4,Pt.good5,Pt.good6,Pt.good7,Pt.good8] using hg
   | span a b =>
     simp only [Pt.good2,Zob,decide_eq_true_eq] at hg
     rw [Pt.ok2]; exact ⟨hg.1.1,hg.1.2,hg.2⟩
   | any=>simp [Pt.ok3]
   | rule m=>rw [Pt.ok4]; exact ha m .here
   | row ps=>rw [Pt.ok5]; rw [Pt.good5] at hg; exact ⟨hfk,Pt.oks_of ps (kids fun q hq=>Pt.goods_mem hg hq)⟩
   | alt ps =>
     rw [Pt.good6,Zob] at hg
     rw [Pt.ok6]; exact ⟨by simpa using hg.1,hfk,Pt.oks_of ps (kids fun q hq=>Pt.goods_mem hg.2 hq)⟩
   | many q=>rw [Pt.ok7]; rw [Pt.good7] at hg; exact kids (fun q' hq=>by cases Zj.mp hq; exact hg) q (Zj.mpr rfl)
   | nt q=>rw [Pt.ok8]; rw [Pt.good8] at hg; exact kids (fun q' hq=>by cases Zj.mp hq; exact hg) q (Zj.mpr rfl)
end
section
set_option genCtorIdx false in
structure Fr (κ:Type) where
 piece:Pt
 place:Nat
 turn:Nat
 here:Nat
 kids:List κ
noncomputable abbrev An (κ:Type):=Option Nat×List κ
set_option genCtorIdx false in
structure Bk (β κ:Type) where
 look:β→Option β
 known:β→Str→Nat→Option (An κ)
 begun:β→Str→Nat→Option β
 ended:β→Str→Nat→An κ→β
 told:β→Str→Nat→An κ→An κ
 few:β→Prop
inductive Out (β κ:Type) where
 | push (f:Fr κ) (p:Pt) (i:Nat) (b:β)
 | pop (a:An κ) (b:β)
 | stop
set_option genCtorIdx false in
structure Ms (β κ:Type) where
 fr:List (Fr κ)
 an:Option (An κ)
 bk:β
noncomputable def Pt.takesC:Pt→Nat→Bool
 | .any,z1=>true
 | .sign a,c=>a == c
 | .span a b,c=>decide (a≤c) && decide (c≤b)
 | .rule _,_ | .row _,_ | .alt _,_ | .many _,_ | .nt _,_=>false
noncomputable def Pt.isLf:Pt→Bool
 | .sign _ | .span _ _ | .any=>true
 | z1=>false
theorem Pt.takesC2 (x a:Nat):(Pt.sign a).takesC x=(a == x):=rfl
theorem Pt.takesC3 (x a b:Nat):(Pt.span a b).takesC x=(decide (a≤x) && decide (x≤b)):=rfl
section
variable {β κ:Type}(G:Str→Pt) (txt:List Nat) (B:Bk β κ)
noncomputable def Fr.new (p:Pt) (i:Nat):Fr κ:=⟨p,i,0,i,[]⟩
noncomputable def Fr.on (f:Fr κ) (e:Nat) (ks:List κ):Fr κ:=⟨f.piece,f.place,f.turn,e,f.kids++ks⟩
noncomputable def Fr.nxt (f:Fr κ):Fr κ:=⟨f.piece,f.place,f.turn+1,f.here,f.kids⟩
noncomputable def Ybj (ps:List Pt) (f:Fr κ) (b:β):Out β κ:=match ps[f.turn]? with
 | some p=>.push f p f.here b
 | none=>.pop (some f.here,f.kids) b
noncomputable def Ybg (ps:List Pt) (f:Fr κ) (b:β):Out β κ:=match ps[f.turn]? with
 | some p=>.push f p f.place b
 | none=>.pop (none,[]) b
noncomputable def Yau (p:Pt) (f:Fr κ) (b:β):Out β κ:=match B.look b with
 | some b'=>(match txt[f.place]? with
   | some c=>if p.takesC c then .pop (some (f.place+1),[]) b' else .pop (none,[]) b'
   | none=>.pop (none,[]) b')
 | none=>.stop
noncomputable def Yac (f:Fr κ) (a:Option (An κ)) (b:β):Out β κ:=match f.piece with
 | .row ps=>(match a with
   | some (some e,ks)=>Ybj ps (f.on e ks).nxt b
   | some (none,z1)=>.pop (none,[]) b
   | none=>Ybj ps f b)
 | .alt ps=>(match a with
   | some (some e,ks)=>.pop (some e,ks) b
   | some (none,z1)=>Ybg ps f.nxt b
   | none=>Ybg ps f b)
 | .many p=>(match a with
   | some (some e,ks)=>if e=f.here then .pop (some f.here,f.kids) b else .push (f.on e ks) p e b
   | some (none,z1)=>.pop (some f.here,f.kids) b
   | none=>.push f p f.here b)
 | .nt p=>(match a with
   | some (some z1,z2)=>.pop (none,[]) b
   | some (none,z1)=>.pop (some f.place,[]) b
   | none=>.push f p f.place b)
 | .rule n=>(match a with
   | some a=>.pop (B.told b n f.place a) (B.ended b n f.place a)
   | none=>(match B.known b n f.place with
     | some a=>.pop a b
     | none=>(match B.begun b n f.place with
       | some b'=>.push f (G n) f.place b'
       | none=>.stop)))
 | p=>Yau txt B p f b
noncomputable def Yeq (f:Fr κ) (a:Option (An κ)) (b:β):Prop:=f.kids.length≤5000000∧(∀ x,a=some x→x.2.length≤5000000)∧B.few b
inductive Fin (P:Option (An κ×β)→Prop):Nat→Ms β κ→Prop where
 | done {a:An κ}{b:β}:P (some (a,b))→Fin P 0 ⟨[],some a,b⟩
 | stop {f:Fr κ}{r:List (Fr κ)}{a:Option (An κ)}{b:β}{n:Nat}:r.length≤5000000→Yeq B f a b→Yac G txt B f a b=.stop→P none→Fin P n ⟨f::r,a,b⟩
 | push {f f':Fr κ}{r:List (Fr κ)}{a:Option (An κ)}{b b':β}{p:Pt}{i n:Nat}:r.length≤5000000→Yeq B f a b→Yac G txt B f a b=.push f' p i b'→Fin P n ⟨.new p i::f'::r,none,b'⟩→Fin P (n+1) ⟨f::r,a,b⟩
 | pop {f:Fr κ}{r:List (Fr κ)}{a:Option (An κ)}{a':An κ}{b b':β}{n:Nat}:r.length≤5000000→Yeq B f a b→Yac G txt B f a b=.pop a' b'→Fin P n ⟨r,some a',b'⟩→Fin P (n+1) ⟨f::r,a,b⟩
variable {G txt B}
theorem Yf4 {p:Pt}{i t h:Nat}{ks:List κ}{a:Option (An κ)}{b:β}(hp:p.isLf=true):Yac G txt B ⟨p,i,t,h,ks⟩ a b=Yau txt B p ⟨p,i,t,h,ks⟩ b:=by cases p <;> first | rfl | exact (Zv hp).elim
theorem Ylf {p:Pt}{i t h c:Nat}{ks:List κ}{a:Option (An κ)}{b b':β}(hp:p.isLf=true) (hl:B.look b=some b') (hg:txt[i]?=some c) (ht:p.takesC c=true):Yac G txt B ⟨p,i,t,h,ks⟩ a b=.pop (some (i+1),[]) b':=by
 rw [Yf4 hp]; unfold Yau; rw [hl]; show (match txt[i]? with | some c=>if p.takesC c then Out.pop (some (i+1),[]) b' else .pop (none,[]) b' | none=>.pop (none,[]) b')=_; rw [hg]; exact if_pos ht
theorem Yn1 {p:Pt}{i t h:Nat}{ks:List κ}{a:Option (An κ)}{b b':β}(hp:p.isLf=true) (hl:B.look b=some b') (hn:∀ c,txt[i]?=some c→p.takesC c=false):Yac G txt B ⟨p,i,t,h,ks⟩ a b=.pop (none,[]) b':=by
 rw [Yf4 hp]; unfold Yau; rw [hl]; show (match txt[i]? with | some c=>if p.takesC c then Out.pop (some (i+1),[]) b' else .pop (none,[]) b' | none=>.pop (none,[]) b')=_
 cases hg:txt[i]? with
 | none=>rfl
 | some c=>exact if_neg (by rw [hn c hg]; exact Zv)
theorem Ynb {p:Pt}{i t h:Nat}{ks:List κ}{a:Option (An κ)}{b:β}(hp:p.isLf=true) (hl:B.look b=none):Yac G txt B ⟨p,i,t,h,ks⟩ a b=.stop:=by
 rw [Yf4 hp]; unfold Yau; rw [hl]
theorem Yl6 {n:Str}{i t h:Nat}{ks:List κ}{a:An κ}{b:β}(hk:B.known b n i=some a):Yac G txt B ⟨.rule n,i,t,h,ks⟩ none b=.pop a b:=by
 show (match B.known b n i with | some a=>Out.pop a b | none=>(match B.begun b n i with | some b'=>.push ⟨.rule n,i,t,h,ks⟩ (G n) i b' | none=>.stop))=_
 rw [hk]
theorem Yqf {n:Str}{i t h:Nat}{ks:List κ}{b b':β}(hk:B.known b n i=none) (hb:B.begun b n i=some b'):Yac G txt B ⟨.rule n,i,t,h,ks⟩ none b=.push ⟨.rule n,i,t,h,ks⟩ (G n) i b':=by
 show (match B.known b n i with | some a=>Out.pop a b | none=>(match B.begun b n i with | some b'=>.push ⟨.rule n,i,t,h,ks⟩ (G n) i b' | none=>.stop))=_
 rw [hk]
 show (match B.begun b n i with | some b'=>Out.push ⟨.rule n,i,t,h,ks⟩ (G n) i b' | none=>.stop)=_
 rw [hb]
variable {b:β}{p:Pt}{i:Nat}
theorem Fin.mono {P P':Option (An κ×β)→Prop}(k:∀ o,P o→P' o) {n:Nat}{st:Ms β κ}(h:Fin G txt B P n st):Fin G txt B P' n st:=by
 induction h with
 | done h=>exact .done (k _ h)
 | stop a b c h=>exact .stop a b c (k _ h)
 | push a b c z1 ih=>exact .push a b c ih
 | pop a b c z1 ih=>exact .pop a b c ih
noncomputable def Yyz (G:Str→Pt) (txt:List Nat) (B:Bk β κ) (P:Option (An κ×β)→Prop) (n:Nat) (r:List (Fr κ)):Out β κ→Prop
 | .stop=>P none
 | .push f' p i b'=>∃ m,m < n∧Fin G txt B P m ⟨.new p i::f'::r,none,b'⟩
 | .pop a' b'=>∃ m,m < n∧Fin G txt B P m ⟨r,some a',b'⟩
noncomputable def FinS (G:Str→Pt) (txt:List Nat) (B:Bk β κ) (P:Option (An κ×β)→Prop) (n:Nat) (st:Ms β κ):Prop:=match st.fr with
 | []=>∃ a,st.an=some a∧P (some (a,st.bk))
 | f::r=>r.length≤5000000∧Yeq B f st.an st.bk∧Yyz G txt B P n r (Yac G txt B f st.an st.bk)
theorem Fin.inv {P:Option (An κ×β)→Prop}{n:Nat}{st:Ms β κ}(h:Fin G txt B P n st):FinS G txt B P n st:=by
 cases h with
 | done h=>exact ⟨_,rfl,h⟩
 | stop h1 h2 h3 h=>exact ⟨h1,h2,by rw [h3]; exact h⟩
 | push h1 h2 h3 h=>exact ⟨h1,h2,by rw [h3]; exact ⟨_,Zs _,h⟩⟩
 | pop h1 h2 h3 h=>exact ⟨h1,h2,by rw [h3]; exact ⟨_,Zs _,h⟩⟩
theorem Yeq.new (w:B.few b):Yeq B (.new p i:Fr κ) none b:=⟨Zkb _,⟨(fun zz e=>by cases e),w⟩⟩
end
end
section
noncomputable def Yub:Option Nat→V
 | none=>.none
 | some e=>.int e
set_option genCtorIdx false in
structure Ysf (κ:Type) where
 r:Hp→List Nat→κ→V→Prop
 keep:∀ {σ σ':Hp}{A A':List Nat}{x:κ}{v:V},r σ A x v→(∀ l o,σ[l]?=some o→l∉A→σ'[l]?=some o)→(∀ l∈A',l < σ.length→l∈A)→r σ' A' x v
structure On (σ:Hp) (A:List Nat) (σ':Hp) (A':List Nat):Prop where
 keep:∀ l o,σ[l]?=some o→l∉A→σ'[l]?=some o
 live:∀ l∈A',l < σ.length→l∈A
theorem On.refl {σ:Hp}{A:List Nat}:On σ A σ A:=⟨fun zz zz e zz=>e,fun zz h zz=>h⟩
theorem On.up {σ jk:Hp}{A:List Nat}:On σ A (σ++jk) A:=⟨fun zz zz e zz=>Yab e,fun zz h zz=>h⟩
theorem On.less {σ:Hp}{A A':List Nat}(h:∀ l∈A',l∈A):On σ A σ A':=⟨fun zz zz e zz=>e,fun l x zz=>h l x⟩
theorem On.put {σ:Hp}{A:List Nat}{i:Nat}{o:Yas}(h:i∈A):On σ A (σ.set i o) A:=⟨fun l x e hl=>by
 have hne:i≠l:=fun q=>hl (q▸h)
 rw [Zi hne]; exact e,fun zz h zz=>h⟩
theorem On.trans {σ σ₁ σ₂:Hp}{A A₁ A₂:List Nat}(x:On σ A σ₁ A₁) (y:On σ₁ A₁ σ₂ A₂) (hl:σ.length≤σ₁.length):On σ A σ₂ A₂ :=
 ⟨fun l o e h=>y.keep l o (x.keep l o e h) fun q=>h (x.live l q (Zb.mp e).1),fun l h q=>x.live l (y.live l h (Zz q hl)) q⟩
section
variable {κ β:Type}(K:Ysf κ)
noncomputable def KRs (σ:Hp) (A:List Nat):List κ→List V→Prop
 | [],vs=>vs=[]
 | x::xs,vs=>∃ v r,vs=v::r∧K.r σ A x v∧KRs σ A xs r
noncomputable def Yjn (σ:Hp) (A:List Nat) (a:An κ) (v:V):Prop:=∃ l vs,v=.tup [Yub a.1,.ref l]∧l∉A∧σ[l]?=some (.list vs)∧KRs K σ A a.2 vs
noncomputable def AnO (σ:Hp) (A:List Nat):Option (An κ)→V→Prop
 | none,v=>v=.none
 | some a,v=>Yjn K σ A a v
inductive Ypq (σ:Hp) (A:List Nat) (f:Fr κ) (l k:Nat):Prop where
 | mk (vs:List V) (h1:σ[l]?=some (.inst "Frame" [("piece",f.piece.v),("place",.int f.place),("turn",.int f.turn),("here",.int f.here),("kids",.ref k)])) (h2:σ[k]?=some (.list vs)) (h3:KRs K σ A f.kids vs):Ypq σ A f l k
variable {K}
theorem KRs.keep {σ σ':Hp}{A A':List Nat}(o:On σ A σ' A'):∀ {xs:List κ}{vs:List V},KRs K σ A xs vs→KRs K σ' A' xs vs
 | [],z1,h=>h
 | z1::z2,z3,h=>by
   obtain ⟨v,r,e,h1,h2⟩:=h
   exact ⟨v,r,e,K.keep h1 o.keep o.live,KRs.keep o h2⟩
theorem KRs.append {σ:Hp}{A:List Nat}:∀ {xs ys:List κ}{vs us:List V},KRs K σ A xs vs→KRs K σ A ys us→KRs K σ A (xs++ys) (vs++us):=by
 intro xx
 induction xx with
 | nil =>
   intro z1 z2 z3 h h'
   cases h; exact h'
 | cons z1 z2 ih =>
   intro z3 z4 z5 h h'
   obtain ⟨v,r,rfl,h1,h2⟩:=h
   exact ⟨v,_,rfl,h1,ih h2 h'⟩
theorem KRs.length {σ:Hp}{A:List Nat}:∀ {xs:List κ}{vs:List V},KRs K σ A xs vs→vs.length=xs.length:=by
 intro xx
 induction xx with
 | nil =>
   intro z1 h
   cases h; rfl
 | cons z1 z2 ih =>
   intro z3 h
   obtain ⟨v,r,rfl,zz,h2⟩:=h
   simp [ih h2]
theorem Yjn.keep {σ σ':Hp}{A A':List Nat}{a:An κ}{v:V}(o:On σ A σ' A') (h:Yjn K σ A a v):Yjn K σ' A' a v:=by
 obtain ⟨l,vs,e,h1,h2,h3⟩:=h
 exact ⟨l,vs,e,fun q=>h1 (o.live l q (Zb.mp h2).1),o.keep _ _ h2 h1,h3.keep o⟩
theorem Ypq.keep {σ σ':Hp}{A A':List Nat}{f:Fr κ}{l k:Nat}(o:On σ A σ' A') (h:Ypq K σ A f l k) (hl:σ'[l]?=σ[l]?) (hk:σ'[k]?=σ[k]?):Ypq K σ' A' f l k:=by
 obtain ⟨vs,h1,h2,h3⟩:=h
 exact ⟨vs,hl.trans h1,hk.trans h2,h3.keep o⟩
end
set_option genCtorIdx false in
structure Ymw (β κ:Type) where
 K:Ysf κ
 own:List Nat
 is:Hp→List Nat→β→Prop
 keep:∀ {σ σ':Hp}{A A':List Nat}{b:β},is σ A b→On σ A σ' A'→(∀ x∈own,σ'[x]?=σ[x]?)→is σ' A' b
end
section
noncomputable abbrev Kid:=Str×Nat
set_option genCtorIdx false in
structure Mm where
 kept:List (Kid×An Kid)
 order:List Kid
noncomputable def Yfd (k:Kid) (a:An Kid):An Kid:=match a.1 with
 | none=>(none,[])
 | some e=>(some e,[k])
noncomputable def Ypp (kept:List (Kid×An Kid)) (k:Kid) (a:An Kid):List (Kid×An Kid) :=
 if kept.any (fun p=>p.1=k) then kept.map (fun p=>if p.1=k then (p.1,a) else p) else kept++[(k,a)]
noncomputable def Ybp (kept:List (Kid×An Kid)) (k:Kid):Option (An Kid):=(kept.find? fun p=>p.1=k).map (·.2)
noncomputable def Ya0:Bk Mm Kid where
 look:=some
 known:=fun b n i=>(Ybp b.kept (n,i)).map (Yfd (n,i))
 begun:=fun b n i=>some ⟨b.kept,b.order++[(n,i)]⟩
 ended:=fun b n i a=>⟨Ypp b.kept (n,i) a,b.order⟩
 told:=fun zz n i a=>Yfd (n,i) a
 few:=fun b=>b.kept.length≤5000000∧b.order.length≤5000000
noncomputable def pV' (k:Kid):V:=.tup [.str k.1,.int k.2]
noncomputable def Yg5:Ysf Kid where
 r:=fun zz zz x v=>v=pV' x
 keep:=fun h zz zz=>h
theorem Ygs {σ:Hp}{A:List Nat}:∀ {xs:List Kid},KRs Yg5 σ A xs (xs.map pV'):=by
 intro xx
 induction xx with
 | nil =>
   exact rfl
 | cons z1 z2 ih =>
   exact ⟨_,_,rfl,rfl,ih⟩
theorem Yn7 {σ:Hp}{A:List Nat}:∀ {xs:List Kid}{vs:List V},KRs Yg5 σ A xs vs→vs=xs.map pV':=by
 intro xx
 induction xx with
 | nil =>
   intro z1 h
   exact h
 | cons z1 z2 ih =>
   intro z3 h
   obtain ⟨v,r,rfl,h1,h2⟩:=h
   rw [ih h2,show v=_ from h1]; rfl
noncomputable def Ycx (σ:Hp) (A:List Nat):List (Kid×An Kid)→List ((Str×Int)×V)→Prop
 | [],kvs=>kvs=[]
 | p::r,kvs=>∃ v q,kvs=((p.1.1,(p.1.2:Int)),v)::q∧Yjn Yg5 σ A p.2 v∧Ycx σ A r q
theorem Ycx.keep {σ σ':Hp}{A A':List Nat}(o:On σ A σ' A'):∀ {xs:List (Kid×An Kid)}{kvs:List ((Str×Int)×V)},Ycx σ A xs kvs→Ycx σ' A' xs kvs
 | [],z1,h=>h
 | z1::z2,z3,h=>by
   obtain ⟨v,q,e,h1,h2⟩:=h
   exact ⟨v,q,e,h1.keep o,Ycx.keep o h2⟩
theorem Ycx.length {σ:Hp}{A:List Nat}:∀ {xs:List (Kid×An Kid)}{kvs:List ((Str×Int)×V)},Ycx σ A xs kvs→kvs.length=xs.length:=by
 intro xx
 induction xx with
 | nil =>
   intro z1 h
   cases h; rfl
 | cons z1 z2 ih =>
   intro z3 h
   obtain ⟨v,q,rfl,zz,h2⟩:=h
   simp [ih h2]
theorem Yi3 {k k':Kid}:((k.1,(k.2:Int))=(k'.1,(k'.2:Int)))↔k=k':=by
 obtain ⟨a,b⟩:=k; obtain ⟨c,d⟩:=k'
 simp only [Prod.mk.injEq]
 exact and_congr_right fun zz=>Int.ofNat_inj
theorem Ycx.get {σ:Hp}{A:List Nat}{k:Kid}:∀ {xs:List (Kid×An Kid)}{kvs:List ((Str×Int)×V)},Ycx σ A xs kvs→(Ybp xs k=none∧kvs.find? (fun kv=>kv.1=(k.1,(k.2:Int)))=none)∨∃ a v,Ybp xs k=some a∧(kvs.find? fun kv=>kv.1=(k.1,(k.2:Int))).map (·.2)=some v∧Yjn Yg5 σ A a v
 | [],z1,h=>by cases h; exact .inl ⟨rfl,rfl⟩
 | p::r,z1,h=>by
   obtain ⟨v,q,rfl,h1,h2⟩:=h
   by_cases hk:p.1=k
   · refine .inr ⟨p.2,v,by simp [Ybp,hk],?_,h1⟩
     rw [List.find?_cons,Zmb (Yi3.mpr hk)]; rfl
   · have hk':¬ ((p.1.1,(p.1.2:Int))=(k.1,(k.2:Int))):=fun e=>hk (Yi3.mp e)
     rcases Ycx.get (k:=k) h2 with ⟨a,b⟩ | ⟨a,u,b,c,e⟩
     · refine .inl ⟨by simpa [Ybp,hk] using a,?_⟩
       rw [List.find?_cons,Zrc hk']; exact b
     · refine .inr ⟨a,u,by simpa [Ybp,hk] using b,?_,e⟩
       rw [List.find?_cons,Zrc hk']; exact c
theorem Ycx.any {σ:Hp}{A:List Nat}{k:Kid}:∀ {xs:List (Kid×An Kid)}{kvs:List ((Str×Int)×V)},Ycx σ A xs kvs→kvs.any (fun kv=>kv.1=(k.1,(k.2:Int)))=xs.any (fun p=>p.1=k):=by
 intro xx
 induction xx with
 | nil =>
   intro z1 h
   cases h; rfl
 | cons p r ih =>
   intro z1 h
   obtain ⟨v,q,rfl,h1,h2⟩:=h
   rw [List.any_cons,List.any_cons,ih h2]
   congr 1
   rw [Bool.eq_iff_iff]; simp only [decide_eq_true_eq]; exact Yi3
theorem Ycx.set {σ:Hp}{A:List Nat}{k:Kid}{a:An Kid}{v:V}{xs:List (Kid×An Kid)}{kvs:List ((Str×Int)×V)}(h:Ycx σ A xs kvs) (hv:Yjn Yg5 σ A a v):Ycx σ A (Ypp xs k a) (Ydw kvs (k.1,(k.2:Int)) v):=by
 unfold Ypp Ydw
 rw [h.any (k:=k)]
 split
 · rename_i hh; clear hh
   induction xs generalizing kvs with
   | nil=>cases h; rfl
   | cons p r ih =>
     obtain ⟨u,q,rfl,h1,h2⟩:=h
     by_cases hk:p.1=k
     · rw [List.map_cons,List.map_cons,if_pos hk,if_pos (Yi3.mpr hk)]
       exact ⟨v,_,rfl,hv,ih h2⟩
     · rw [List.map_cons,List.map_cons,if_neg hk,if_neg (fun e=>hk (Yi3.mp e))]
       exact ⟨u,_,rfl,h1,ih h2⟩
 · rename_i hh; clear hh
   induction xs generalizing kvs with
   | nil=>cases h; exact ⟨v,_,rfl,hv,rfl⟩
   | cons p r ih =>
     obtain ⟨u,q,rfl,h1,h2⟩:=h
     exact ⟨u,_,rfl,h1,ih h2⟩
end
section
theorem Yp0 {r D:Nat}(h:r+D≤5000000):r≤5000000:=Za (Zy _ _) h
theorem Ysl {r D:Nat}(h:r+(D+1)≤5000000):r+1+D≤5000000:=Za (Zr (Nat.succ_add_eq_add_succ r D)) h
theorem Ysc {D D':Nat}(h:D+1≤D'):∃ x,D'=x+1∧D≤x:=match D',h with | x+1,h=>⟨x,rfl,Zcc h⟩
theorem Yvo {e len i:Nat}(h:e≤len):e+1 - i≤len+1:=Za (Nat.sub_le _ _) (Zwb h)
theorem Yvq {h e i:Nat}(g:h≤e):h+1 - i≤e+1 - i:=Nat.sub_le_sub_right (Zwb g) _
theorem Ywd {e h:Nat}(g:h < e):e+1 - h≤2*(e - h):=by rw [Nat.succ_sub (Zq g),Nat.two_mul]; exact Zzb (Nat.sub_pos_of_lt g) _
theorem Yt5 {i h e:Nat}(h1:i≤h) (h2:h≤e):e - i=(h - i)+(e - h):=(Nat.sub_add_sub_cancel h2 h1).symm.trans (Nat.add_comm ..)
theorem Yw8 {l h i R N m:Nat}(g:i < h) (hl:h≤l) (hN:(l - i)*R+(R - m)≤N):(l - h)*R+(R - 0)≤N :=
 Za (Zr (Nat.succ_mul (l - h) R).symm) (Za (Zvb R (Zqc (Zz g hl) g)) (Za (Zy ..) hN))
theorem Yv7 {X R m j N:Nat}(h1:m≤j) (h2:j < R) (hN:X+(R - m)≤N):X+(R - (j+1)) < N:=Zz (Nat.add_lt_add_left (Zqc (Zk h1 h2) (Nat.lt_succ_of_le h1)) X) hN
theorem Yyb {N' N n d:Nat}(h:N' < N) (hd:d≤12):N'*14+d≤N*14+n:=Za (Zzb (Za hd (by decide:12≤14)) _) (Za (Zr (Nat.succ_mul N' 14).symm) (Za (Zvb 14 h) (Zy _ _)))
theorem Yv9 {l h e j:Nat}(hj:l - h≤j+1) (g:h < e):l - e≤j:=Nat.sub_le_iff_le_add.mpr (Za (Nat.sub_le_iff_le_add.mp hj) (Za (Zr (Nat.add_assoc j 1 h)) (Zzb (Za (Zr (Nat.add_comm 1 h)) g) j)))
theorem Yx0 {l h e:Nat}(hj:l - h≤0) (g:h < e) (h2:e≤l):False:=absurd (Zz g h2) (Zo.mpr (Nat.le_of_sub_eq_zero (Nat.le_zero.mp hj)))
section
variable {β κ:Type}
noncomputable def lvl (f:Fr κ) (L:List (Str×Nat)):List (Str×Nat):=match f.piece with
 | .rule n=>(n,f.place)::L
 | z1=>L
noncomputable def Yfa (f:Fr κ) (L:List (Str×Nat)):Prop:=match f.piece with
 | .rule n=>(n,f.place)∉L
 | z1=>True
inductive Bs (G:Str→Pt) (txt:List Nat) (B:Bk β κ):Nat→List (Str×Nat)→Fr κ→Option (An κ)→β→Option (An κ×β)→Prop where
 | stop {D:Nat}{L:List (Str×Nat)}{f:Fr κ}{a:Option (An κ)}{b:β}:Yeq B f a b→Yac G txt B f a b=.stop→Bs G txt B D L f a b none
 | pop {D:Nat}{L:List (Str×Nat)}{f:Fr κ}{a:Option (An κ)}{b b':β}{a':An κ}:Yeq B f a b→Yac G txt B f a b=.pop a' b'→Bs G txt B D L f a b (some (a',b'))
 | dead {D:Nat}{L:List (Str×Nat)}{f f':Fr κ}{a:Option (An κ)}{b b':β}{p:Pt}{i:Nat}:Yeq B f a b→Yac G txt B f a b=.push f' p i b'→Yfa f L→Bs G txt B D (lvl f L) (.new p i) none b' none→Bs G txt B (D+1) L f a b none
 | push {D:Nat}{L:List (Str×Nat)}{f f':Fr κ}{a:Option (An κ)}{b b' b'':β}{p:Pt}{i:Nat}{a':An κ}{o:Option (An κ×β)}:Yeq B f a b→Yac G txt B f a b=.push f' p i b'→Yfa f L→Bs G txt B D (lvl f L) (.new p i) none b' (some (a',b''))→Bs G txt B (D+1) L f' (some a') b'' o→Bs G txt B (D+1) L f a b o
variable {G:Str→Pt}{txt:List Nat}{B:Bk β κ}
theorem Bs.fin {D:Nat}{L:List (Str×Nat)}{f:Fr κ}{a:Option (An κ)}{b:β}{o:Option (An κ×β)}(h:Bs G txt B D L f a b o) (P:Option (An κ×β)→Prop):∀ r:List (Fr κ),r.length+D≤5000000→(∀ a' b',o=some (a',b')→∃ n,Fin G txt B P n ⟨r,some a',b'⟩)→(o=none→P none)→∃ n,Fin G txt B P n ⟨f::r,a,b⟩:=by
 induction h with
 | stop w h=>exact fun r hD zz h2=>⟨0,.stop (Yp0 hD) w h (h2 rfl)⟩
 | pop w h=>exact fun r hD h1 zz=>(by obtain ⟨n,hn⟩:=h1 _ _ rfl; exact ⟨_,.pop (Yp0 hD) w h hn⟩)
 | dead w h z1 z2 ih=>exact fun r hD zz h2=>(by obtain ⟨n,hn⟩:=ih (_::r) (Ysl hD) (fun zz zz e=>by cases e) h2; exact ⟨_,.push (Yp0 hD) w h hn⟩)
 | push w h z1 z2 z3 ih1 ih2=>exact fun r hD h1 h2=>(by obtain ⟨n,hn⟩:=ih1 (_::r) (Ysl hD) (fun a' b' e=>by cases e; exact ih2 r hD h1 h2) (fun e=>by cases e); exact ⟨_,.push (Yp0 hD) w h hn⟩)
theorem Bs.run {D:Nat}{L:List (Str×Nat)}{f:Fr κ}{a:Option (An κ)}{b:β}{o:Option (An κ×β)}(h:Bs G txt B D L f a b o) (hD:D≤5000000):∃ n,Fin G txt B (· = o) n ⟨[f],a,b⟩ :=
 h.fin _ [] (Za (Zr (Nat.zero_add D)) hD) (fun zz zz e=>⟨0,.done e.symm⟩) (fun e=>e.symm)
theorem Bs.le {D:Nat}{L:List (Str×Nat)}{f:Fr κ}{a:Option (An κ)}{b:β}{o:Option (An κ×β)}(h:Bs G txt B D L f a b o):∀ {D':Nat},D≤D'→Bs G txt B D' L f a b o:=by
 induction h with
 | stop w h=>exact fun zz=>.stop w h
 | pop w h=>exact fun zz=>.pop w h
 | dead w h l z1 ih =>
   intro D' hD
   obtain ⟨D',rfl,hD'⟩:=Ysc hD
   exact .dead w h l (ih hD')
 | push w h l z1 z2 ih1 ih2 =>
   intro D' hD
   obtain ⟨D',rfl,hD'⟩:=Ysc hD
   exact .push w h l (ih1 hD') (ih2 hD)
noncomputable def BsO (G:Str→Pt) (txt:List Nat) (B:Bk β κ) (D:Nat) (L:List (Str×Nat)) (f:Fr κ) (o:Option (An κ×β)):Out β κ→Prop
 | .stop=>o=none
 | .pop a b=>o=some (a,b)
 | .push f' p i b'=>∃ D',D=D'+1∧Yfa f L∧((Bs G txt B D' (lvl f L) (.new p i) none b' none∧o=none)∨∃ a' b'',Bs G txt B D' (lvl f L) (.new p i) none b' (some (a',b''))∧Bs G txt B (D'+1) L f' (some a') b'' o)
theorem Bs.out {D:Nat}{L:List (Str×Nat)}{f:Fr κ}{a:Option (An κ)}{b:β}{o:Option (An κ×β)}(h:Bs G txt B D L f a b o):BsO G txt B D L f o (Yac G txt B f a b) :=
 h.rec (fun zz h=>h▸rfl) (fun zz h=>h▸rfl) (fun zz h l k zz=>h▸⟨_,rfl,l,.inl ⟨k,rfl⟩⟩) fun zz h l k k' zz zz=>h▸⟨_,rfl,l,.inr ⟨_,_,k,k'⟩⟩
theorem Bs.pops {D:Nat}{L:List (Str×Nat)}{f:Fr κ}{a:Option (An κ)}{b b':β}{a':An κ}{o:Option (An κ×β)}(h:Bs G txt B D L f a b o) (hs:Yac G txt B f a b=.pop a' b'):o=some (a',b'):=by
 have:=h.out; rw [hs] at this; exact this
end
mutual
noncomputable def Pt.wt:Pt→Nat
 | .rule z1=>1
 | .row ps | .alt ps=>Pt.wts ps
 | .many p=>2*p.wt
 | .nt p=>p.wt
 | .sign _ | .span _ _ | .any=>0
noncomputable def Pt.wts:List Pt→Nat
 | []=>0
 | p::r=>p.wt+Pt.wts r
end
theorem Pt.wt1 (z1:Str):(Pt.rule z1).wt=1:=rfl
theorem Pt.wt2 (ps:List Pt):(Pt.row ps).wt=Pt.wts ps:=rfl
theorem Pt.wt3 (ps:List Pt):(Pt.alt ps).wt=Pt.wts ps:=rfl
theorem Pt.wt4 (p:Pt):p.many.wt=2*p.wt:=rfl
theorem Pt.wt5 (p:Pt):p.nt.wt=p.wt:=rfl
theorem Pt.wt6 (c:Nat):(Pt.sign c).wt=0:=rfl
theorem Pt.wt7 (a b:Nat):(Pt.span a b).wt=0:=rfl
theorem Pt.wt8:Pt.any.wt=0:=rfl
theorem Pt.wts1:Pt.wts []=0:=rfl
theorem Pt.wts2 (p:Pt) (r:List Pt):Pt.wts (p::r)=p.wt+Pt.wts r:=rfl
theorem Pt.wts_mem {ps:List Pt}{p:Pt}(h:p∈ps):p.wt≤Pt.wts ps:=by
 induction ps with
 | nil=>cases h
 | cons a r ih =>
   rw [Pt.wts2]
   rcases Zg.mp h with rfl | h
   · exact Zy _ _
   · exact Za (ih h) (Ztb _ _)
theorem Pt.wts_app:∀ ps qs:List Pt,Pt.wts (ps++qs)=Pt.wts ps+Pt.wts qs:=by
 intro xx
 induction xx with
 | nil =>
   intro qs
   simp [Pt.wts1]
 | cons p r ih =>
   intro qs
   rw [List.cons_append,Pt.wts2,Pt.wts2,ih qs,Nat.add_assoc]
theorem Pt.wts_take {ps:List Pt}(t:Nat):Pt.wts (ps.take t)≤Pt.wts ps:=by
 conv=>rhs; rw [← List.take_append_drop t ps]
 rw [Pt.wts_app]; exact Zy _ _
theorem Pt.wts_next {ps:List Pt}{t:Nat}{p:Pt}(h:ps[t]?=some p):Pt.wts (ps.take (t+1))=Pt.wts (ps.take t)+p.wt:=by
 rw [List.take_add_one,h,Pt.wts_app]; simp [Pt.wts1,Pt.wts2]
theorem Pt.ahdRow_at {B:Str→Bool}:∀ {ps:List Pt}{t:Nat}{p:Pt},ps[t]?=some p→Pt.mayAll B (ps.take t)=true→∀ y∈p.ahd B,y∈Pt.ahdRow B ps
 | [],z1,z2,h,z3=>by cases h
 | a::r,0,p,h,z1=>by cases h; intro y hy; rw [Pt.ahdRow2]; exact Zxb _ hy
 | a::r,t+1,p,h,hm=>by
   rw [List.take_succ_cons,Pt.mayAll2,Zob] at hm
   intro y hy
   rw [Pt.ahdRow2,if_pos hm.1]
   exact Zyb _ (Pt.ahdRow_at (ps:=r) (t:=t) (by simpa using h) hm.2 y hy)
theorem Pt.ahdAlt_at {B:Str→Bool}{ps:List Pt}{p:Pt}(h:p∈ps):∀ y∈p.ahd B,y∈Pt.ahdAlt B ps:=by
 induction ps with
 | nil=>cases h
 | cons a r ih =>
   intro y hy
   rw [Pt.ahdAlt2]
   rcases Zg.mp h with rfl | h
   · exact Zxb _ hy
   · exact Zyb _ (ih h y hy)
theorem Pt.mayAll_next {B:Str→Bool}{ps:List Pt}{t:Nat}{p:Pt}(h:ps[t]?=some p) (hm:Pt.mayAll B (ps.take t)=true) (hp:p.may B=true):Pt.mayAll B (ps.take (t+1))=true:=by
 rw [List.take_add_one,h,Pt.mayAll_eq,List.all_append,← Pt.mayAll_eq,hm]; simp [hp]
theorem Pt.mayAny_at {B:Str→Bool}{ps:List Pt}{p:Pt}(h:p∈ps) (hp:p.may B=true):Pt.mayAny B ps=true:=by
 rw [Pt.mayAny_eq,List.any_eq_true]; exact ⟨p,h,hp⟩
noncomputable def Ykk (ok:Bool) (w len i:Nat) {κ:Type}(a:An κ):Prop:=match a.1 with
 | some e=>i≤e∧e≤len∧(e=i→ok=true)∧a.2.length≤w*(e+1 - i)
 | none=>a.2=[]
structure Ysi (G:Str→Pt) (names:List Str) (mb:Str→Bool) (ix:Str→Nat) (R W:Nat):Prop where
 part:∀ n∈names,(G n).ok (· ∈ names)
 deep:∀ n∈names,(G n).deep≤12
 wt:∀ n∈names,(G n).wt≤W
 lead:∀ n∈names,∀ y∈(G n).ahd mb,ix n < ix y
 ixl:∀ n∈names,ix n < R
 bare:∀ n∈names,(G n).may mb=true→mb n=true
structure Ysa {β κ:Type}(B:Bk β κ) (I:List (Str×Nat)→β→Prop) (names:List Str) (mb:Str→Bool) (W len:Nat):Prop where
 few:∀ {L b},I L b→B.few b
 look:∀ {L b b'},I L b→B.look b=some b'→I L b'
 known:∀ {L b n i a},I L b→n∈names→i≤len→B.known b n i=some a→Ykk (mb n) 1 len i a
 begun:∀ {L b b' n i},I L b→n∈names→i≤len→(n,i)∉L→B.known b n i=none→B.begun b n i=some b'→I ((n,i)::L) b'
 ended:∀ {L b n i}{a:An κ},I ((n,i)::L) b→n∈names→i≤len→(n,i)∉L→Ykk (mb n) W len i a→I L (B.ended b n i a)∧Ykk (mb n) 1 len i (B.told b n i a)
section
variable {β κ:Type}{G:Str→Pt}{txt:List Nat}{B:Bk β κ}{I:List (Str×Nat)→β→Prop}{names:List Str}{mb:Str→Bool}{ix:Str→Nat}{R W:Nat}
noncomputable def Ygl (G:Str→Pt) (txt:List Nat) (B:Bk β κ) (I:List (Str×Nat)→β→Prop) (ok:Bool) (w i:Nat) (D:Nat) (L:List (Str×Nat)) (f:Fr κ) (a:Option (An κ)) (b:β):Prop :=
 ∃ o,Bs G txt B D L f a b o∧∀ a' b',o=some (a',b')→I L b'∧Ykk ok w txt.length i a'
theorem Ygl.pop {ok:Bool}{w i D:Nat}{L:List (Str×Nat)}{f:Fr κ}{a:Option (An κ)}{b b':β}{a':An κ}(few:Yeq B f a b) (h:Yac G txt B f a b=.pop a' b') (hI:I L b') (hf:Ykk ok w txt.length i a'):Ygl G txt B I ok w i D L f a b :=
 ⟨_,.pop few h,fun zz zz e=>by cases e; exact ⟨hI,hf⟩⟩
theorem Ygl.push {ok ok':Bool}{w w' i j D:Nat}{L:List (Str×Nat)}{f f':Fr κ}{a:Option (An κ)}{b b':β}{p:Pt}(few:Yeq B f a b) (h:Yac G txt B f a b=.push f' p j b') (hl:Yfa f L) (h1:Ygl G txt B I ok' w' j D (lvl f L) (.new p j) none b')
   (h2:∀ a' b'',I (lvl f L) b''→Ykk ok' w' txt.length j a'→Ygl G txt B I ok w i (D+1) L f' (some a') b''):Ygl G txt B I ok w i (D+1) L f a b:=by
 obtain ⟨o,k,hk⟩:=h1
 cases o with
 | none=>exact ⟨none,.dead few h hl k,fun zz zz e=>by cases e⟩
 | some x =>
   obtain ⟨a',b''⟩:=x
   obtain ⟨hI,hf⟩:=hk _ _ rfl
   obtain ⟨o,k2,hk2⟩:=h2 a' b'' hI hf
   exact ⟨o,.push few h hl k k2,hk2⟩
theorem Ygl.le {ok:Bool}{w i D D':Nat}{L:List (Str×Nat)}{f:Fr κ}{a:Option (An κ)}{b:β}(h:Ygl G txt B I ok w i D L f a b) (hD:D≤D'):Ygl G txt B I ok w i D' L f a b:=by
 obtain ⟨o,k,hk⟩:=h
 exact ⟨o,k.le hD,hk⟩
theorem Ykg {w W x y:Nat}(hw:w≤W) (hx:x≤y) (hW:W*y≤5000000):w*x≤5000000:=Za (Nat.mul_le_mul hw hx) hW
theorem Ykk.few {ok:Bool}{w W len i:Nat}{a:An κ}(h:Ykk ok w len i a) (hw:w≤W) (hW:W*(len+1)≤5000000):a.2.length≤5000000:=by
 unfold Ykk at h
 split at h
 · exact Za h.2.2.2 (Ykg hw (Yvo h.2.1) hW)
 · rw [h]; simp
theorem Yeq.of {f:Fr κ}{a:An κ}{b:β}(h1:f.kids.length≤5000000) (h2:a.2.length≤5000000) (h3:B.few b):Yeq B f (some a) b:=⟨h1,fun zz e=>by cases e; exact h2,h3⟩
theorem Yqd {W':Nat}{ps:List Pt}{i D:Nat}{L:List (Str×Nat)}(hB:Ysa B I names mb W' txt.length) (hw:Pt.wts ps≤W) (hW:W*(txt.length+1)≤5000000)
   (sub:∀ t q h b,ps[t]?=some q→i≤h→h≤txt.length→(h=i→Pt.mayAll mb (ps.take t)=true)→I L b→Ygl G txt B I (q.may mb) q.wt h D L (.new q h) none b) :
   ∀ (j t h:Nat) (ks:List κ) (f:Fr κ) (a:Option (An κ)) (b:β),t+j=ps.length→Yac G txt B f a b=Ybj ps ⟨.row ps,i,t,h,ks⟩ b→f.piece=.row ps→Yeq B f a b→I L b→i≤h→h≤txt.length→(h=i→Pt.mayAll mb (ps.take t)=true)→ks.length≤Pt.wts (ps.take t)*(h+1 - i) →
     Ygl G txt B I (Pt.mayAll mb ps) (Pt.wts ps) i (D+1) L f a b:=by
 intro j
 induction j with
 | zero =>
   intro t h ks f a b hj hs hp few hI h1 h2 h3 h4
   have ht:ps.take t=ps:=List.take_of_length_le (Zr hj.symm)
   rw [ht] at h3 h4
   refine .pop (a':=(some h,ks)) (b':=b) few ?_ hI ⟨h1,h2,h3,h4⟩
   rw [hs]; unfold Ybj; rw [show ps[(⟨.row ps,i,t,h,ks⟩:Fr κ).turn]?=none from Zrb (Zr hj.symm)]
 | succ j ih =>
   intro t h ks f a b hj hs hp few hI h1 h2 h3 h4
   have ht:t < ps.length:=hj▸Nat.lt_add_of_pos_right (Nat.succ_pos j)
   have hq:=Zp ht
   generalize ps[t]=q at hq
   have el:lvl f L=L:=by simp [lvl,hp]
   refine .push (f':=⟨.row ps,i,t,h,ks⟩) (p:=q) (j:=h) (b':=b) (ok':=q.may mb) (w':=q.wt) few ?_ (by simp [Yfa,hp]) (by rw [el]; exact sub t q h b hq h1 h2 h3 hI) fun a' b'' hI' hf=>?_
   · rw [hs]; unfold Ybj; rw [show ps[(⟨.row ps,i,t,h,ks⟩:Fr κ).turn]?=some q from hq]
   rw [el] at hI'
   have hqm:=Zn hq
   have few':Yeq B (⟨.row ps,i,t,h,ks⟩:Fr κ) (some a') b'':=.of (Za h4 (Ykg (Za (Pt.wts_take t) hw) (Yvo h2) hW)) (hf.few (Za (Pt.wts_mem hqm) hw) hW) (hB.few hI')
   obtain ⟨x,us⟩:=a'
   cases x with
   | none=>exact .pop (a':=(none,[])) (b':=b'') few' rfl hI' rfl
   | some e =>
     obtain ⟨g1,g2,g3,g4⟩:=hf
     refine ih (t+1) e (ks++us) _ _ b'' ((Nat.succ_add_eq_add_succ t j).trans hj) rfl rfl few' hI' (Za h1 g1) g2 (fun e'=>?_) ?_
     · subst e'
       have hh:h=e:=Zpc g1 h1
       subst hh
       exact Pt.mayAll_next hq (h3 rfl) (g3 rfl)
     · rw [Zf,Pt.wts_next hq,Nat.add_mul]
       exact Zcb (Za h4 (Znb _ (Yvq g1))) (Za g4 (Znb _ (Nat.sub_le_sub_left h1 _)))
theorem Yqv {W':Nat}{ps:List Pt}{i D:Nat}{L:List (Str×Nat)}(hB:Ysa B I names mb W' txt.length) (hw:Pt.wts ps≤W) (hW:W*(txt.length+1)≤5000000)
   (sub:∀ q b,q∈ps→I L b→Ygl G txt B I (q.may mb) q.wt i D L (.new q i) none b) :
   ∀ (j t h:Nat) (f:Fr κ) (a:Option (An κ)) (b:β),t+j=ps.length→Yac G txt B f a b=Ybg ps ⟨.alt ps,i,t,h,[]⟩ b→f.piece=.alt ps→Yeq B f a b→I L b →
     Ygl G txt B I (Pt.mayAny mb ps) (Pt.wts ps) i (D+1) L f a b:=by
 intro j
 induction j with
 | zero =>
   intro t h f a b hj hs hp few hI
   refine .pop (a':=(none,[])) (b':=b) few ?_ hI rfl
   rw [hs]; unfold Ybg; rw [show ps[(⟨.alt ps,i,t,h,[]⟩:Fr κ).turn]?=none from Zrb (Zr hj.symm)]
 | succ j ih =>
   intro t h f a b hj hs hp few hI
   have ht:t < ps.length:=hj▸Nat.lt_add_of_pos_right (Nat.succ_pos j)
   have hq:=Zp ht
   generalize ps[t]=q at hq
   have hqm:=Zn hq
   have el:lvl f L=L:=by simp [lvl,hp]
   refine .push (f':=⟨.alt ps,i,t,h,[]⟩) (p:=q) (j:=i) (b':=b) (ok':=q.may mb) (w':=q.wt) few ?_ (by simp [Yfa,hp]) (by rw [el]; exact sub q b hqm hI) fun a' b'' hI' hf=>?_
   · rw [hs]; unfold Ybg; rw [show ps[(⟨.alt ps,i,t,h,[]⟩:Fr κ).turn]?=some q from hq]
   rw [el] at hI'
   have few':Yeq B (⟨.alt ps,i,t,h,[]⟩:Fr κ) (some a') b'':=.of (Zkb _) (hf.few (Za (Pt.wts_mem hqm) hw) hW) (hB.few hI')
   obtain ⟨x,us⟩:=a'
   cases x with
   | none=>exact ih (t+1) h _ _ b'' ((Nat.succ_add_eq_add_succ t j).trans hj) rfl rfl few' hI'
   | some e =>
     obtain ⟨g1,g2,g3,g4⟩:=hf
     exact .pop (a':=(some e,us)) (b':=b'') few' rfl hI' ⟨g1,g2,fun e'=>Pt.mayAny_at hqm (g3 e'),Za g4 (Zvb _ (Pt.wts_mem hqm))⟩
theorem Yok {W':Nat}{p:Pt}{i D:Nat}{L:List (Str×Nat)}(hB:Ysa B I names mb W' txt.length) (hw:2*p.wt≤W) (hW:W*(txt.length+1)≤5000000)
   (sub:∀ h b,i≤h→h≤txt.length→I L b→Ygl G txt B I (p.may mb) p.wt h D L (.new p h) none b) :
   ∀ (j t h:Nat) (ks:List κ) (f:Fr κ) (a:Option (An κ)) (b:β),txt.length - h≤j→Yac G txt B f a b=.push ⟨.many p,i,t,h,ks⟩ p h b→f.piece=.many p→Yeq B f a b→I L b→i≤h→h≤txt.length→ks.length≤2*p.wt*(h - i) →
     Ygl G txt B I true (2*p.wt) i (D+1) L f a b:=by
 intro j
 induction j with
 | zero | succ j ih =>
   intro t h ks f a b hj hs hp few hI h1 h2 h4
   have el:lvl f L=L:=by simp [lvl,hp]
   refine .push (f':=⟨.many p,i,t,h,ks⟩) (p:=p) (j:=h) (b':=b) (ok':=p.may mb) (w':=p.wt) few hs (by simp [Yfa,hp]) (by rw [el]; exact sub h b h1 h2 hI) fun a' b'' hI' hf=>?_
   rw [el] at hI'
   have few':Yeq B (⟨.many p,i,t,h,ks⟩:Fr κ) (some a') b'':=.of (Za h4 (Ykg hw (Zeb (Za (Nat.sub_le _ _) h2)) hW)) (hf.few (Za (Nat.le_mul_of_pos_left _ (by decide)) hw) hW) (hB.few hI')
   have fit:Ykk true (2*p.wt) txt.length i (some h,ks):=⟨h1,h2,fun zz=>rfl,Za h4 (Znb _ (Nat.sub_le_sub_right (Nat.le_succ h) i))⟩
   obtain ⟨x,us⟩:=a'
   cases x with
   | none=>exact .pop (a':=(some h,ks)) (b':=b'') few' rfl hI' fit
   | some e =>
     obtain ⟨g1,g2,g3,g4⟩:=hf
     by_cases he:e=h
     · refine .pop (a':=(some h,ks)) (b':=b'') few' ?_ hI' fit
       show (if e=h then _ else _)=_
       rw [if_pos he]
     · have hlt:h < e:=Nat.lt_of_le_of_ne g1 (Ne.symm he)
       first
       | exact (Yx0 hj hlt g2).elim
       | refine ih t e (ks++us) _ _ b'' (Yv9 hj hlt) ?_ rfl few' hI' (Za h1 g1) g2 ?_
         · show (if e=h then _ else _)=_
           rw [if_neg he]; rfl
         · rw [Zf,Yt5 h1 g1,Nat.mul_add]
           refine Zcb h4 (Za g4 (Za (Znb _ (Ywd hlt)) (Zr ?_)))
           rw [← Nat.mul_assoc,Nat.mul_comm p.wt 2]
theorem Yga {p:Pt}{i D:Nat}{L:List (Str×Nat)}{b:β}(hB:Ysa B I names mb W txt.length) (hs:Yac G txt B (.new p i) none b=Yau txt B p (.new p i) b) (hm:p.may mb=false) (hI:I L b):Ygl G txt B I (p.may mb) p.wt i D L (.new p i) none b:=by
 have few:Yeq B (.new p i:Fr κ) none b:=.new (hB.few hI)
 cases hb:B.look b with
 | none=>exact ⟨none,.stop few (by rw [hs]; simp only [Yau,hb]),(by intros; contradiction)⟩
 | some b' =>
   have hI':=hB.look hI hb
   cases hc:txt[i]? with
   | none=>exact .pop (a':=(none,[])) (b':=b') few (by rw [hs]; simp only [Yau,Fr.new,hb,hc]) hI' rfl
   | some c' =>
     by_cases ht:p.takesC c'=true
     · exact .pop (a':=(some (i+1),[])) (b':=b') few (by rw [hs]; simp only [Yau,Fr.new,hb,hc,ht,if_true]) hI' ⟨Nat.le_succ _,(Zb.mp hc).1,fun e=>absurd e (Nat.succ_ne_self _),Zkb _⟩
     · exact .pop (a':=(none,[])) (b':=b') few (by rw [hs]; simp only [Yau,Fr.new,hb,hc,ht]; rfl) hI' rfl
theorem Ypc {x:Str}{i D:Nat}{L:List (Str×Nat)}{b:β}(hG:Ysi G names mb ix R W) (hB:Ysa B I names mb W txt.length) (hW:(W+1)*(txt.length+1)≤5000000) (hx:x∈names) (hnL:(x,i)∉L) (hi:i≤txt.length) (hI:I L b)
   (sub:∀ b',I ((x,i)::L) b'→Ygl G txt B I ((G x).may mb) (G x).wt i D ((x,i)::L) (.new (G x) i) none b'):Ygl G txt B I (mb x) 1 i (D+1) L (.new (.rule x) i) none b:=by
 have few:Yeq B (.new (.rule x) i:Fr κ) none b:=.new (hB.few hI)
 cases hk:B.known b x i with
 | some a=>exact .pop (a':=a) (b':=b) few (by simp [Yac,Fr.new,hk]) hI (hB.known hI hx hi hk)
 | none =>
   cases hb:B.begun b x i with
   | none=>exact ⟨none,.stop few (by simp [Yac,Fr.new,hk,hb]),fun zz zz e=>by cases e⟩
   | some b' =>
     refine .push (f':=.new (.rule x) i) (p:=G x) (j:=i) (b':=b') (ok':=(G x).may mb) (w':=(G x).wt) few (by simp [Yac,Fr.new,hk,hb]) hnL (sub b' (hB.begun hI hx hi hnL hk hb)) fun a' b'' hI' hf=>?_
     have hf':Ykk (mb x) W txt.length i a':=by
       unfold Ykk at hf ⊢
       split at hf
       · exact ⟨hf.1,hf.2.1,fun e'=>hG.bare x hx (hf.2.2.1 e'),Za hf.2.2.2 (Zvb _ (hG.wt x hx))⟩
       · exact hf
     have g:=hB.ended (show I ((x,i)::L) b'' from hI') hx hi hnL hf'
     exact .pop (a':=B.told b'' x i a') (b':=B.ended b'' x i a') (.of (Zkb _) (hf.few (Zeb (hG.wt x hx)) hW) (hB.few (show I ((x,i)::L) b'' from hI'))) (by simp [Yac,Fr.new]) g.1 g.2
theorem ends (hG:Ysi G names mb ix R W) (hB:Ysa B I names mb W txt.length) (hW:(W+1)*(txt.length+1)≤5000000):∀ (N n i m:Nat) (p:Pt) (L:List (Str×Nat)) (b:β),(txt.length - i)*R+(R - m)≤N→p.deep≤n→p.deep≤12→p.ok (· ∈ names)→p.wt≤W+1→(∀ y∈p.ahd mb,m≤ix y)→i≤txt.length→(∀ k∈L,k.2 < i∨(k.2=i∧ix k.1 < m))→I L b →
   Ygl G txt B I (p.may mb) p.wt i (N*14+n) L (.new p i) none b:=by
 intro N
 induction N using Nat.strongRecOn with
 | ind N IH =>
 intro n
 induction n with
 | zero=>intro i m p L b zz h; exact absurd (Za (Pt.deep_pos p) h) (Nat.not_succ_le_zero _)
 | succ n ih =>
   intro i m p L b hN hn hd hok hw ha hi hL hI
   have few0:∀ {q:Pt}{b:β},I L b→Yeq B (.new q i:Fr κ) none b:=fun h=>.new (hB.few h)
   have sub:∀ q h b,q∈p.kids→q.wt≤W+1→i≤h→h≤txt.length→(h=i→∀ y∈q.ahd mb,y∈p.ahd mb)→I L b→Ygl G txt B I (q.may mb) q.wt h (N*14+n) L (.new q h) none b:=by
     intro q h b hq hwq h1 h2 h3 hI
     have hdq:=Pt.kids_deep hq
     refine (Nat.eq_or_lt_of_le h1).elim (fun e=>?_) fun e=>?_
     · rw [← e]
       exact ih i m q L b hN (Zcc (Za hdq hn)) (Zkc (Za hdq hd)) (Pt.ok_kids hok q hq) hwq (fun y hy=>ha y (h3 e.symm y hy)) hi hL hI
     · exact ih h 0 q L b (Yw8 e h2 hN) (Zcc (Za hdq hn)) (Zkc (Za hdq hd)) (Pt.ok_kids hok q hq) hwq (fun zz zz=>Zkb _) h2 (fun k hk=>.inl ((hL k hk).elim (fun g=>Nat.lt_trans g e) fun g=>g.1▸e)) hI
   cases p with
   | sign c=>exact Yga hB rfl rfl hI
   | span c d=>exact Yga hB rfl rfl hI
   | any=>exact Yga hB rfl rfl hI
   | rule x =>
     have hx:x∈names:=by simpa only [Pt.ok1,Pt.ok2,Pt.ok3,Pt.ok4,Pt.ok5,Pt.ok6,Pt.ok7,Pt.ok8] using hok
     have hm:m≤ix x:=ha x (by simp [Pt.ahd1])
     have hR:=hG.ixl x hx
     have hnL:(x,i)∉L:=fun h=>(hL _ h).elim (Zub i) fun g=>absurd g.2 (Zo.mpr hm)
     simp only [Pt.may3,Pt.wt1]
     have hlt:=Yv7 hm hR hN
     exact Ypc hG hB hW hx hnL hi hI fun b' hIb=>(IH _ hlt (G x).deep i (ix x+1) (G x) ((x,i)::L) b' (Zl _) (Zl _) (hG.deep x hx) (hG.part x hx) (Zeb (hG.wt x hx)) (fun y hy=>hG.lead x hx y hy) hi (fun k hk=>(Zg.mp hk).elim (fun e=>.inr (e▸⟨rfl,Zs _⟩)) fun hk=>(hL k hk).imp_right fun g=>⟨g.1,Nat.lt_succ_of_lt (Zz g.2 hm)⟩) hIb).le (Yyb hlt (hG.deep x hx))
   | row ps =>
     simp only [Pt.may4,Pt.wt2] at hw ⊢
     refine Yqd hB hw hW (fun t q h b hq h1 h2 h3 hI=>sub q h b (Zn hq) (Za (Pt.wts_mem (Zn hq)) hw) h1 h2 (fun e y hy=>?_) hI) ps.length 0 i [] _ _ b (Nat.zero_add _) rfl rfl (few0 hI) hI (Zl _) hi (fun zz=>by simp [Pt.mayAll1]) (Zkb _)
     rw [Pt.ahd2]; exact Pt.ahdRow_at hq (h3 e) y hy
   | alt ps =>
     simp only [Pt.may5,Pt.wt3] at hw ⊢
     refine Yqv hB hw hW (fun q b hq hI=>sub q i b hq (Za (Pt.wts_mem hq) hw) (Zl _) hi (fun e y hy=>?_) hI) ps.length 0 i _ _ b (Nat.zero_add _) rfl rfl (few0 hI) hI
     rw [Pt.ahd3]; exact Pt.ahdAlt_at hq y hy
   | many q =>
     simp only [Pt.may1,Pt.wt4] at hw ⊢
     exact Yok hB hw hW (fun h b h1 h2 hI=>sub q h b (Zj.mpr rfl) (Za (Nat.le_mul_of_pos_left _ (by decide)) hw) h1 h2 (fun e y hy=>by rw [Pt.ahd4]; exact hy) hI) _ 0 i [] _ _ b (Zl _) rfl rfl (few0 hI) hI (Zl _) hi (Zkb _)
   | nt q =>
     simp only [Pt.may2,Pt.wt5] at hw ⊢
     refine .push (D:=N*14+n) (f':=.new (.nt q) i) (p:=q) (j:=i) (b':=b) (ok':=q.may mb) (w':=q.wt) (few0 hI) (by simp [Yac,Fr.new]) trivial (sub q i b (Zj.mpr rfl) hw (Zl _) hi (fun e y hy=>by rw [Pt.ahd5]; exact hy) hI) fun a' b'' hI' hf=>?_
     have few':Yeq B (.new (.nt q) i:Fr κ) (some a') b'':=.of (Zkb _) (hf.few hw hW) (hB.few hI')
     obtain ⟨x,us⟩:=a'
     cases x with
     | none=>exact .pop (a':=(some i,[])) (b':=b'') few' rfl hI' ⟨Zl _,hi,fun zz=>rfl,by simp⟩
     | some e=>exact .pop (a':=(none,[])) (b':=b'') few' rfl hI' rfl
noncomputable def Fr.nr (f:Fr κ):Prop:=∀ n,f.piece≠.rule n
noncomputable def Yvj (B:Bk β κ) (μ:List κ→Nat) (n:Nat) (p:Pt) (i:Nat) (b:β):Out β κ→Prop
 | .pop a b'=>μ a.2≤n∧(b'=b∨B.look b=some b')
 | .push f z1 z2 b'=>μ f.kids≤n∧b'=b∧f.piece=p∧f.place=i
 | .stop=>B.look b=none
noncomputable def Yu1 (μ:List κ→Nat):Option (An κ)→Nat
 | some a=>μ a.2
 | none=>0
theorem an3 {κ:Type}{P:Option (An κ)→Prop}(h0:P none) (h1:∀ us,P (some (none,us))) (h2:∀ e us,P (some (some e,us))):∀ a,P a
 | none=>h0
 | some (none,us)=>h1 us
 | some (some e,us)=>h2 e us
theorem Yds {μ:List κ→Nat}(h0:μ []=0) (ha:∀ xs ys,μ (xs++ys)≤μ xs+μ ys) {f:Fr κ}{a:Option (An κ)}{b:β}(hn:f.nr):Yvj B μ (μ f.kids+Yu1 μ a) f.piece f.place b (Yac G txt B f a b):=by
 obtain ⟨p,i,t,h,ks⟩:=f
 have z:∀ {n:Nat},μ []≤n:=fun {n}=>h0▸Zkb n
 have leaf:∀ {n:Nat}{p:Pt},Yvj B μ n p i b (Yau txt B p (⟨p,i,t,h,ks⟩:Fr κ) b):=fun {n p}=>by
   unfold Yau
   cases hb:B.look b with
   | none=>exact hb
   | some b' =>
     dsimp only
     cases txt[i]? with
     | none=>exact ⟨z,.inr hb⟩
     | some x =>
       dsimp only
       cases p.takesC x with
       | false=>exact ⟨z,.inr hb⟩
       | true=>exact ⟨z,.inr hb⟩
 have row:∀ {n:Nat}{ps:List Pt}{F:Fr κ},μ F.kids≤n→Yvj B μ n F.piece F.place b (Ybj ps F b):=fun {n ps F} hF=>by
   unfold Ybj
   cases ps[F.turn]? with
   | some q=>exact ⟨hF,rfl,rfl,rfl⟩
   | none=>exact ⟨hF,.inl rfl⟩
 have alt:∀ {n:Nat}{ps:List Pt}{F:Fr κ},μ F.kids≤n→Yvj B μ n F.piece F.place b (Ybg ps F b):=fun {n ps F} hF=>by
   unfold Ybg
   cases ps[F.turn]? with
   | some q=>exact ⟨hF,rfl,rfl,rfl⟩
   | none=>exact ⟨z,.inl rfl⟩
 cases p with
 | sign x=>exact leaf
 | span x y=>exact leaf
 | any=>exact leaf
 | rule n=>exact absurd rfl (hn n)
 | row ps =>
   revert a
   exact @an3 κ _ (row (F:=⟨.row ps,i,t,h,ks⟩) (Zl _)) (fun us=>⟨z,.inl rfl⟩) fun e us=>row (F:=Fr.nxt (Fr.on ⟨.row ps,i,t,h,ks⟩ e us)) (ha ks us)
 | alt ps =>
   revert a
   exact @an3 κ _ (alt (F:=⟨.alt ps,i,t,h,ks⟩) (Zl _)) (fun us=>alt (F:=Fr.nxt ⟨.alt ps,i,t,h,ks⟩) (Zy _ _)) fun e us=>⟨Ztb _ _,.inl rfl⟩
 | many q =>
   revert a
   refine @an3 κ _ ⟨Zl _,rfl,rfl,rfl⟩ (fun us=>⟨Zy _ _,.inl rfl⟩) fun e us=>?_
   · show Yvj B μ _ _ _ b (if e=h then _ else _)
     by_cases he:e=h
     · rw [if_pos he]; exact ⟨Zy _ _,.inl rfl⟩
     · rw [if_neg he]; exact ⟨ha ks us,rfl,rfl,rfl⟩
 | nt q =>
   revert a
   exact @an3 κ _ ⟨Zl _,rfl,rfl,rfl⟩ (fun us=>⟨z,.inl rfl⟩) fun e us=>⟨z,.inl rfl⟩
end
end
section
theorem Ycb {kept:List (Kid×An Kid)}{k k':Kid}{a:An Kid}:Ybp (kept++[(k,a)]) k'=(Ybp kept k').or (if k=k' then some a else none):=by
 unfold Ybp
 rw [List.find?_append]
 cases kept.find? fun p=>p.1=k' with
 | some x=>rfl
 | none=>by_cases e:k=k' <;> simp [e]
theorem Yim {kept:List (Kid×An Kid)}{k:Kid}:Ybp kept k=none↔k∉kept.map (·.1):=by
 unfold Ybp
 rw [Option.map_eq_none_iff,List.find?_eq_none,Zsb]
 exact ⟨fun h hh1=>by obtain ⟨x,h1,h2⟩:=hh1; exact h x h1 (by simpa using h2),fun h x h1 h2=>h ⟨x,h1,by simpa using h2⟩⟩
theorem Ykw {kept:List (Kid×An Kid)}{k:Kid}{a:An Kid}(h:Ybp kept k=none):Ypp kept k a=kept++[(k,a)]:=by
 unfold Ypp
 rw [if_neg]
 rw [Yim] at h
 simpa using h
structure Mc (names:List Str) (mb:Str→Bool) (W len:Nat) (L:List Kid) (b:Mm):Prop where
 nodup:b.order.Nodup
 rng:∀ k∈b.order,k.1∈names∧k.2≤len
 live:∀ k∈L,k∈b.order∧Ybp b.kept k=none
 done:∀ k∈b.order,k∈L∨∃ a,Ybp b.kept k=some a
 keys:(b.kept.map (·.1)).Nodup
 kin:∀ k∈b.kept.map (·.1),k∈b.order
 fit:∀ k a,Ybp b.kept k=some a→Ykk (mb k.1) W len k.2 a
theorem Ykr {mb:Bool}{w len:Nat}{k:Kid}{a:An Kid}(h:Ykk mb w len k.2 a):Ykk mb 1 len k.2 (Yfd k a):=by
 obtain ⟨x,us⟩:=a
 cases x with
 | none=>rfl
 | some e =>
   obtain ⟨h1,h2,h3,zz⟩:=h
   refine ⟨h1,h2,h3,?_⟩
   show 1≤1*(e+1 - k.2)
   rw [Nat.one_mul]; exact Nat.sub_pos_of_lt (Nat.lt_succ_of_le h1)
theorem Mc.few {names:List Str}{mb:Str→Bool}{W len:Nat}{L:List Kid}{b:Mm}(h:Mc names mb W len L b):b.kept.length≤names.length*(len+1)∧b.order.length≤names.length*(len+1):=by
 have key:∀ {l:List Kid},l.Nodup→(∀ k∈l,k.1∈names∧k.2≤len)→l.length≤names.length*(len+1):=fun {l} h1 h2=>by
   have:=Yhe (ns:=names.flatMap fun n=>(List.range (len+1)).map fun i=>(n,i)) h1 fun k hk=>by
     obtain ⟨g1,g2⟩:=h2 k hk
     simp only [List.mem_flatMap,Zsb,List.mem_range]
     exact ⟨k.1,g1,k.2,by lia,rfl⟩
   simpa [List.length_flatMap,List.map_const'] using this
 refine ⟨?_,key h.nodup h.rng⟩
 have:=key h.keys fun k hk=>h.rng k (h.kin k hk)
 simpa using this
theorem Yp6 {names:List Str}{mb:Str→Bool}{W len:Nat}(hz:names.length*(len+1)≤5000000):Ysa Ya0 (Mc names mb W len) names mb W len where
 few:=fun h=>⟨Za h.few.1 hz,Za h.few.2 hz⟩
 look:=fun h e=>by cases e; exact h
 known:=fun {L b n i a} h zz zz e=>by
   obtain ⟨x,h1,rfl⟩:=Zpb.mp (show (Ybp b.kept (n,i)).map (Yfd (n,i))=some a from e)
   exact Ykr (k:=(n,i)) (h.fit _ _ h1)
 begun:=fun {L b b' n i} h hn hi hL hk e=>by
   have hk:Ybp b.kept (n,i)=none:=Option.map_eq_none_iff.mp (show (Ybp b.kept (n,i)).map (Yfd (n,i))=none from hk)
   have ho:(n,i)∉b.order:=fun q=>by
     rcases h.done _ q with g | ⟨a,g⟩
     · exact hL g
     · rw [hk] at g; cases g
   cases e
   refine ⟨List.nodup_append.mpr ⟨h.nodup,by simp,fun x hx y hy=>by cases Zj.mp hy; exact fun e=>ho (e▸hx)⟩,fun k q=>?_,fun k q=>?_,fun k q=>?_,h.keys,fun k q=>Zxb _ (h.kin k q),h.fit⟩
   · rcases Zm.mp q with q | q
     · exact h.rng k q
     · cases Zj.mp q; exact ⟨hn,hi⟩
   · rcases Zg.mp q with rfl | q
     · exact ⟨by simp,hk⟩
     · exact ⟨Zxb _ (h.live k q).1,(h.live k q).2⟩
   · rcases Zm.mp q with q | q
     · rcases h.done k q with g | g
       · exact .inl (Zd _ g)
       · exact .inr g
     · cases Zj.mp q; exact .inl (by simp)
 ended:=fun {L b n i a} h hn hi hL hf=>by
   refine ⟨?_,Ykr (k:=(n,i)) hf⟩
   obtain ⟨ho,hk⟩:=h.live (n,i) (by simp)
   show Mc names mb W len L ⟨Ypp b.kept (n,i) a,b.order⟩
   rw [Ykw hk]
   have hk':=Yim.mp hk
   refine ⟨h.nodup,h.rng,fun k q=>?_,fun k q=>?_,?_,fun k q=>?_,fun k x e=>?_⟩
   · obtain ⟨g1,g2⟩:=h.live k (Zd _ q)
     refine ⟨g1,?_⟩
     show Ybp (b.kept++[((n,i),a)]) k=none
     rw [Ycb,g2,if_neg (fun e:(n,i)=k=>hL (e▸q))]; rfl
   · show k∈L∨∃ x,Ybp (b.kept++[((n,i),a)]) k=some x
     rw [Ycb]
     rcases h.done k q with g | ⟨x,g⟩
     · rcases Zg.mp g with rfl | g
       · rw [hk]; exact .inr ⟨a,by simp⟩
       · exact .inl g
     · rw [g]; exact .inr ⟨x,rfl⟩
   · show ((b.kept++[((n,i),a)]).map (·.1)).Nodup
     rw [Zfc]
     exact List.nodup_append.mpr ⟨h.keys,by simp,fun x hx y hy=>by cases Zj.mp hy; exact fun e=>hk' ((show x=(n,i) from e)▸hx)⟩
   · have q:k∈(b.kept++[((n,i),a)]).map (·.1):=q
     rw [Zfc] at q
     rcases Zm.mp q with q | q
     · exact h.kin k q
     · cases Zj.mp q; exact ho
   · have e:Ybp (b.kept++[((n,i),a)]) k=some x:=e
     rw [Ycb] at e
     cases g:Ybp b.kept k with
     | some y=>rw [g] at e; cases e; exact h.fit k _ g
     | none =>
       rw [g] at e
       by_cases q:(n,i)=k
       · subst q
         simp at e; subst e; exact hf
       · simp [q] at e
theorem Mc.nil {names:List Str}{mb:Str→Bool}{W len:Nat}:Mc names mb W len [] ⟨[],[]⟩:=⟨List.nodup_nil,(by intros; contradiction),(by intros; contradiction),(by intros; contradiction),List.nodup_nil,(by intros; contradiction),(by intros; contradiction)⟩
inductive Ev (G:Str→Pt) (txt:List Nat) (K:Kid→Option (An Kid)):Fr Kid→Option (An Kid)→An Kid→List Kid→Prop where
 | pop {f:Fr Kid}{a:Option (An Kid)}{a':An Kid}{b b':Mm}:f.nr→Yac G txt Ya0 f a b=.pop a' b'→Ev G txt K f a a' []
 | ask {f:Fr Kid}{n:Str}{a:An Kid}:f.piece=.rule n→K (n,f.place)=some a→Ev G txt K f none (Yfd (n,f.place) a) [(n,f.place)]
 | push {f f':Fr Kid}{a:Option (An Kid)}{a' o:An Kid}{p:Pt}{i:Nat}{b b':Mm}{as as':List Kid}:f.nr→Yac G txt Ya0 f a b=.push f' p i b'→Ev G txt K (.new p i) none a' as→Ev G txt K f' (some a') o as'→Ev G txt K f a o (as++as')
theorem Ev.mono {G:Str→Pt}{txt:List Nat}{K K':Kid→Option (An Kid)}(hk:∀ k a,K k=some a→K' k=some a) {f:Fr Kid}{a:Option (An Kid)}{o:An Kid}{as:List Kid}(h:Ev G txt K f a o as):Ev G txt K' f a o as:=by
 induction h with
 | pop h1 h2=>exact .pop h1 h2
 | ask h1 h2=>exact .ask h1 (hk _ _ h2)
 | push h1 h2 z1 z2 ih1 ih2=>exact .push h1 h2 ih1 ih2
theorem Yqy {G:Str→Pt}{txt:List Nat}{f:Fr Kid}{a:Option (An Kid)}{b b':Mm}{a':An Kid}(hn:f.nr) (h:Yac G txt Ya0 f a b=.pop a' b'):b'=b:=by
 have:=Yds (B:=Ya0) (G:=G) (txt:=txt) (μ:=fun zz=>0) rfl (fun zz zz=>Zl _) (a:=a) (b:=b) hn
 rw [h] at this
 exact this.2.elim id fun e=>(Zab e).symm
theorem Yri {G:Str→Pt}{txt:List Nat}{f f':Fr Kid}{a:Option (An Kid)}{b b':Mm}{p:Pt}{i:Nat}(hn:f.nr) (h:Yac G txt Ya0 f a b=.push f' p i b'):b'=b∧f'.piece=f.piece∧f'.place=f.place:=by
 have:=Yds (B:=Ya0) (G:=G) (txt:=txt) (μ:=fun zz=>0) rfl (fun zz zz=>Zl _) (a:=a) (b:=b) hn
 rw [h] at this
 exact this.2
theorem Ygk {κ:Type}{f:Fr κ}(h:¬ f.nr):∃ n,f.piece=.rule n:=Classical.byContradiction fun q=>h fun n e=>q ⟨n,e⟩
theorem Yhf {G:Str→Pt}{txt:List Nat}{f:Fr Kid}{b:Mm}{n:Str}(hn:f.piece=.rule n):(∃ x,Ybp b.kept (n,f.place)=some x∧Yac G txt Ya0 f none b=.pop (Yfd (n,f.place) x) b)∨(Ybp b.kept (n,f.place)=none∧Yac G txt Ya0 f none b=.push f (G n) f.place ⟨b.kept,b.order++[(n,f.place)]⟩):=by
 cases hk:Ybp b.kept (n,f.place) with
 | some x=>exact .inl ⟨x,rfl,by simp only [Yac,hn,Ya0,hk,Option.map_some]⟩
 | none=>exact .inr ⟨rfl,by simp only [Yac,hn,Ya0,hk,Option.map_none]⟩
inductive Dfs (Ak:Kid→List Kid→Prop):List Kid→List Kid→List Kid→Prop where
 | nil {o:List Kid}:Dfs Ak [] o o
 | old {k:Kid}{r o o':List Kid}:k∈o→Dfs Ak r o o'→Dfs Ak (k::r) o o'
 | new {k:Kid}{as r o o':List Kid}:k∉o→Ak k as→Dfs Ak (as++r) (o++[k]) o'→Dfs Ak (k::r) o o'
theorem Dfs.mono {Ak Ak':Kid→List Kid→Prop}(hm:∀ k as,Ak k as→Ak' k as) {r o o':List Kid}(h:Dfs Ak r o o'):Dfs Ak' r o o':=by
 induction h with
 | nil=>exact .nil
 | old h z1 ih=>exact .old h ih
 | new h h' z1 ih=>exact .new h (hm _ _ h') ih
theorem Dfs.app {Ak:Kid→List Kid→Prop}{r r' o o' o'':List Kid}(h:Dfs Ak r o o') (h':Dfs Ak r' o' o''):Dfs Ak (r++r') o o'':=by
 induction h with
 | nil=>exact h'
 | old h z1 ih=>exact .old h (ih h')
 | new h g z1 ih=>exact .new h g (Ze _ _ _▸ih h')
noncomputable def Ak (G:Str→Pt) (txt:List Nat) (b:Mm) (k:Kid) (as:List Kid):Prop:=∃ a,Ybp b.kept k=some a∧Ev G txt (Ybp b.kept) (.new (G k.1) k.2) none a as
structure MI (G:Str→Pt) (txt:List Nat) (L:List Kid) (b:Mm):Prop where
 live:∀ k∈L,k∈b.order∧Ybp b.kept k=none
 done:∀ k∈b.order,k∈L∨∃ as,Ak G txt b k as
 kin:∀ k a,Ybp b.kept k=some a→k∈b.order
theorem Ak.mono {G:Str→Pt}{txt:List Nat}{b b':Mm}(h:∀ k a,Ybp b.kept k=some a→Ybp b'.kept k=some a) (k:Kid) (as:List Kid) (x:Ak G txt b k as):Ak G txt b' k as:=by
 obtain ⟨a,h1,h2⟩:=x
 exact ⟨a,h _ _ h1,h2.mono h⟩
theorem MI.ended {G:Str→Pt}{txt:List Nat}{L:List Kid}{b:Mm}{k:Kid}{a:An Kid}{as:List Kid}(h:MI G txt (k::L) b) (hl:k∉L) (ha:Ev G txt (Ybp b.kept) (.new (G k.1) k.2) none a as):MI G txt L ⟨b.kept++[(k,a)],b.order⟩∧Ak G txt ⟨b.kept++[(k,a)],b.order⟩ k as∧∀ x y,Ybp b.kept x=some y→Ybp (b.kept++[(k,a)]) x=some y:=by
 obtain ⟨ho,hk⟩:=h.live k (Zt ..)
 have up:∀ x y,Ybp b.kept x=some y→Ybp (b.kept++[(k,a)]) x=some y:=fun x y e=>by rw [Ycb,e]; rfl
 have hkk:Ybp (b.kept++[(k,a)]) k=some a:=by rw [Ycb,hk,if_pos rfl]; rfl
 have aks:Ak G txt ⟨b.kept++[(k,a)],b.order⟩ k as:=⟨a,hkk,ha.mono up⟩
 refine ⟨⟨fun x q=>⟨(h.live x (Zd _ q)).1,?_⟩,fun x q=>?_,fun x y e=>?_⟩,aks,up⟩
 · show Ybp (b.kept++[(k,a)]) x=none
   rw [Ycb,(h.live x (Zd _ q)).2,if_neg (fun e:k=x=>hl (e▸q))]; rfl
 · rcases h.done x q with g | ⟨as',g⟩
   · rcases Zg.mp g with rfl | g
     · exact .inr ⟨_,aks⟩
     · exact .inl g
   · exact .inr ⟨as',Ak.mono (b':=⟨b.kept++[(k,a)],b.order⟩) up _ _ g⟩
 · have e:Ybp (b.kept++[(k,a)]) x=some y:=e
   by_cases q:k=x
   · exact q▸ho
   · rw [Ycb,if_neg q,Option.or_none] at e
     exact h.kin x y e
theorem MI.begun {G:Str→Pt}{txt:List Nat}{L:List Kid}{b:Mm}{k:Kid}(h:MI G txt L b) (hl:k∉L) (hk:Ybp b.kept k=none):MI G txt (k::L) ⟨b.kept,b.order++[k]⟩∧k∉b.order:=by
 refine ⟨⟨fun x q=>?_,fun x q=>?_,fun x y e=>Zxb _ (h.kin x y e)⟩,fun q=>?_⟩
 · rcases Zg.mp q with rfl | q
   · exact ⟨Zyb _ (Zj.mpr rfl),hk⟩
   · exact ⟨Zxb _ (h.live x q).1,(h.live x q).2⟩
 · rcases Zm.mp q with q | q
   · exact (h.done x q).imp (Zd _) id
   · exact .inl (Zj.mp q▸Zt ..)
 · rcases h.done _ q with g | ⟨zz,x,g,zz⟩
   · exact hl g
   · rw [hk] at g; cases g
inductive Yqw (G:Str→Pt) (txt:List Nat) (L:List Kid) (f:Fr Kid) (a:Option (An Kid)) (b:Mm) (a':An Kid) (b':Mm):Prop where
 | mk (as:List Kid) (h1:MI G txt L b') (h2:∀ k x,Ybp b.kept k=some x→Ybp b'.kept k=some x) (h3:Ev G txt (Ybp b'.kept) f a a' as) (h4:Dfs (Ak G txt b') as b.order b'.order):Yqw G txt L f a b a' b'
section
variable {G:Str→Pt}{txt:List Nat}{L:List Kid}{f f':Fr Kid}{a:Option (An Kid)}{b b' b'' b₂:Mm}{a' a₂:An Kid}{n:Str}{p:Pt}{i:Nat}
theorem Yp8 (hn:f.nr) (hs:Yac G txt Ya0 f a b=.pop a' b') (hI:MI G txt L b):Yqw G txt L f a b a' b':=by
 have e:=Yqy hn hs
 rw [e] at hs ⊢
 exact ⟨[],hI,fun zz zz e=>e,.pop hn hs,.nil⟩
theorem Yp1 (hn:f.piece=.rule n) (hs:Yac G txt Ya0 f none b=.pop a' b') (hI:MI G txt L b):Yqw G txt L f none b a' b':=by
 refine (Yhf (G:=G) (txt:=txt) (b:=b) hn).elim (fun h=>h.elim fun x h=>?_) fun h=>?_
 · have e:=h.2.symm.trans hs
   rw [← (Out.pop.inj e).1,← (Out.pop.inj e).2]
   exact ⟨_,hI,fun zz zz e=>e,.ask hn h.1,.old (hI.kin _ _ h.1) .nil⟩
 · have e:=h.2.symm.trans hs
   cases e
theorem Yn8 (hn:f.nr) (hs:Yac G txt Ya0 f a b=.push f' p i b') (ih1:MI G txt (lvl f L) b'→Yqw G txt (lvl f L) (.new p i) none b' a' b'') (ih2:f'.nr→MI G txt L b''→Yqw G txt L f' (some a') b'' a₂ b₂) (hI:MI G txt L b):Yqw G txt L f a b a₂ b₂:=by
 have hp:=Yri hn hs
 have el:lvl f L=L:=by
   have hm:∀ n,f.piece≠.rule n:=hn
   unfold lvl; revert hm
   exact f.piece.casesOn (fun _ _=>rfl) (fun _ _ _=>rfl) (fun _=>rfl) (fun n h=>absurd rfl (h n)) (fun _ _=>rfl) (fun _ _=>rfl) (fun _ _=>rfl) fun _ _=>rfl
 rw [el,hp.1] at ih1
 rw [hp.1] at hs
 refine (ih1 hI).rec fun as g1 g2 g3 g4=>(ih2 (fun n e=>hn n (hp.2.1▸e)) g1).rec fun as' k1 k2 k3 k4=>?_
 exact ⟨as++as',k1,fun k x hx=>k2 _ _ (g2 _ _ hx),.push hn hs (g3.mono k2) k3,(g4.mono (Ak.mono k2)).app k4⟩
theorem Yon (hn:f.piece=.rule n) (hl:Yfa f L) (hs:Yac G txt Ya0 f none b=.push f' p i b') (ih1:MI G txt (lvl f L) b'→Yqw G txt (lvl f L) (.new p i) none b' a' b'') (h2:∀ {x:An Kid}{y:Mm},Yac G txt Ya0 f' (some a') b''=.pop x y→some (a₂,b₂)=some (x,y)) (hI:MI G txt L b):Yqw G txt L f none b a₂ b₂:=by
 have hl:(n,f.place)∉L:=by simpa only [Yfa,hn] using hl
 refine (Yhf (G:=G) (txt:=txt) (b:=b) hn).elim (fun h=>h.elim fun x h=>by cases h.2.symm.trans hs) fun h=>?_
 have el:lvl f L=(n,f.place)::L:=by simp only [lvl,hn]
 have e:=Out.push.inj (h.2.symm.trans hs)
 rw [el,← e.2.1,← e.2.2.1,← e.2.2.2] at ih1
 rw [← e.1] at h2
 have m:=hI.begun hl h.1
 refine (ih1 m.1).rec fun as g1 g2 g3 g4=>?_
 have hl2:=(g1.live _ (Zt ..)).2
 have hs2:Yac G txt Ya0 f (some a') b''=.pop (Yfd (n,f.place) a') ⟨b''.kept++[((n,f.place),a')],b''.order⟩:=by
   simp only [Yac,hn]; show Out.pop _ (Mm.mk (Ypp b''.kept (n,f.place) a') b''.order)=_; rw [Ykw hl2]; rfl
 refine Yh5 (g1.ended hl g3) fun k1 k2 k3=>?_
 have e2:=Prod.mk.inj (Zab (h2 hs2))
 rw [e2.1,e2.2]
 have hxa:Ybp (b''.kept++[((n,f.place),a')]) (n,f.place)=some a':=by rw [Ycb,hl2,if_pos rfl]; rfl
 exact ⟨_,k1,fun k x e=>k3 _ _ (g2 _ _ e),.ask hn hxa,.new m.2 k2 (by rw [Zlc]; exact g4.mono (Ak.mono k3))⟩
end
theorem Bs.mem {G:Str→Pt}{txt:List Nat}{D:Nat}{L:List Kid}{f:Fr Kid}{a:Option (An Kid)}{b:Mm}{o:Option (An Kid×Mm)}(h:Bs G txt Ya0 D L f a b o):∀ a' b',o=some (a',b')→(f.nr∨a=none)→MI G txt L b→Yqw G txt L f a b a' b':=by
 induction h with
 | stop=>exact (by intros; contradiction)
 | dead=>exact (by intros; contradiction)
 | @pop D L f a b b' a' w hs =>
   intro a₂ b₂ e hr hI
   have e:=Prod.mk.inj (Zab e)
   rw [← e.1,← e.2]
   by_cases hn:f.nr
   · exact Yp8 hn hs hI
   · have ea:=hr.resolve_left hn
     rw [ea] at hs ⊢
     exact (Ygk hn).elim fun n hn=>Yp1 hn hs hI
 | @push D L f f' a b b' b'' p i a' o w hs hl h1 h2 ih1 ih2 =>
   intro a₂ b₂ e hr hI
   by_cases hn:f.nr
   · exact Yn8 hn hs (ih1 _ _ rfl (.inr rfl)) (fun h=>ih2 _ _ e (.inl h)) hI
   · have ea:=hr.resolve_left hn
     rw [ea] at hs ⊢
     exact (Ygk hn).elim fun n hn=>Yon hn hl hs (ih1 _ _ rfl (.inr rfl)) (fun q=>e.symm.trans (h2.pops q)) hI
end
section
inductive Yyq (K:Kid→Option (An Kid)):Nat→List Kid→Nat→Prop where
 | nil {i e:Nat}:i≤e→Yyq K i [] e
 | cons {i e e1:Nat}{k:Kid}{us r:List Kid}:i≤k.2→k.2≤e1→K k=some (some e1,us)→Yyq K e1 r e→Yyq K i (k::r) e
section
variable {txt:List Nat}{K:Kid→Option (An Kid)}{mb:Str→Bool}
set_option tactic.hygienic true in
set_option tactic.hygienic true in
section
variable {G:Str→Pt}{b:Mm}{i t h:Nat}{ks:List Kid}{ps:List Pt}{q:Pt}
end
end
noncomputable abbrev Row:=Nat×Kid×Nat
inductive Tr (K:Kid→Option (An Kid)):Nat→List Kid→List Row→Prop where
 | nil {d:Nat}:Tr K d [] []
 | cons {d e:Nat}{k:Kid}{ks r:List Kid}{t t':List Row}:K k=some (some e,ks)→Tr K (d+1) ks t→Tr K d r t'→Tr K d (k::r) ((d,k,e)::(t++t'))
inductive Ypy (K:Kid→Option (An Kid)):List (Nat×Kid)→List Row→Prop where
 | nil:Ypy K [] []
 | cons {d e:Nat}{k:Kid}{ks:List Kid}{r:List (Nat×Kid)}{t:List Row}:K k=some (some e,ks)→Ypy K (ks.map (d+1,·)++r) t→Ypy K ((d,k)::r) ((d,k,e)::t)
theorem Tr.walk {K:Kid→Option (An Kid)}{d:Nat}{ks:List Kid}{t:List Row}(h:Tr K d ks t):∀ {r:List (Nat×Kid)}{t':List Row},Ypy K r t'→Ypy K (ks.map (d,·)++r) (t++t'):=by
 induction h with
 | nil=>exact fun h=>h
 | cons h1 z1 z2 ih1 ih2=>exact fun {r t'} h=>.cons h1 ((Ze _ _ _).symm▸ih1 (ih2 h):Ypy _ _ ((_++_)++t'))
theorem Ypy.len {K:Kid→Option (An Kid)}{r:List (Nat×Kid)}{t:List Row}(h:Ypy K r t):r.length≤t.length:=by
 induction h with
 | nil=>exact Zl _
 | cons z1 z2 ih=>rw [Zf] at ih; exact Zwb (Za (Ztb _ _) ih)
end
section
set_option genCtorIdx false in
inductive Nd where
 | mk (n:Str) (i e:Nat) (ks:List Nd)
noncomputable def Yco (most b:Nat):Option Nat:=if b+1≤most then some (b+1) else none
noncomputable def Yb7 (n:Str) (i:Nat) (a:An Nd):An Nd:=match a.1 with
 | none=>(none,[])
 | some e=>(some e,[.mk n i e a.2])
noncomputable def Yay (most:Nat):Bk Nat Nd where
 look:=Yco most
 known:=fun zz zz zz=>none
 begun:=fun b zz zz=>Yco most b
 ended:=fun b zz zz zz=>b
 told:=fun zz n i a=>Yb7 n i a
 few:=fun zz=>True
mutual
noncomputable def Yk4 (σ:Hp) (A:List Nat):Nd→V→Prop
 | .mk n i e ks,v=>∃ l vs,v=.tup [.str n,.int i,.int e,.ref l]∧l∉A∧σ[l]?=some (.list vs)∧NdsAt σ A ks vs
noncomputable def NdsAt (σ:Hp) (A:List Nat):List Nd→List V→Prop
 | [],vs=>vs=[]
 | x::xs,vs=>∃ v r,vs=v::r∧Yk4 σ A x v∧NdsAt σ A xs r
end
mutual
theorem Yk4.keep {σ σ':Hp}{A A':List Nat}(o:On σ A σ' A'):∀ {x:Nd}{v:V},Yk4 σ A x v→Yk4 σ' A' x v
 | .mk n i e ks,v,h=>by
   obtain ⟨l,vs,h1,h2,h3,h4⟩:=h
   exact ⟨l,vs,h1,fun q=>h2 (o.live l q (Zb.mp h3).1),o.keep _ _ h3 h2,NdsAt.keep o h4⟩
theorem NdsAt.keep {σ σ':Hp}{A A':List Nat}(o:On σ A σ' A'):∀ {xs:List Nd}{vs:List V},NdsAt σ A xs vs→NdsAt σ' A' xs vs
 | [],z1,h=>h
 | x::xs,z1,h=>by
   obtain ⟨v,r,h1,h2,h3⟩:=h
   exact ⟨v,r,h1,Yk4.keep o h2,NdsAt.keep o h3⟩
end
noncomputable def Yvi:Ysf Nd where
 r:=Yk4
 keep:=fun h a b=>Yk4.keep ⟨a,b⟩ h
theorem Yus {σ:Hp}{A:List Nat}:∀ {xs:List Nd}{vs:List V},KRs Yvi σ A xs vs→NdsAt σ A xs vs:=by
 intro xx
 induction xx with
 | nil =>
   intro z1 h
   exact h
 | cons x xs ih =>
   intro z1 h
   obtain ⟨v,r,h1,h2,h3⟩:=h
   exact ⟨v,r,h1,h2,ih h3⟩
theorem Yth {names:List Str}{mb:Str→Bool}{most W len:Nat}:Ysa (Yay most) (fun zz zz=>True) names mb W len where
 few:=fun zz=>trivial
 look:=fun zz zz=>trivial
 known:=fun zz zz zz e=>by cases e
 begun:=fun zz zz zz zz zz zz=>trivial
 ended:=fun {L b n i a} zz zz zz zz hf=>by
   refine ⟨trivial,?_⟩
   obtain ⟨x,us⟩:=a
   cases x with
   | none=>rfl
   | some e =>
     obtain ⟨h1,h2,h3,zz⟩:=hf
     exact ⟨h1,h2,h3,by show 1≤1*(e+1 - i); lia⟩
mutual
noncomputable def Nd.rows (d:Nat):Nd→List Row
 | .mk n i e ks=>(d,(n,i),e)::Nd.rowsL (d+1) ks
noncomputable def Nd.rowsL (d:Nat):List Nd→List Row
 | []=>[]
 | x::r=>x.rows d++Nd.rowsL d r
end
theorem Nd.rows1 (d:Nat) (n:Str) (i e:Nat) (ks:List Nd):Nd.rows d (Nd.mk n i e ks)=(d,(n,i),e)::Nd.rowsL (d+1) ks:=rfl
theorem Nd.rowsL1 (d:Nat):Nd.rowsL d []=[]:=rfl
theorem Nd.rowsL2 (d:Nat) (x_1:Nd) (r:List Nd):Nd.rowsL d (x_1::r)=Nd.rows d x_1++Nd.rowsL d r:=rfl
noncomputable abbrev Wt:=Nat×Nd×V
noncomputable def Ybq (st:List Wt):List Row:=st.flatMap fun x=>x.2.1.rows x.1
theorem Ygb {d:Nat}:∀ (ks:List Nd) (vs:List V),vs.length=ks.length→Ybq ((ks.zip vs).map fun x=>(d,x.1,x.2))=Nd.rowsL d ks
 | [],z1,z2=>by simp [Ybq,Nd.rowsL1]
 | x::r,[],h=>by cases h
 | x::r,v::vs,h=>by
   have:=Ygb (d:=d) r vs (by simpa using h)
   simp only [Ybq] at this
   simp [Ybq,Nd.rowsL2,this]
theorem NdsAt.zip {σ:Hp}{A:List Nat}:∀ {ks:List Nd}{vs:List V},NdsAt σ A ks vs→vs.length=ks.length∧∀ x∈ks.zip vs,Yk4 σ A x.1 x.2:=by
 intro xx
 induction xx with
 | nil =>
   intro vs h
   cases (show vs=[] from h); exact ⟨rfl,(by intros; contradiction)⟩
 | cons x r ih =>
   intro z1 h
   obtain ⟨v,us,rfl,h1,h2⟩:=h
   obtain ⟨g1,g2⟩:=ih h2
   refine ⟨by simp [g1],fun y hy=>?_⟩
   rw [List.zip_cons_cons] at hy
   rcases Zg.mp hy with rfl | hy
   · exact h1
   · exact g2 y hy
theorem Yet:∀ {st:List Wt},st.length≤(Ybq st).length
 | []=>Zl _
 | (d,.mk n i e ks,v)::r=>by
   have:=Yet (st:=r)
   simp only [Ybq,List.flatMap_cons,Zf,List.length_cons,Nd.rows1] at this ⊢; lia
end
section
theorem Bs.mem_go {G:Str→Pt}{txt:List Nat}{D:Nat}{L:List Kid}{f:Fr Kid}{a:Option (An Kid)}{b:Mm}{o:Option (An Kid×Mm)}(h:Bs G txt Ya0 D L f a b o):o≠none:=by
 induction h with
 | @stop D L f a b w hs =>
   by_cases hn:f.nr
   · have:=Yds (B:=Ya0) (G:=G) (txt:=txt) (μ:=fun zz=>0) rfl (fun zz zz=>Zl _) (a:=a) (b:=b) hn
     rw [hs] at this; cases this
   · obtain ⟨n,hn⟩:=Ygk hn
     cases a with
     | some x=>simp only [Yac,hn] at hs; cases hs
     | none=>rcases Yhf (G:=G) (txt:=txt) (b:=b) hn with ⟨zz,zz,q⟩ | ⟨zz,q⟩ <;> rw [q] at hs <;> cases hs
 | pop=>exact nofun
 | dead z1 z2 z3 z4 ih=>exact ih
 | push z1 z2 z3 z4 z5 z6 ih=>exact ih
theorem Yw7 {l i R:Nat}:(l - i)*R+(R - 0)≤(l+1)*R:=by
 rw [Nat.succ_mul]; exact Zac (Zvb _ (Nat.sub_le ..)) R
theorem Ev.rule {G:Str→Pt}{txt:List Nat}{K:Kid→Option (An Kid)}{n:Str}{i:Nat}{o:An Kid}{as:List Kid}(h:Ev G txt K (.new (.rule n) i) none o as):∃ a,K (n,i)=some a∧o=Yfd (n,i) a∧as=[(n,i)]:=by
 cases h with
 | pop h=>exact absurd rfl (h n)
 | ask h h2=>cases h; exact ⟨_,h2,rfl,rfl⟩
 | push h=>exact absurd rfl (h n)
theorem Yvf {x:Nat}(h:x≤4000000):x+1≤5000000:=Za (Zwb h) (by decide)
section
variable {G:Str→Pt}{txt:List Nat}{names:List Str}{mb:Str→Bool}{ix:Str→Nat}{R W:Nat}{b:Mm}
theorem Yla (hG:Ysi G names mb ix R W) (hW:(W+1)*(txt.length+1)≤5000000) (hz:names.length*(txt.length+1)≤5000000) (hD:(txt.length+1)*R*14≤4000000) (hm:Mc names mb W txt.length [] b) (hi:MI G txt [] b) {name:Str}{i:Nat}(hn:name∈names) (hl:i≤txt.length) :
   ∃ (n:Nat) (x:An Kid) (b':Mm),Fin G txt Ya0 (· = some (Yfd (name,i) x,b')) n ⟨[.new (.rule name) i],none,b⟩∧Ybp b'.kept (name,i)=some x∧Mc names mb W txt.length [] b'∧MI G txt [] b'∧(∀ k y,Ybp b.kept k=some y→Ybp b'.kept k=some y)∧Dfs (Ak G txt b') [(name,i)] b.order b'.order:=by
 have hN:=Yw7 (l:=txt.length) (i:=i) (R:=R)
 refine (ends hG (Yp6 hz) hW _ 1 i 0 (.rule name) [] b hN (by simp [Pt.deep8]) (by simp [Pt.deep8]) (by simpa only [Pt.ok1,Pt.ok2,Pt.ok3,Pt.ok4,Pt.ok5,Pt.ok6,Pt.ok7,Pt.ok8] using hn) (by simp [Pt.wt1]) (fun zz zz=>Zkb _) hl (by intros; contradiction) hm).elim fun o hh=>?_
 have he:o=none→False:=fun e=>(e▸hh.1).mem_go rfl
 revert hh he
 refine o.rec (fun zz he=>(he rfl).elim) fun y hh zz=>?_
 refine (hh.1.mem y.1 y.2 rfl (.inr rfl) hi).rec fun as k1 k2 k3 k4=>k3.rule.elim fun x e=>(hh.1.run (Yvf hD)).elim fun n hfin=>?_
 rw [e.2.2] at k4
 exact ⟨n,x,y.2,e.2.1▸hfin,e.1,(hh.2 _ _ rfl).1,k1,k2,k4⟩
end
theorem MI.nil {G:Str→Pt}{txt:List Nat}:MI G txt [] ⟨[],[]⟩:=⟨(by intros; contradiction),(by intros; contradiction),(by intros; contradiction)⟩
noncomputable def Yxb (rs:List (Str×Pt)) (n:Str):Nat:=(rs.map (·.1)).idxOf n
theorem Yj8 {rs:List (Str×Pt)}(hn:(rs.map (·.1)).Nodup) {j:Nat}{r:Str×Pt}(h:rs[j]?=some r):Yxb rs r.1=j:=by
 obtain ⟨h1,rfl⟩:=Zb.mp h
 have:=hn.idxOf_getElem j (by simpa using h1)
 simpa [Yxb] using this
theorem Ytc {rs:List (Str×Pt)}{G:Str→Pt}{W:Nat}(hG:∀ r∈rs,G r.1=r.2) (hg:Yan rs) (hl:Yey rs) (hw:∀ r∈rs,r.2.wt≤W):Ysi G (rs.map (·.1)) (inB (Ybi rs rs.length)) (Yxb rs) rs.length W:=by
 have at_:∀ {P:Str→Prop},(∀ r∈rs,P r.1)→∀ n∈rs.map (·.1),P n:=fun h n hn=>by
   obtain ⟨r,hr,rfl⟩:=Zsb.mp hn
   exact h r hr
 refine ⟨at_ fun r hr=>?_,at_ fun r hr=>?_,at_ fun r hr=>?_,at_ fun r hr=>?_,at_ fun r hr=>?_,at_ fun r hr=>?_⟩
 · rw [hG r hr]
   exact Pt.ok_of _ r.2 (Zl _) (hg.all r hr).good (hg.all r hr).few fun m hm=>(hg.all r hr).asks m hm
 · rw [hG r hr]; exact (hg.all r hr).deep
 · rw [hG r hr]; exact hw r hr
 · rw [hG r hr]
   intro y hy
   obtain ⟨j,hj⟩:=List.mem_iff_getElem?.mp hr
   obtain ⟨k,r',h1,h2,rfl⟩:=hl j r hj _ y hy
   rw [Yj8 hg.nodup hj,Yj8 hg.nodup h2]; exact h1
 · obtain ⟨j,hj⟩:=List.mem_iff_getElem?.mp hr
   rw [Yj8 hg.nodup hj]; exact (Zb.mp hj).1
 · rw [hG r hr]
   intro h
   rw [Yew,← Ylt]
   exact Yjl.mpr ⟨r,hr,h,rfl⟩
end
section
mutual
noncomputable def Nd.cnt:Nd→Nat
 | .mk z1 z2 z3 ks=>Nd.cnts ks+1
noncomputable def Nd.cnts:List Nd→Nat
 | []=>0
 | x::r=>x.cnt+Nd.cnts r
end
theorem Nd.cnt1 (z1:Str) (z2 z3:Nat) (ks:List Nd):(Nd.mk z1 z2 z3 ks).cnt=Nd.cnts ks+1:=rfl
theorem Nd.cnts1:Nd.cnts []=0:=rfl
theorem Nd.cnts2 (x_1:Nd) (r:List Nd):Nd.cnts (x_1::r)=x_1.cnt+Nd.cnts r:=rfl
theorem Nd.cnts_app:∀ xs ys:List Nd,Nd.cnts (xs++ys)=Nd.cnts xs+Nd.cnts ys:=by
 intro xx
 induction xx with
 | nil =>
   intro ys
   simp [Nd.cnts1]
 | cons x r ih =>
   intro ys
   rw [List.cons_append,Nd.cnts2,Nd.cnts2,ih ys,Nat.add_assoc]
mutual
theorem Nd.rows_len (d:Nat):∀ x:Nd,(x.rows d).length=x.cnt
 | .mk z1 z2 z3 ks=>by simp [Nd.rows1,Nd.cnt1,Nd.rowsL_len (d+1) ks]
theorem Nd.rowsL_len (d:Nat):∀ xs:List Nd,(Nd.rowsL d xs).length=Nd.cnts xs
 | []=>by simp [Nd.rowsL1,Nd.cnts1]
 | x::r=>by simp [Nd.rowsL2,Nd.cnts2,Nd.rows_len d x,Nd.rowsL_len d r]
end
theorem a_ct {n k c c1 c2 m x:Nat}(g1:x+c≤c1) (k1:k+c1≤c2+(m+x)) (t1:m≤n):k+c≤c2+n :=
 Nat.le_of_add_le_add_right (b:=x) (Za (Zr (by rw [Nat.add_assoc,Nat.add_comm c x])) (Za (Zzb g1 k) (Za k1 (Za (Zzb (Zac t1 x) c2) (Zr (Nat.add_assoc c2 n x).symm)))))
theorem Yf2 {most b x:Nat}(h:Yco most b=some x):x=b+1∧b+1≤most:=by
 unfold Yco at h
 by_cases hc:b+1≤most
 · rw [if_pos hc] at h; cases h; exact ⟨rfl,hc⟩
 · rw [if_neg hc] at h; cases h
theorem Yr5 (xs ys:List Nd):Nd.cnts (xs++ys)≤Nd.cnts xs+Nd.cnts ys:=Zr (Nd.cnts_app xs ys)
theorem Ybl {G:Str→Pt}{txt:List Nat}{most:Nat}{f:Fr Nd}{c:Nat}{n:Str}(hf:f.piece=.rule n):(c+1≤most∧Yac G txt (Yay most) f none c=.push f (G n) f.place (c+1))∨Yac G txt (Yay most) f none c=.stop:=by
 by_cases hc:c+1≤most
 · exact .inl ⟨hc,by simp only [Yac,hf,Yay,Yco,if_pos hc]⟩
 · exact .inr (by simp only [Yac,hf,Yay,Yco,if_neg hc])
theorem Bs.ct {G:Str→Pt}{txt:List Nat}{most D:Nat}{L:List Kid}{f:Fr Nd}{a:Option (An Nd)}{c:Nat}{o:Option (An Nd×Nat)}(h:Bs G txt (Yay most) D L f a c o):∀ a' c',o=some (a',c')→(f.nr∨a=none)→Nd.cnts a'.2+c≤c'+(Nd.cnts f.kids+Yu1 Nd.cnts a)∧(c'=c∨c'≤most):=by
 induction h with
 | stop=>exact (by intros; contradiction)
 | dead=>exact (by intros; contradiction)
 | @pop D L f a b b' a' w hs =>
   intro zz zz e hr
   cases e
   by_cases hn:f.nr
   · have:=Yds (B:=Yay most) (G:=G) (txt:=txt) (μ:=Nd.cnts) (by rw [Nd.cnts1]) Yr5 (a:=a) (b:=b) hn
     rw [hs] at this
     obtain ⟨t1,rfl | t2⟩:=this
     · exact ⟨Za (Zac t1 b') (Zr (Nat.add_comm ..)),.inl rfl⟩
     · obtain ⟨rfl,t3⟩:=Yf2 t2
       exact ⟨Za (Zcb t1 (Nat.le_succ b)) (Zr (Nat.add_comm ..)),.inr t3⟩
   · obtain rfl:=hr.resolve_left hn
     obtain ⟨n,hn⟩:=Ygk hn
     rcases Ybl (G:=G) (txt:=txt) (most:=most) (c:=b) hn with ⟨zz,q⟩ | q <;> rw [q] at hs <;> cases hs
 | @push D L f f' a b b' b'' p i a' o w hs hl h1 h2 ih1 ih2 =>
   intro a₂ b₂ e hr
   have e0:Nd.cnts (Fr.new p i:Fr Nd).kids+Yu1 Nd.cnts none=0:=by rw [Fr.new,Nd.cnts1]; rfl
   by_cases hn:f.nr
   · have:=Yds (B:=Yay most) (G:=G) (txt:=txt) (μ:=Nd.cnts) (by rw [Nd.cnts1]) Yr5 (a:=a) (b:=b) hn
     rw [hs] at this
     obtain ⟨t1,rfl,t2,zz⟩:=this
     obtain ⟨g1,g3⟩:=ih1 _ _ rfl (.inr rfl)
     obtain ⟨k1,k3⟩:=ih2 _ _ e (.inl fun n q=>hn n (t2▸q))
     rw [e0,Nat.add_zero] at g1
     exact ⟨a_ct g1 k1 t1,k3.elim (fun e=>e▸g3) .inr⟩
   · obtain rfl:=hr.resolve_left hn
     obtain ⟨n,hn⟩:=Ygk hn
     rcases Ybl (G:=G) (txt:=txt) (most:=most) (c:=b) hn with ⟨hb,q⟩ | q <;> rw [q] at hs <;> cases hs
     obtain ⟨g1,g3⟩:=ih1 _ _ rfl (.inr rfl)
     rw [e0,Nat.add_zero] at g1
     have hs2:Yac G txt (Yay most) f (some a') b''=.pop (Yb7 n f.place a') b'':=by simp only [Yac,hn]; rfl
     have hz:Nd.cnts (Yb7 n f.place a').2≤Nd.cnts a'.2+1:=by
       obtain ⟨x,us⟩:=a'
       cases x with
       | none=>rw [Yb7,Nd.cnts1]; exact Zkb _
       | some e=>rw [Yb7,Nd.cnts2,Nd.cnt1,Nd.cnts1]; exact Zl _
     have g3:b''≤most:=g3.elim (fun e=>e▸hb) id
     obtain ⟨e1,e2⟩:=Prod.mk.inj (Zab (e.symm.trans (h2.pops hs2)))
     rw [e1,e2]
     exact ⟨Nat.le_add_right_of_le (Za (Zac hz b) (Za (Zr (Nat.succ_add_eq_add_succ _ b)) g1)),.inr g3⟩
theorem Bs.rule_ct {G:Str→Pt}{txt:List Nat}{most D:Nat}{L:List Kid}{f:Fr Nd}{c:Nat}{o:Option (An Nd×Nat)}{n:Str}(h:Bs G txt (Yay most) D L f none c o) (hf:f.piece=.rule n):∀ a c',o=some (a,c')→c+1≤most∧∃ x:An Nd,a=Yb7 n f.place x:=by
 intro a c' e
 have h:=h.out
 rcases Ybl (G:=G) (txt:=txt) (most:=most) (c:=c) hf with ⟨k1,k2⟩ | k2 <;> rw [k2] at h
 · obtain ⟨D',zz,zz,⟨zz,e'⟩ | ⟨a',b'',zz,h2⟩⟩:=h
   · cases e.symm.trans e'
   · have hs2:Yac G txt (Yay most) f (some a') b''=.pop (Yb7 n f.place a') b'':=by simp only [Yac,hf]; rfl
     exact ⟨k1,a',(Prod.mk.inj (Zab (e.symm.trans (h2.pops hs2)))).1⟩
 · cases e.symm.trans h
section
variable {G:Str→Pt}{txt:List Nat}{names:List Str}{mb:Str→Bool}{ix:Str→Nat}{R W most:Nat}
theorem Ypg (hG:Ysi G names mb ix R W) (hW:(W+1)*(txt.length+1)≤5000000) (hD:(txt.length+1)*R*14≤4000000) {name:Str}{i:Nat}(hn:name∈names) (hl:i≤txt.length) :
   ∃ o D,D≤(txt.length+1)*R*14+1∧Bs G txt (Yay most) D [] (.new (.rule name) i) none 0 o∧(∃ n,Fin G txt (Yay most) (· = o) n ⟨[.new (.rule name) i],none,0⟩)∧∀ a c,o=some (a,c)→1≤most∧c≤most∧∃ x:An Nd,a=Yb7 name i x∧Nd.cnts a.2≤most:=by
 have hN:=Yw7 (l:=txt.length) (i:=i) (R:=R)
 obtain ⟨o,h1,h2⟩:=ends (I:=fun zz zz=>True) hG (Yth (most:=most)) hW _ 1 i 0 (.rule name) [] 0 hN (by simp [Pt.deep8]) (by simp [Pt.deep8]) (by simpa only [Pt.ok1,Pt.ok2,Pt.ok3,Pt.ok4,Pt.ok5,Pt.ok6,Pt.ok7,Pt.ok8] using hn) (by simp [Pt.wt1]) (fun zz zz=>Zkb _) hl (by intros; contradiction) trivial
 refine ⟨o,_,Zl _,h1,h1.run (Yvf hD),fun a c e=>?_⟩
 obtain ⟨g1,g3⟩:=h1.ct a c e (.inr rfl)
 rw [show Nd.cnts (Fr.new (.rule name) i:Fr Nd).kids+Yu1 Nd.cnts none=0 by rw [Fr.new,Nd.cnts1]; rfl] at g1
 obtain ⟨h3,h4⟩:=h1.rule_ct rfl a c e
 have hc:c≤most:=g3.elim (fun e=>e▸Zkb _) id
 exact ⟨h3,hc,h4.imp fun x hx=>⟨hx,Za g1 hc⟩⟩
end
end
section
theorem Bs.det {β κ:Type}{G:Str→Pt}{txt:List Nat}{B:Bk β κ}{D:Nat}{L:List Kid}{f:Fr κ}{a:Option (An κ)}{b:β}{o:Option (An κ×β)}(h:Bs G txt B D L f a b o):∀ {D':Nat}{L':List Kid}{o':Option (An κ×β)},Bs G txt B D' L' f a b o'→o=o':=by
 induction h with
 | stop z1 hs=>intro zz zz zz h; have:=h.out; rw [hs] at this; exact this.symm
 | pop z1 hs=>intro zz zz zz h; exact (h.pops hs).symm
 | dead z1 hs z2 z3 ih =>
   intro zz zz zz h
   have:=h.out
   rw [hs] at this
   obtain ⟨zz,zz,zz,⟨zz,e⟩ | ⟨zz,zz,g,zz⟩⟩:=this
   · exact e.symm
   · cases ih g
 | push z1 hs z2 z3 z4 ih1 ih2 =>
   intro zz zz zz h
   have:=h.out
   rw [hs] at this
   obtain ⟨zz,zz,zz,⟨g,zz⟩ | ⟨zz,zz,g1,g2⟩⟩:=this
   · cases ih1 g
   · cases ih1 g1
     exact ih2 g2
theorem Ym2 {m m' c x:Nat}(h:m'≤m) (e:Yco m' c=some x):Yco m c=some x:=by
 obtain ⟨rfl,h1⟩:=Yf2 e
 exact if_pos (Za h1 h)
theorem Yju {txt:List Nat}{m m' c:Nat}{p:Pt}{f:Fr Nd}(h:m'≤m):Yau txt (Yay m') p f c=.stop∨Yau txt (Yay m) p f c=Yau txt (Yay m') p f c:=by
 unfold Yau
 cases e:Yco m' c with
 | none=>rw [show (Yay m').look c=none from e]; exact .inl rfl
 | some x=>rw [show (Yay m').look c=some x from e,show (Yay m).look c=some x from Ym2 h e]; exact .inr rfl
theorem Yog {G:Str→Pt}{txt:List Nat}{m m' c:Nat}{f:Fr Nd}{a:Option (An Nd)}(h:m'≤m):Yac G txt (Yay m') f a c=.stop∨Yac G txt (Yay m) f a c=Yac G txt (Yay m') f a c:=by
 obtain ⟨p,i,t,hh,ks⟩:=f
 cases p with
 | row ps=>exact .inr rfl
 | alt ps=>exact .inr rfl
 | many p=>exact .inr rfl
 | nt p=>exact .inr rfl
 | sign z1=>exact Yju h
 | span z1 z2=>exact Yju h
 | any=>exact Yju h
 | rule n =>
   cases a with
   | some a=>exact .inr rfl
   | none =>
     rcases Ybl (G:=G) (txt:=txt) (most:=m') (c:=c) (f:=⟨.rule n,i,t,hh,ks⟩) rfl with ⟨h1,e⟩ | e
     · rcases Ybl (G:=G) (txt:=txt) (most:=m) (c:=c) (f:=⟨.rule n,i,t,hh,ks⟩) rfl with ⟨zz,e'⟩ | e'
       · exact .inr (e'.trans e.symm)
       · refine .inr ?_
         simp only [Yac,Yay,Yco,if_pos h1,if_pos (Za h1 h)]
     · exact .inl e
theorem Bs.up {G:Str→Pt}{txt:List Nat}{m m' D:Nat}{L:List Kid}{f:Fr Nd}{a:Option (An Nd)}{c:Nat}{o:Option (An Nd×Nat)}(hm:m'≤m) (h:Bs G txt (Yay m') D L f a c o):o≠none→Bs G txt (Yay m) D L f a c o:=by
 induction h with
 | stop=>intro g; exact absurd rfl g
 | dead=>intro g; exact absurd rfl g
 | pop w hs =>
   intro zz
   rcases Yog hm with e | e
   · rw [e] at hs; cases hs
   · exact .pop w (e.trans hs)
 | push w hs hl z1 z2 ih1 ih2 =>
   intro g
   rcases Yog hm with e | e
   · rw [e] at hs; cases hs
   · exact .push w (e.trans hs) hl (ih1 nofun) (ih2 g)
inductive TrN (K:Kid→Option (An Kid)):List Kid→List Nd→Prop where
 | nil:TrN K [] []
 | cons {e:Nat}{k:Kid}{ks r:List Kid}{ts us:List Nd}:K k=some (some e,ks)→TrN K ks ts→TrN K r us→TrN K (k::r) (.mk k.1 k.2 e ts::us)
theorem TrN.app {K:Kid→Option (An Kid)}{a b:List Kid}{x y:List Nd}(h:TrN K a x) (g:TrN K b y):TrN K (a++b) (x++y):=by
 induction h with
 | nil=>exact g
 | cons h1 h2 z1 z2 ih=>exact .cons h1 h2 ih
theorem TrN.tr {K:Kid→Option (An Kid)}{ks:List Kid}{ts:List Nd}(h:TrN K ks ts):∀ d,Tr K d ks (Nd.rowsL d ts):=by
 induction h with
 | nil=>intro d; rw [Nd.rowsL1]; exact .nil
 | cons h1 z1 z2 ih1 ih2=>intro d; rw [Nd.rowsL2,Nd.rows1]; exact .cons h1 (ih1 _) (ih2 _)
inductive AnR (K:Kid→Option (An Kid)):An Kid→An Nd→Prop where
 | none {ks:List Kid}{ts:List Nd}:AnR K (none,ks) (none,ts)
 | some {e:Nat}{ks:List Kid}{ts:List Nd}:TrN K ks ts→AnR K (some e,ks) (some e,ts)
inductive FrR (K:Kid→Option (An Kid)):Fr Kid→Fr Nd→Prop where
 | mk {p:Pt}{i t h:Nat}{ks:List Kid}{ts:List Nd}:TrN K ks ts→FrR K ⟨p,i,t,h,ks⟩ ⟨p,i,t,h,ts⟩
inductive Ylb (K:Kid→Option (An Kid)):Out Mm Kid→Out Nat Nd→Prop where
 | stop {o:Out Mm Kid}:Ylb K o .stop
 | pop {a:An Kid}{x:An Nd}{b:Mm}{c:Nat}:AnR K a x→Ylb K (.pop a b) (.pop x c)
 | push {f:Fr Kid}{g:Fr Nd}{p:Pt}{i:Nat}{b:Mm}{c:Nat}:FrR K f g→Ylb K (.push f p i b) (.push g p i c)
section
variable {K:Kid→Option (An Kid)}{G:Str→Pt}{txt:List Nat}{m c:Nat}{b:Mm}
theorem Yg4 {ps:List Pt}{f:Fr Kid}{g:Fr Nd}(h:FrR K f g):Ylb K (Ybj ps f b) (Ybj ps g c):=by
 induction h with
 | @mk p i t h ks ts hk =>
   unfold Ybj
   cases ps[t]? with
   | none=>exact .pop (.some hk)
   | some p=>exact .push (.mk hk)
theorem Ygu {ps:List Pt}{f:Fr Kid}{g:Fr Nd}(h:FrR K f g):Ylb K (Ybg ps f b) (Ybg ps g c):=by
 induction h with
 | @mk p i t h ks ts hk =>
   unfold Ybg
   cases ps[t]? with
   | none=>exact .pop .none
   | some p=>exact .push (.mk hk)
theorem Yd3 {p:Pt}{f:Fr Kid}{g:Fr Nd}(h:FrR K f g):Ylb K (Yau txt Ya0 p f b) (Yau txt (Yay m) p g c):=by
 induction h with
 | @mk q i t h ks ts hk =>
   unfold Yau
   cases (Yay m).look c with
   | none=>exact .stop
   | some x =>
     dsimp only [Ya0]
     cases txt[i]? with
     | none=>exact .pop .none
     | some s =>
       dsimp only
       cases p.takesC s
       · exact .pop .none
       · exact .pop (.some .nil)
inductive Yux (K:Kid→Option (An Kid)):Option (An Kid)→Option (An Nd)→Prop where
 | none:Yux K none none
 | some {a:An Kid}{x:An Nd}:AnR K a x→Yux K (some a) (some x)
theorem Yfe {f:Fr Kid}{g:Fr Nd}{a:Option (An Kid)}{x:Option (An Nd)}(h:FrR K f g) (ha:Yux K a x) (hn:f.nr):Ylb K (Yac G txt Ya0 f a b) (Yac G txt (Yay m) g x c):=by
 induction h with
 | @mk p i t h ks ts hk =>
   cases p with
   | rule n=>exact absurd rfl (hn n)
   | sign z1=>exact Yd3 (.mk hk)
   | span z1 z2=>exact Yd3 (.mk hk)
   | any=>exact Yd3 (.mk hk)
   | row ps=>exact ha.rec (Yg4 (.mk hk)) fun ha=>ha.rec (.pop .none) fun ht=>Yg4 (.mk (hk.app ht))
   | alt ps=>exact ha.rec (Ygu (.mk hk)) fun ha=>ha.rec (Ygu (.mk hk)) fun ht=>.pop (.some ht)
   | many p =>
     exact ha.rec (.push (.mk hk)) fun ha=>ha.rec (.pop (.some hk)) fun {e zz zz} ht=>by
       show Ylb K (if e=h then _ else _) (if e=h then _ else _)
       by_cases q:e=h
       · rw [if_pos q,if_pos q]; exact .pop (.some hk)
       · rw [if_neg q,if_neg q]; exact .push (.mk (hk.app ht))
   | nt p=>exact ha.rec (.push (.mk hk)) fun ha=>ha.rec (.pop (.some .nil)) fun ht=>.pop .none
theorem FrR.piece {f:Fr Kid}{g:Fr Nd}(h:FrR K f g):g.piece=f.piece∧g.place=f.place:=h.rec fun zz=>⟨rfl,rfl⟩
theorem Yqm {n:Str}{i:Nat}{z:An Kid}{y:An Nd}(hk:K (n,i)=some z) (h:AnR K z y):AnR K (Yfd (n,i) z) (Yb7 n i y):=by
 induction h with
 | none=>exact .none
 | some ht=>exact .some (.cons hk ht .nil)
theorem Ylb.pops {a:Out Mm Kid}{x:Out Nat Nd}{z:An Kid}{y:An Nd}{b':Mm}{c':Nat}(h:Ylb K a x):a=.pop z b'→x=.pop y c'→AnR K z y:=h.rec (fun zz e=>(by cases e)) (fun h e e'=>by cases e; cases e'; exact h) fun zz e=>(by cases e)
theorem Ylb.psh {a:Out Mm Kid}{x:Out Nat Nd}{f':Fr Kid}{p p':Pt}{i i':Nat}{b':Mm}{c':Nat}{g:Fr Nd}(h:Ylb K a x):a=.push f' p i b'→x=.push g p' i' c'→FrR K f' g∧p=p'∧i=i':=h.rec (fun zz e=>(by cases e)) (fun zz e=>(by cases e)) fun h e e'=>by cases e; cases e'; exact ⟨h,rfl,rfl⟩
theorem Ylb.no {a:Out Mm Kid}{x:Out Nat Nd}(h:Ylb K a x):(∀ z b' f p i c',a=.pop z b'→x=.push f p i c'→False)∧∀ f' p i b' y c',a=.push f' p i b'→x=.pop y c'→False:=h.rec ⟨fun zz zz zz zz zz zz zz e=>((by cases e)),fun zz zz zz zz zz zz zz e=>((by cases e))⟩ (fun zz=>⟨fun zz zz zz zz zz zz zz e=>((by cases e)),fun zz zz zz zz zz zz e=>((by cases e))⟩) fun zz=>⟨fun zz zz zz zz zz zz e=>((by cases e)),fun zz zz zz zz zz zz zz e=>((by cases e))⟩
theorem Ypu {f:Fr Kid}{g:Fr Nd}{n:Str}{x:Option (An Nd)}{y:An Nd}{c':Nat}(hf:FrR K f g) (h1:f.piece=.rule n) (hx:x=none) (hs:Yac G txt (Yay m) g x c=.pop y c'):False:=by
 rw [hx] at hs
 rcases Ybl (G:=G) (txt:=txt) (most:=m) (c:=c) (hf.piece.1.trans h1) with q | q
 · exact nomatch q.2.symm.trans hs
 · exact nomatch q.symm.trans hs
theorem Yux.none_out {a:Option (An Kid)}{x:Option (An Nd)}(h:Yux K a x):a=Option.none→x=Option.none:=h.rec (fun zz=>rfl) fun zz e=>(by cases e)
theorem Bs.agree (hK:∀ k z,K k=some z→∃ as,Ev G txt K (.new (G k.1) k.2) none z as) {D:Nat}{L:List Kid}{g:Fr Nd}{x:Option (An Nd)}{c:Nat}{o:Option (An Nd×Nat)}(h:Bs G txt (Yay m) D L g x c o) :
   ∀ {y:An Nd}{c':Nat}{f:Fr Kid}{a:Option (An Kid)}{z:An Kid}{as:List Kid},o=some (y,c')→FrR K f g→Yux K a x→Ev G txt K f a z as→AnR K z y:=by
 induction h with
 | stop=>exact (by intros; contradiction)
 | dead=>exact (by intros; contradiction)
 | @pop D L g x c c' y w hs =>
   intro y' c'' f a z as e hf ha ev
   cases e
   induction ev with
   | @pop f a z b z4 hn h2=>exact (Yfe (G:=G) (txt:=txt) (m:=m) (b:=b) (c:=c) hf ha hn).pops h2 hs
   | ask h1 h2=>exact (Ypu hf h1 (ha.none_out rfl) hs).elim
   | @push f f' a a' o p i b b' as as' hn h2=>exact ((Yfe (G:=G) (txt:=txt) (m:=m) (b:=b) (c:=c) hf ha hn).no.2 _ _ _ _ _ _ h2 hs).elim
 | @push D L g g' x c c' c'' p i y' o w hs hl h1 h2 ih1 ih2 =>
   intro y c₂ f a z as e hf ha ev
   induction ev with
   | @pop f a z b z4 hn h2=>exact ((Yfe (G:=G) (txt:=txt) (m:=m) (b:=b) (c:=c) hf ha hn).no.1 _ _ _ _ _ _ h2 hs).elim
   | @push f f' a a' o p i b b' as as' hn k2 k3 k4 =>
     exact Yh5 ((Yfe (G:=G) (txt:=txt) (m:=m) (b:=b) (c:=c) hf ha hn).psh k2 hs) fun hf' e1 e2=>ih2 e hf' (.some (ih1 rfl (.mk .nil) .none (e1▸e2▸k3))) k4
   | @ask f n z k1 k2 =>
     rw [ha.none_out rfl] at hs
     rcases Ybl (G:=G) (txt:=txt) (most:=m) (c:=c) (hf.piece.1.trans k1) with q | q
     · have q:=q.2.symm.trans hs
       refine (hK _ _ k2).elim fun as' k3=>?_
       have k3:Ev G txt K (.new (G n) g.place) none z as':=hf.piece.2▸k3
       have hs2:Yac G txt (Yay m) g (some y') c''=.pop (Yb7 n g.place y') c'':=by simp only [Yac,hf.piece.1.trans k1]; rfl
       cases q
       have hA:=ih1 rfl (.mk .nil) .none k3
       rw [(Prod.mk.inj (Zab (e.symm.trans (h2.pops hs2)))).1,hf.piece.2]
       exact Yqm k2 hA
     · exact nomatch q.symm.trans hs
end
mutual
theorem Nd.rows_up (d:Nat):∀ x:Nd,x.rows (d+1)=(x.rows d).map fun r=>(r.1+1,r.2)
 | .mk z1 z2 z3 ks=>by rw [Nd.rows1,Nd.rows1,Nd.rowsL_up (d+1) ks]; rfl
theorem Nd.rowsL_up (d:Nat):∀ xs:List Nd,Nd.rowsL (d+1) xs=(Nd.rowsL d xs).map fun r=>(r.1+1,r.2)
 | []=>by rw [Nd.rowsL1,Nd.rowsL1]; rfl
 | x::r=>by rw [Nd.rowsL2,Nd.rowsL2,Nd.rows_up d x,Nd.rowsL_up d r,Zfc]
end
theorem Nd.rowsL_app (d:Nat):∀ xs ys:List Nd,Nd.rowsL d (xs++ys)=Nd.rowsL d xs++Nd.rowsL d ys
 | [],ys=>by rw [List.nil_append,Nd.rowsL1]; rfl
 | x::r,ys=>by rw [List.cons_append,Nd.rowsL2,Nd.rowsL2,Nd.rowsL_app d r ys,Ze]
end
section
section
variable {β κ:Type}{G:Str→Pt}{txt:List Nat}{B:Bk β κ}{D:Nat}{L:List Kid}{b:β}{o:Option (An κ×β)}
theorem BsO.eq {f f':Fr κ}(l1:lvl f' L=lvl f L) (l2:Yfa f' L=Yfa f L) {x:Out β κ}(h:BsO G txt B D L f o x):BsO G txt B D L f' o x:=by
 cases x with
 | stop=>exact h
 | pop a b=>exact h
 | push f2 p i b'=>unfold BsO; rw [l1,l2]; exact h
theorem Bs.back {f:Fr κ}{a:Option (An κ)}(w:Yeq B f a b) {x:Out β κ}(hx:Yac G txt B f a b=x) (h:BsO G txt B D L f o x):Bs G txt B D L f a b o:=by
 cases x with
 | stop=>exact (show o=none from h)▸.stop w hx
 | pop a b=>exact (show o=some (a,b) from h)▸.pop w hx
 | push f2 p i b'=>exact Zh h fun D' h=>h.1▸h.2.2.elim (fun k=>k.2▸.dead w hx h.2.1 k.1) fun k=>ex2 k fun a' b'' k=>.push w hx h.2.1 k.1 (h.1▸k.2)
theorem Bs.next {f f':Fr κ}{a a':Option (An κ)}(h:Bs G txt B D L f a b o) (hs:Yac G txt B f' a' b=Yac G txt B f a b) (hp:f'.piece=f.piece) (hi:f'.place=f.place) (hw:Yeq B f' a' b):Bs G txt B D L f' a' b o :=
 .back hw hs (h.out.eq (by unfold lvl; rw [hp,hi]) (by unfold Yfa; rw [hp,hi]))
end
section
variable {G:Str→Pt}{txt:List Nat}{m:Nat}
noncomputable def Ymy (f:Fr Nd):Nat:=match f.piece with
 | .row z1=>f.here
 | .many z1=>f.here
 | z1=>f.place
structure WtZ (txt:List Nat) (f:Fr Nd) (a:Option (An Nd)):Prop where
 lo:f.place≤f.here
 hi:f.here≤txt.length
 an:∀ e ks,a=some (some e,ks)→Ymy f≤e∧e≤txt.length
noncomputable def Yro (txt:List Nat) (f:Fr Nd):Out Nat Nd→Prop
 | .stop=>True
 | .pop y z1=>∀ e,y.1=some e→f.place≤e∧e≤txt.length
 | .push f' z1 j z2=>f'.place=f.place∧j=Ymy f'∧f'.place≤f'.here∧f'.here≤txt.length
theorem anC {κ:Type}{C:Option (An κ)→Prop}(h0:C none) (h1:∀ us,C (some (none,us))) (h2:∀ e us,C (some (some e,us))) (a:Option (An κ)):C a:=a.rec h0 fun x=>x.rec fun e us=>e.rec (h1 us) fun e=>h2 e us
theorem Ypa {p:Pt}{i t hh c:Nat}{ks:List Nd}:Yro txt ⟨p,i,t,hh,ks⟩ (Yau txt (Yay m) p ⟨p,i,t,hh,ks⟩ c):=by
 unfold Yau
 cases (Yay m).look c with
 | none=>trivial
 | some x =>
   dsimp only
   cases hx:txt[i]? with
   | none=>exact nofun
   | some s =>
     dsimp only
     cases p.takesC s
     · exact nofun
     · exact fun e q=>Yai q▸⟨Nat.le_succ _,(Zb.mp hx).1⟩
theorem Ywa {ps:List Pt}{i t t' hh h' c:Nat}{ks ks':List Nd}(h1:i≤h') (h2:h'≤txt.length):Yro txt ⟨.row ps,i,t,hh,ks⟩ (Ybj ps ⟨.row ps,i,t',h',ks'⟩ c:Out Nat Nd):=by
 unfold Ybj
 cases ps[t']? with
 | none=>exact fun e q=>Yai q▸⟨h1,h2⟩
 | some p=>exact ⟨rfl,rfl,h1,h2⟩
theorem Yv5 {ps:List Pt}{i t t' hh c:Nat}{ks:List Nd}(lo:i≤hh) (hi:hh≤txt.length):Yro txt ⟨.alt ps,i,t,hh,ks⟩ (Ybg ps ⟨.alt ps,i,t',hh,ks⟩ c:Out Nat Nd):=by
 unfold Ybg
 cases ps[t']? with
 | none=>exact nofun
 | some p=>exact ⟨rfl,rfl,lo,hi⟩
theorem Yr0 {f:Fr Nd}{a:Option (An Nd)}{c:Nat}(h:WtZ txt f a) (hr:f.nr∨a=none):Yro txt f (Yac G txt (Yay m) f a c):=by
 obtain ⟨p,i,t,hh,ks⟩:=f
 have lo:i≤hh:=h.lo
 have hi:hh≤txt.length:=h.hi
 have an:=h.an
 clear h
 cases p with
 | sign z1=>exact Ypa
 | span z1 z2=>exact Ypa
 | any=>exact Ypa
 | row ps=>exact anC (C:=fun a=>(∀ e ks,a=some (some e,ks)→hh≤e∧e≤txt.length)→Yro txt ⟨.row ps,i,t,hh,ks⟩ (Yac G txt (Yay m) ⟨.row ps,i,t,hh,ks⟩ a c)) (fun zz=>Ywa lo hi) (fun us zz=>nofun) (fun e us an=>Ywa (Za lo (an e us rfl).1) (an e us rfl).2) a an
 | alt ps=>exact anC (C:=fun a=>(∀ e ks,a=some (some e,ks)→i≤e∧e≤txt.length)→Yro txt ⟨.alt ps,i,t,hh,ks⟩ (Yac G txt (Yay m) ⟨.alt ps,i,t,hh,ks⟩ a c)) (fun zz=>Yv5 lo hi) (fun us zz=>Yv5 lo hi) (fun e us an e' q=>Yai q▸an e us rfl) a an
 | many p =>
   exact anC (C:=fun a=>(∀ e ks,a=some (some e,ks)→hh≤e∧e≤txt.length)→Yro txt ⟨.many p,i,t,hh,ks⟩ (Yac G txt (Yay m) ⟨.many p,i,t,hh,ks⟩ a c)) (fun zz=>⟨rfl,rfl,lo,hi⟩) (fun us zz e q=>Yai q▸⟨lo,hi⟩) (fun e us an=>by
     show Yro txt _ (if e=hh then _ else _)
     by_cases q:e=hh
     · rw [if_pos q]; exact fun e q=>Yai q▸⟨lo,hi⟩
     · rw [if_neg q]; exact ⟨rfl,rfl,Za lo (an e us rfl).1,(an e us rfl).2⟩) a an
 | nt p=>exact anC (C:=fun a=>Yro txt ⟨.nt p,i,t,hh,ks⟩ (Yac G txt (Yay m) ⟨.nt p,i,t,hh,ks⟩ a c)) ⟨rfl,rfl,lo,hi⟩ (fun us e q=>Yai q▸⟨Zl _,Za lo hi⟩) (fun e us=>nofun) a
 | rule n =>
   rw [hr.resolve_left fun q=>q n rfl]
   rcases Ybl (G:=G) (txt:=txt) (most:=m) (c:=c) (f:=⟨.rule n,i,t,hh,ks⟩) rfl with e | e
   · rw [e.2]; exact ⟨rfl,rfl,lo,hi⟩
   · rw [e]; trivial
theorem Bs.ge {D:Nat}{L:List Kid}{f:Fr Nd}{a:Option (An Nd)}{c:Nat}{o:Option (An Nd×Nat)}(h:Bs G txt (Yay m) D L f a c o):∀ {y:An Nd}{c':Nat},o=some (y,c')→WtZ txt f a→(f.nr∨a=none)→∀ e,y.1=some e→f.place≤e∧e≤txt.length:=by
 induction h with
 | stop=>exact (by intros; contradiction)
 | dead=>exact (by intros; contradiction)
 | @pop z1 z2 z3 z4 c z5 z6 z7 hs =>
   intro zz zz e hw hr
   cases e
   have:=Yr0 (G:=G) (m:=m) (c:=c) hw hr
   rw [hs] at this; exact this
 | @push D L f f' a c c' c'' p j a' o w hs hl h1 h2 ih1 ih2 =>
   intro y c₂ e hw hr
   have:=Yr0 (G:=G) (m:=m) (c:=c) hw hr
   rw [hs] at this
   obtain ⟨g1,g2,g3,g4⟩:=this
   have hj:f'.place≤j∧j≤txt.length:=by
     rw [g2]; unfold Ymy
     cases f'.piece <;> first | exact ⟨g3,g4⟩ | exact ⟨Zl _,Za g3 g4⟩
   have sub:=ih1 rfl ⟨Zl _,hj.2,(by intros; contradiction)⟩ (.inr rfl)
   by_cases hn:f.nr
   · have hp:f'.piece=f.piece:=by
       have:=Yds (B:=Yay m) (G:=G) (txt:=txt) (μ:=fun zz=>0) rfl (fun zz zz=>Zl _) (a:=a) (b:=c) hn
       rw [hs] at this; exact this.2.2.1
     have:=ih2 e ⟨g3,g4,fun e' us q=>by cases q; exact ⟨g2▸(sub e' rfl).1,(sub e' rfl).2⟩⟩ (.inl fun n q=>hn n (hp▸q))
     rw [g1] at this; exact this
   · cases hr.resolve_left hn
     obtain ⟨n,hn⟩:=Ygk hn
     rcases Ybl (G:=G) (txt:=txt) (most:=m) (c:=c) hn with ⟨zz,q⟩ | q <;> rw [q] at hs <;> cases hs
     have hs2:Yac G txt (Yay m) f (some a') c''=.pop (Yb7 n f.place a') c'':=by simp only [Yac,hn]; rfl
     obtain ⟨e1,zz⟩:=Prod.mk.inj (Zab (e.symm.trans (h2.pops hs2)))
     rw [e1]
     obtain ⟨x,us⟩:=a'
     cases x with
     | none=>exact (by intros; contradiction)
     | some x=>intro e q; cases q; exact sub x rfl
theorem Bs.new_ge {D:Nat}{L:List Kid}{p:Pt}{i c:Nat}{e c':Nat}{ts:List Nd}(h:Bs G txt (Yay m) D L (.new p i) none c (some ((some e,ts),c'))) (hi:i≤txt.length):i≤e∧e≤txt.length:=h.ge rfl ⟨Zl _,hi,(by intros; contradiction)⟩ (.inr rfl) e rfl
end
end
section
mutual
theorem Pt.wt_le:∀ (n:Nat) (p:Pt),p.deep≤n→p.wt≤2 ^ n*p.size
 | n,.sign z1,z2=>by rw [Pt.wt6]; exact Zkb _
 | n,.span z1 z2,z3=>by rw [Pt.wt7]; exact Zkb _
 | n,.any,z1=>by rw [Pt.wt8]; exact Zkb _
 | n,.rule z1,z2=>by rw [Pt.wt1,Pt.size8,Nat.mul_one]; exact Nat.one_le_two_pow
 | 0,.row ps,h=>by rw [Pt.deep1] at h; cases h
 | 0,.alt ps,h=>by rw [Pt.deep2] at h; cases h
 | 0,.many p,h=>by rw [Pt.deep3] at h; cases h
 | 0,.nt p,h=>by rw [Pt.deep4] at h; cases h
 | n+1,.row ps,h=>by rw [Pt.deep1] at h; rw [Pt.wt2,Pt.size1]; exact Za (Pt.wts_le n ps (Zcc h)) (Nat.mul_le_mul (Nat.pow_le_pow_right (by decide) (Nat.le_succ n)) (Nat.le_succ _))
 | n+1,.alt ps,h=>by rw [Pt.deep2] at h; rw [Pt.wt3,Pt.size2]; exact Za (Pt.wts_le n ps (Zcc h)) (Nat.mul_le_mul (Nat.pow_le_pow_right (by decide) (Nat.le_succ n)) (Nat.le_succ _))
 | n+1,.nt p,h=>by rw [Pt.deep4] at h; rw [Pt.wt5,Pt.size4]; exact Za (Pt.wt_le n p (Zcc h)) (Nat.mul_le_mul (Nat.pow_le_pow_right (by decide) (Nat.le_succ n)) (Nat.le_succ _))
 | n+1,.many p,h=>by
   rw [Pt.deep3] at h
   rw [Pt.wt4,Pt.size3,Nat.pow_succ,Nat.mul_comm (2 ^ n) 2,Nat.mul_assoc]
   exact Znb 2 (Za (Pt.wt_le n p (Zcc h)) (Znb _ (Nat.le_succ _)))
theorem Pt.wts_le:∀ (n:Nat) (ps:List Pt),Pt.deeps ps≤n→Pt.wts ps≤2 ^ n*Pt.sizes ps
 | z1,[],z2=>by rw [Pt.wts1]; exact Zkb _
 | n,p::r,h=>by
   rw [Pt.deeps2] at h
   rw [Pt.wts2,Pt.sizes2,Nat.mul_add]
   exact Zcb (Pt.wt_le n p (Za (Nat.le_max_left ..) h)) (Pt.wts_le n r (Za (Nat.le_max_right ..) h))
end
theorem Yt1 {x:Pt}(h:x.sure):x.wt=0:=h.rec (fun zz=>rfl) (fun zz zz zz=>rfl) rfl
theorem Ykm {P R:Str→Prop}{x h t:Pt}(hx:x.sure) (hh:Yaz P 7 78 h) (ht:Yaz R 7 78 t) (k:Nat):(Ykl x h t k).wt≤20000 :=
 have h1:h.wt≤10000:=Za (Pt.wt_le 7 h hh.2.1) (Za (Znb _ hh.2.2) (by decide))
 have h2:t.wt≤10000:=Za (Pt.wt_le 7 t ht.2.1) (Za (Znb _ ht.2.2) (by decide))
 have e:(Pt.row [x,h]).wt≤10000:=(show x.wt+(h.wt+0)≤10000 by rw [Yt1 hx,Nat.zero_add]; exact h1)
 have al:∀ {p q:Pt},p.wt≤10000→q.wt≤10000→(Pt.alt [p,q]).wt≤20000:=fun h g=>Zcb h g
 Yqs.get (C:=fun p=>p.wt≤20000) (.cons (al e h2)<|.cons (al h2 e)<|.cons (Za e (by decide)) .nil) (Za h2 (by decide)) k
theorem Yqe (p:Pt):(Yln p).wt=p.wt:=rfl
end
section
noncomputable def Yi9 (ns:List Str) (f:Nat) (n:Str):Prop:=∃ j,f≤j∧ns[j]?=some n
inductive Yir (P:Str→Prop):Nat→Pt→Prop where
 | leaf {p:Pt}(h:Yaz P 1 1 p):Yir P 0 p
 | join {n:Nat}{p a b:Pt}(h:Yir P n p) (ha:Yaz P 1 1 a) (hb:Yaz P 1 1 b) (k:Nat):Yir P (n+1) (Yh1 p a b k)
theorem Yir.p0 {P:Str→Prop}{p:Pt}(h:Yir P 0 p):Yaz P 1 1 p:=by cases h; assumption
theorem Yir.p1 {P:Str→Prop}{p:Pt}(h:Yir P 1 p):Yaz P 3 12 p:=by
 cases h with | join h ha hb k=>exact Yaz.joined (by decide) h.p0 ha hb k
theorem Yir.p2 {P:Str→Prop}{p:Pt}(h:Yir P 2 p):Yaz P 5 34 p:=by
 cases h with | join h ha hb k=>exact Yaz.joined (by decide) h.p1 ha hb k
theorem Yir.p3 {P:Str→Prop}{p:Pt}(h:Yir P 3 p):Yaz P 7 78 p:=by
 cases h with | join h ha hb k=>exact Yaz.joined (by decide) h.p2 ha hb k
noncomputable def stp (n:Nat):Nat:=1+(if n / 6 < 1 then n / 6 else 1)*(n / 4)
inductive Drawn (ns:List Str) (k:Nat):Pt→Prop where
 | mk {x h t:Pt}(hx:x.sure) (hh:Yir (Yi9 ns 0) 3 h) (ht:Yir (Yi9 ns (k+stp ns.length)) 3 t) (j:Nat):Drawn ns k (Ykl x h t j)
 | wr {x h t:Pt}(hx:x.sure) (hh:Yir (Yi9 ns 0) 3 h) (ht:Yir (Yi9 ns (k+stp ns.length)) 3 t) (j:Nat):Drawn ns k (Yln (Ykl x h t j))
theorem Yi9.le {ns:List Str}{a b:Nat}(h:a≤b) (y:Str) (hy:Yi9 ns b y):Yi9 ns a y:=by
 obtain ⟨j,g1,g2⟩:=hy; exact ⟨j,Za h g1,g2⟩
theorem Drawn.piece {ns:List Str}{k:Nat}{p:Pt}(h:Drawn ns k p):Yaz (Yi9 ns 0) 12 164 p∧p.wt≤20000∧∀ B,∀ y∈p.ahd B,Yi9 ns (k+1) y:=by
 have hl:k+1≤k+stp ns.length:=Zzb (Zy 1 _) k
 cases h with
 | mk hx hh ht j =>
   obtain ⟨P1,P2⟩:=Yaz.rule hx hh.p3 ht.p3 (Yi9.le (Zkb _)) j
   exact ⟨P1.mono (by decide) (by decide),Ykm hx hh.p3 ht.p3 j,fun B y hy=>Yi9.le hl y (P2 B y hy)⟩
 | wr hx hh ht j =>
   obtain ⟨P1,P2⟩:=Yaz.rule hx hh.p3 ht.p3 (Yi9.le (Zkb _)) j
   obtain ⟨W1,W2⟩:=P1.wrap (R:=Yi9 ns (k+1)) fun B y hy=>Yi9.le hl y (P2 B y hy)
   exact ⟨W1.mono (by decide) (by decide),Yqe _▸Ykm hx hh.p3 ht.p3 j,W2⟩
end
section
section
variable {G:Str→Pt}{txt:List Nat}{m:Nat}
theorem Bs.rule_up {D:Nat}{L:List Kid}{f:Fr Nd}{c c':Nat}{n:Str}{y:An Nd}(h:Bs G txt (Yay m) D L f none c (some (y,c'))) (hf:f.piece=.rule n):c+1≤c':=by
 have h:=h.out
 rcases Ybl (G:=G) (txt:=txt) (most:=m) (c:=c) hf with ⟨zz,k2⟩ | k2 <;> rw [k2] at h
 · obtain ⟨D',zz,zz,⟨zz,e⟩ | ⟨a',b'',h1,h2⟩⟩:=h
   · cases e
   · have hs2:Yac G txt (Yay m) f (some a') b''=.pop (Yb7 n f.place a') b'':=by simp only [Yac,hf]; rfl
     obtain ⟨zz,e2⟩:=Prod.mk.inj (Zab (h2.pops hs2))
     obtain ⟨g1,zz⟩:=h1.ct _ _ rfl (.inr rfl)
     rw [show Nd.cnts (Fr.new (G n) f.place:Fr Nd).kids+Yu1 Nd.cnts none=0 by rw [Fr.new,Nd.cnts1]; rfl] at g1
     rw [e2]; exact Za (Ztb ..) g1
 · cases h
theorem Bs.rule_most {D:Nat}{L:List Kid}{f:Fr Nd}{c c':Nat}{n:Str}{y:An Nd}(h:Bs G txt (Yay m) D L f none c (some (y,c'))) (hf:f.piece=.rule n):c'≤m :=
 (h.ct _ _ rfl (.inr rfl)).2.elim (fun e=>absurd (e▸h.rule_up hf) (Nat.not_succ_le_self _)) id
theorem Yue {m' D D':Nat}{L L':List Kid}{f:Fr Nd}{c c':Nat}{n:Str}{y:An Nd}{o:Option (An Nd×Nat)}(h:Bs G txt (Yay m) D L f none c (some (y,c'))) (hf:f.piece=.rule n) (h':Bs G txt (Yay m') D' L' f none c o) (hm:m' < c'):o=none:=by
 cases o with
 | none=>rfl
 | some x =>
   obtain ⟨y2,c2⟩:=x
   have k:=h.det (h'.up (Za (Zq hm) (h.rule_most hf)) nofun)
   cases k
   exact absurd (h'.rule_most hf) (Nat.not_le.mpr hm)
end
theorem Tr.det {K:Kid→Option (An Kid)}{d:Nat}{ks:List Kid}{t:List Row}(h:Tr K d ks t):∀ {t':List Row},Tr K d ks t'→t=t':=by
 induction h with
 | nil=>intro t' h; cases h; rfl
 | cons h1 z1 z2 ih1 ih2 =>
   intro t' h
   cases h with
   | cons g1 g2 g3 =>
     obtain ⟨e1,e2⟩:=Prod.mk.inj (Zab (h1.symm.trans g1))
     cases e1; cases e2
     rw [ih1 g2,ih2 g3]
theorem Tr.all {K:Kid→Option (An Kid)}{P:Kid→Prop}(hK:∀ k z,K k=some z→P k) {d:Nat}{ks:List Kid}{t:List Row}(h:Tr K d ks t):∀ r∈t,P r.2.1:=by
 induction h with
 | nil=>exact (by intros; contradiction)
 | cons h1 z1 z2 ih1 ih2 =>
   intro r hr
   rcases Zg.mp hr with rfl | hr
   · exact hK _ _ h1
   · rcases Zm.mp hr with hr | hr
     · exact ih1 r hr
     · exact ih2 r hr
end
section
structure DueT (names:List Str) (most:Nat) (K:Kid→Option (An Kid)) (k:Kid) (nd:Nd):Prop where
 few:(nd.rows 0).length≤most
 tr:Tr K 0 [k] (nd.rows 0)
 all:∀ r∈nd.rows 0,r.2.1.1∈names
inductive Yu7 (G:Str→Pt) (txt:List Nat) (names:List Str) (most:Nat) (name:Str) (j:Nat) (y:An Nd) (k:Nat):Prop where
 | mk (x:An Kid) (b1 b2:Mm) (le:k+1≤most) (less:∃ n,Fin G txt (Yay k) (· = none) n ⟨[.new (.rule name) j],none,0⟩) (f1:∃ n,Fin G txt Ya0 (· = some (Yfd (name,j) x,b1)) n ⟨[.new (.rule name) j],none,⟨[],[]⟩⟩) (f2:∃ n,Fin G txt Ya0 (· = some (Yfd (name,j) x,b2)) n ⟨[.new (.rule name) j],none,b1⟩)
     (same:x.1=y.1) (tree:∀ e,y.1=some e→∃ nd,y.2=[nd]∧DueT names most (Ybp b2.kept) (name,j) nd):Yu7 G txt names most name j y k
section
variable {G:Str→Pt}{txt:List Nat}{names:List Str}{mb:Str→Bool}{ix:Str→Nat}{R W:Nat}
theorem AnR.same {K:Kid→Option (An Kid)}{z:An Kid}{y:An Nd}(h:AnR K z y):z.1=y.1:=h.rec rfl fun zz=>rfl
theorem Ydm {k:Kid}{x:An Kid}:(Yfd k x).1=x.1:=by obtain ⟨x,us⟩:=x; cases x <;> rfl
theorem TrN.nils {K:Kid→Option (An Kid)}{ks:List Kid}{ts:List Nd}(h:TrN K ks ts):ks=[]→ts=[]:=h.rec (fun zz=>rfl) fun zz zz zz zz zz e=>(by cases e)
theorem TrN.one {K:Kid→Option (An Kid)}{ks:List Kid}{ts:List Nd}{k:Kid}(h:TrN K ks ts):ks=[k]→∃ nd,ts=[nd]∧Tr K 0 [k] (nd.rows 0)∧(nd.rows 0).length=Nd.cnts ts:=by
 induction h with
 | nil=>exact (by intros; contradiction)
 | @cons e k' ks' r ts' us h1 h2 h3 zz zz =>
   intro q
   have q1:=(List.cons.inj q).1
   have q2:=h3.nils (List.cons.inj q).2
   have t:=(TrN.cons h1 h2 .nil).tr 0
   rw [Nd.rowsL2,Nd.rowsL1,Zlc] at t
   exact ⟨_,congrArg (_ :: ·) q2,q1▸t,by rw [q2,Nd.cnts2,Nd.cnts1,Nat.add_zero,Nd.rows_len]⟩
theorem Yrq {K:Kid→Option (An Kid)}{k:Kid}{x:An Kid}{y:An Nd}(h:AnR K (Yfd k x) y) (e:Nat) (he:y.1=some e):∃ nd,y.2=[nd]∧Tr K 0 [k] (nd.rows 0)∧(nd.rows 0).length=Nd.cnts y.2:=by
 have key:∀ {z:An Kid}{y:An Nd},AnR K z y→y.1=some e→z.2=[k]→∃ nd,y.2=[nd]∧Tr K 0 [k] (nd.rows 0)∧(nd.rows 0).length=Nd.cnts y.2:=fun h=>h.rec (by intros; contradiction) fun ht zz q=>ht.one q
 refine key h he ?_
 obtain ⟨x1,us⟩:=x
 cases x1 with
 | none=>exact nomatch h.same.trans he
 | some zz=>rfl
theorem Yxp (hG:Ysi G names mb ix R W) (hW:(W+1)*(txt.length+1)≤5000000) (hz:names.length*(txt.length+1)≤5000000) (hD:(txt.length+1)*R*14≤4000000) {most D k:Nat}{name:Str}{j:Nat}{y:An Nd}(hn:name∈names) (hl:j≤txt.length) (hb:Bs G txt (Yay most) D [] (.new (.rule name) j) none 0 (some (y,k+1))) (hcm:k+1≤most) (hcn:Nd.cnts y.2≤most):Yu7 G txt names most name j y k :=
 ex2 (Ypg (most:=k) hG hW hD hn hl) fun o' D' r=>ex3 (Yla hG hW hz hD .nil .nil hn hl) fun n1 x b1 m1=>ex3 (Yla hG hW hz hD m1.2.2.1 m1.2.2.2.1 hn hl) fun n2 x2 b2 m2=>by
   have ex:x2=x:=Zab (m2.2.1.symm.trans (m2.2.2.2.2.1 _ _ m1.2.1))
   have i2:=m2.2.2.2.1
   have hK:∀ k z,Ybp b2.kept k=some z→∃ as,Ev G txt (Ybp b2.kept) (.new (G k.1) k.2) none z as:=fun k z h=>(i2.done k (i2.kin k z h)).elim (by intros; contradiction) fun hh1=>by obtain ⟨as,a,g1,g2⟩:=hh1; exact ⟨as,Zab (h.symm.trans g1)▸g2⟩
   have ag:=hb.agree hK rfl (FrR.mk (p:=.rule name) (i:=j) (t:=0) (h:=j) .nil) .none (Ev.ask (f:=.new (.rule name) j) rfl m2.2.1)
   refine ⟨x,b1,b2,hcm,Yue hb rfl r.2.1 (Zs k)▸r.2.2.1,⟨n1,m1.1⟩,⟨n2,ex▸m2.1⟩,ex▸Ydm.symm.trans ag.same,fun e he=>?_⟩
   exact (Yrq ag e he).elim fun nd h=>⟨nd,h.1,Za (Zr h.2.2) hcn,h.2.1,h.2.1.all (P:=fun k=>k.1∈names) fun k z h=>(m2.2.2.1.rng k (i2.kin k z h)).1⟩
theorem Yxq (hG:Ysi G names mb ix R W) (hW:(W+1)*(txt.length+1)≤5000000) (hz:names.length*(txt.length+1)≤5000000) (hD:(txt.length+1)*R*14≤4000000) (most:Nat) {name:Str}{j:Nat}(hn:name∈names) (hl:j≤txt.length) :
   ∃ o D,D≤(txt.length+1)*R*14+1∧Bs G txt (Yay most) D [] (.new (.rule name) j) none 0 o∧(∃ n,Fin G txt (Yay most) (· = o) n ⟨[.new (.rule name) j],none,0⟩)∧∀ y c,o=some (y,c)→∃ k,c=k+1∧Yu7 G txt names most name j y k :=
 ex2 (Ypg (most:=most) hG hW hD hn hl) fun o D r=>⟨o,D,r.1,r.2.1,r.2.2.1,fun y c e=>by
   have hb:Bs G txt (Yay most) D [] (.new (.rule name) j) none 0 (some (y,c)):=e▸r.2.1
   cases c with
   | zero=>exact absurd (hb.rule_up rfl) (Nat.not_lt_zero _)
   | succ k=>exact ⟨k,rfl,Yxp hG hW hz hD hn hl hb (r.2.2.2 _ _ e).2.1 ((r.2.2.2 _ _ e).2.2.elim fun x h=>h.2)⟩⟩
end
end
end Mine
namespace Mine
open PySem PySem.W PyProof.Rows
section
noncomputable abbrev T11 (w:World) (s:Shared):Tp:=Yua PySem.Challenge.rw_uf010010_11.row.prog w s (hd11.heap_39 w.params)
variable {w:World}{s:Shared}{d:Nat}{X:QX}{Q:QE}{σ:Hp}
theorem Ylu {c:Nat}(hc:Yak c=true) (h2:(c == 10)=false) (h3:(c == 9)=false):decide ((32:Int)≤c)=true∧decide ((c:Int)≤126)=true∧((c:Int) != 37)=true:=by
 unfold Yak at hc
 rw [h2,h3,Bool.false_or,Bool.false_or] at hc
 have h:=Bool.and_eq_true_iff.mp hc
 have g:=Bool.and_eq_true_iff.mp h.1
 exact ⟨Zmb (Int.ofNat_le.mpr (Zgb g.1)),Zmb (Int.ofNat_le.mpr (Zgb g.2)),bne_iff_ne.mpr fun e=>bne_iff_ne.mp h.2 (Int.ofNat_inj.mp e)⟩
theorem Ymb (TO:Yaf (T11 w s)) {c:Nat}(hc:Yak c=true) (q:Q (.bool true) σ):Yaa (T11 w s) (d+1) X (.glob "is_sign") [.str ⟨#[c]⟩] Q σ:=by
 refine Yaa.go TO rfl rfl ?_
 refine Cal.isi (b:=true) rfl<|Cal.len (n:=1) rfl (by decide)<|Br.mk (fun zz=>q) fun h2=>Br.mk (fun zz=>q) fun h3=>Cal.ord ?_
 have h:=Ylu hc (Yoy.symm.trans h2) (Yoy.symm.trans h3)
 exact Br.t h.1<|Br.t h.2.1<|Cal.ord (show Q (.bool ((c:Int) != 37)) σ from h.2.2.symm▸q)
end
section
variable {w:World}{s:Shared}{d:Nat}{X:QX}{Q:QE}{σ:Hp}
theorem Ydc.tag {p:Pt}(q:Q (.str p.word) σ):Ydc p.v (.int 0) Q σ:=by cases p <;> exact q
theorem Pt.tag_rule {p:Pt}(h:(p.word == ("rule" : Str))=true):∃ n,p=.rule n:=by
 cases p <;> first | exact ⟨_,rfl⟩ | exact (Zv h).elim
theorem Ydc.rule {p:Pt}{n:Str}(h:p=.rule n) (q:Q (.str n) σ):Ydc p.v (.int 1) Q σ:=by subst h; exact q
set_option tactic.hygienic true in
theorem Yf3 (TO:Yaf (T11 w s)) {p:Pt}(hn:p.kids.length≤sizeLine) (q:Q (.ref σ.length) (σ++[.list (p.kids.map Pt.v)])):Yaa (T11 w s) (d+1) X (.glob "within") [p.v] Q σ:=by
 refine Yaa.go TO rfl rfl ?_
 cases p with
 | row ps=>exact Cal.list (vs:=Pt.vs ps) rfl (by rw [Pt.vs_map,Zc]; exact hn) (by rw [Pt.vs_map]; exact q)
 | alt ps=>exact Cal.list (vs:=Pt.vs ps) rfl (by rw [Pt.vs_map,Zc]; exact hn) (by rw [Pt.vs_map]; exact q)
 | _=>exact q
noncomputable def Pt.leaf:Pt→Prop
 | .row _ | .alt _ | .many _ | .nt _=>False
 | z1=>True
theorem Ydp (TO:Yaf (T11 w s)) {p:Pt}(hg:p.good=true) (hw:p.leaf) (q:Q (.bool true) σ):Yaa (T11 w s) (d+2) X (.glob "is_leaf") [p.v] Q σ:=by
 refine Yaa.go TO rfl rfl ?_
 have sg:∀ {c:Nat}{Q:QE},Yak c=true→Q (.bool true) σ→Cal (T11 w s) (d+1) X (.glob "is_sign") [.str ⟨#[c]⟩] Q σ:=fun {c Q} hc q=>⟨Ymb TO hc q⟩
 cases p with
 | any=>exact Cal.lenT rfl q
 | sign c=>exact Cal.lenT rfl (sg hg q)
 | rule n=>exact Cal.lenT rfl (Cal.isi rfl q)
 | span a b =>
   have hg:=Bool.and_eq_true_iff.mp (show (Yak a && Yak b && decide (a≤b))=true from hg)
   have h2:=Bool.and_eq_true_iff.mp hg.1
   refine Cal.lenT rfl (sg h2.1 (sg h2.2 (Cal.ord (Cal.ord ?_))))
   show Q (.bool (decide ((a:Int)≤b))) σ
   rw [Zmb (Int.ofNat_le.mpr (Zgb hg.2))]; exact q
 | row ps=>exact hw.elim
 | alt ps=>exact hw.elim
 | many p=>exact hw.elim
 | nt p=>exact hw.elim
theorem Yql {ps:List Pt}{i:Nat}{x:V}(h:(Pt.vs ps)[i]?=some x):∃ p,ps[i]?=some p∧x=p.v:=by
 rw [Pt.vs_map,Zdb,Zpb] at h
 obtain ⟨p,hp,rfl⟩:=h
 exact ⟨p,hp,rfl⟩
theorem Ywn {α:Type}{ps:List α}(h:(!ps.isEmpty)=true):((ps.length:Int) == 0)=false:=by
 cases ps with
 | nil=>cases h
 | cons a r=>exact Zmc.mpr fun e=>nomatch Int.ofNat_inj.mp e
theorem Ymm (TO:Yaf (T11 w s)):∀ (n:Nat) (p:Pt) (room:Nat) {X:QX}{Q:QE}{σ:Hp},p.deep≤n→n≤room→p.good=true→Pt.All Pt.few p→Q (.bool true) σ→Yaa (T11 w s) (d+n+2) X (.glob "is_part") [p.v,.int room] Q σ:=by
 intro n
 induction n with
 | zero=>intro p zz X Q σ hn; exact absurd (Za (Pt.deep_pos p) hn) (Nat.not_succ_le_zero 0)
 | succ n ih =>
   intro p room X Q σ hn hr hg hf q
   obtain ⟨hfk,hfc⟩:=hf
   have hkl:p.kids.length < 1000:=hfk
   cases room with
   | zero=>exact absurd hr (Nat.not_succ_le_zero n)
   | succ r =>
   have kid:∀ k∈p.kids,∀ {Q:QE}{σ:Hp},Q (.bool true) σ→k.good=true→Cal (T11 w s) (d+n+2) X (.glob "is_part") [k.v,.int (((r+1:Nat):Int) - 1)] Q σ:=fun k hk {Q σ} q hG =>
     (Int.add_sub_cancel (r:Int) 1).symm▸⟨ih k r (Zcc (Za (Pt.kids_deep hk) hn)) (Zcc hr) hG (hfc k hk) q⟩
   clear ih hr hn hfc hfk
   refine Yaa.go TO rfl rfl ?_
   cases p with
   | many k=>exact Cal.isi rfl<|Cal.lenT rfl<|Cal.isi rfl<|Cal.lenT rfl<|kid k (Zj.mpr rfl) q hg
   | nt k=>exact Cal.isi rfl<|Cal.lenT rfl<|Cal.isi rfl<|Cal.lenT rfl<|kid k (Zj.mpr rfl) q hg
   | row ps =>
     refine Cal.isi rfl<|Cal.lenT rfl<|Cal.isi rfl<|Cal.lenT rfl<|Cal.isi rfl ⟨_,fun i ρ' σ'=>Has ρ' [("room",.int ((r+1:Nat):Int))]∧σ'=σ,⟨⟨rfl,trivial⟩,rfl⟩,fun i ρ' σ' zz=>rfl,fun ρ' σ' h=>h.2▸q,fun i x ρ' σ' hJ hx=>(Yql hx).elim fun k hk=>?_⟩
     rw [hk.2,hJ.2,← hJ.1.eq]
     exact ⟨_,rfl,Ybd TO rfl 60 _ _ _ _ (kid k (Zn hk.1) ⟨⟨rfl,trivial⟩,rfl⟩ (Pt.goods_mem hg (Zn hk.1)))⟩
   | alt ps =>
     have hg:=Bool.and_eq_true_iff.mp (show (!ps.isEmpty && Pt.goods ps)=true from hg)
     refine Cal.isi rfl<|Cal.lenT rfl<|Cal.isi rfl<|Cal.lenT rfl<|Cal.isi rfl<|Cal.len (n:=ps.length) (Yfw (by rw [Pt.vs_map,Zc])) (Nat.lt_trans hkl (by decide))<|Br.f (Ywn hg.1) ⟨_,fun i ρ' σ'=>Has ρ' [("room",.int ((r+1:Nat):Int))]∧σ'=σ,⟨⟨rfl,trivial⟩,rfl⟩,fun i ρ' σ' zz=>rfl,fun ρ' σ' h=>h.2▸q,fun i x ρ' σ' hJ hx=>(Yql hx).elim fun k hk=>?_⟩
     rw [hk.2,hJ.2,← hJ.1.eq]
     exact ⟨_,rfl,Ybd TO rfl 60 _ _ _ _ (kid k (Zn hk.1) ⟨⟨rfl,trivial⟩,rfl⟩ (Pt.goods_mem hg.2 (Zn hk.1)))⟩
   | any=>exact Cal.isi rfl<|Cal.lenT rfl<|Cal.isi rfl<|Cal.mk<|Ydp (d:=d+n) (p:=.any) TO hg trivial q
   | sign c=>exact Cal.isi rfl<|Cal.lenT rfl<|Cal.isi rfl<|Cal.mk<|Ydp (d:=d+n) (p:=.sign c) TO hg trivial q
   | rule c=>exact Cal.isi rfl<|Cal.lenT rfl<|Cal.isi rfl<|Cal.mk<|Ydp (d:=d+n) (p:=.rule c) TO hg trivial q
   | span a b=>exact Cal.isi rfl<|Cal.lenT rfl<|Cal.isi rfl<|Cal.mk<|Ydp (d:=d+n) (p:=.span a b) TO hg trivial q
end
section
variable {w:World}{s:Shared}{d:Nat}{X:QX}{Q:QE}{σ:Hp}
theorem Pt.sizes_len:∀ st:List Pt,st.length≤Pt.sizes st
 | []=>Zkb _
 | a::r=>Za (Zcb (Pt.sizes_len r) (Pt.size_pos a)) (Zr (Nat.add_comm ..))
theorem sz5 {a b c n:Nat}(h:a≤b) (g:c+b≤n) (k:n < 100000):a < 100000:=Zk (Za h (Za (Ztb ..) g)) k
theorem sz6 {n:Nat}(h:n < 100000):n < sizeLine:=Zz h (szo (by decide))
inductive Yx4 (p:Pt) (σ:Hp) (n:Nat) (ρ':Loc) (σ':Hp):Prop where
 | mk (ns:List Str) (st:List Pt) (junk:Hp) (q0:n=Pt.sizes st) (q1:ns.length+Pt.sizes st≤p.size) (q2:∀ n∈ns,p.Asks n) (q3:∀ t∈st,Pt.All Pt.few t∧∀ n,t.Asks n→p.Asks n) (q4:∀ n,p.Asks n→n∈ns∨∃ t∈st,t.Asks n)
     (q5:σ'=σ++.list (ns.map .str)::.list (st.map Pt.v)::junk) (q6:Has ρ' [("found",.ref σ.length),("waiting",.ref (σ.length+1))]):Yx4 p σ n ρ' σ'
theorem Pt.asks_kids {t:Pt}{n:Str}(h:t.Asks n):t=.rule n∨∃ k∈t.kids,k.Asks n:=by
 cases h with
 | here=>exact .inl rfl
 | deep hm hk=>exact .inr ⟨_,hm,hk⟩
theorem Pt.All.out {P:Pt→Prop}{p:Pt}(h:Pt.All P p):P p∧∀ q∈p.kids,Pt.All P q:=h.rec fun a b zz=>⟨a,b⟩
theorem sz7 {a b i k t n:Nat}(h2:a≤b+1) (h:k < t) (g:b+(i+t)≤n):a+(i+k)≤n:=Za (Zac h2 _) (Za (Zr (Nat.succ_add_eq_add_succ b (i+k))) (Za (Zzb (Nat.add_lt_add_left h i) b) g))
theorem Yj6 (TO:Yaf (T11 w s)) {p:Pt}(hfew:Pt.All Pt.few p) (hs:p.size < 100000) (q:∀ (ns:List Str) (junk:Hp),(∀ n,n∈ns↔p.Asks n)→ns.length≤p.size→Q (.ref σ.length) (σ++.list (ns.map .str)::junk)):Yaa (T11 w s) (d+2) X (.glob "rules_in") [p.v] Q σ:=by
 refine Yaa.go TO rfl rfl ?_
 refine Stx.mk<|Yba.while (Yx4 p σ) p.size ⟨[],[p],[],rfl,Zr (Nat.zero_add _),(by intros; contradiction),fun t ht=>by cases Zj.mp ht; exact ⟨hfew,fun zz h=>h⟩,fun n hn=>.inr ⟨p,.head _,hn⟩,Ze ..,⟨rfl,congrArg (fun n=>some (V.ref n)) Zf,trivial⟩⟩ ?_
 refine fun n ρ' σ' hJ=>hJ.rec fun ns st junk hn hsz hns hst hall hσ hρ=>?_
 apply Has.on hρ
 have hsl:=Pt.sizes_len st
 refine (List.eq_nil_or_concat st).elim (fun es=>?_) fun hh=>hh.elim fun init hh=>hh.elim fun t es=>?_
 · rw [es] at hσ hall hsz
   apply Ya1 hσ
   exact Yej TO rfl 40 10 _ _ _<|tvc.of (b:=false) (Yb2 Yh3 (by decide))<|Yio (by decide)<|q ns _ (fun n=>⟨hns n,fun hn=>(hall n hn).elim id fun h=>h.elim fun t h=>absurd h.1 Zdc⟩) hsz
 rw [List.concat_eq_append] at es
 rw [es] at hsz hst hall hσ hn hsl
 apply Ya1 hσ
 refine Yej TO rfl 40 10 _ _ _<|tvc.of (b:=true) (Yct Yh3 (by rw [Zc]; exact Nat.lt_trans (sz5 hsl hsz hs) (by decide)) (by simp))<|Yfr rfl ?_
 have hsz1:Pt.sizes (init++[t])=Pt.sizes init+t.size:=Pt.sizes_append ..
 have hil:=Pt.sizes_len init
 have hst':=hst t (Zyb _ (Zj.mpr rfl))
 have hta:=hst'.2
 have hfk:=hst'.1.out.1
 have hfc:=hst'.1.out.2
 have htp:=Pt.size_pos t
 have hkl:t.kids.length < 1000:=hfk
 have hks:=Pt.kids_size t
 refine Ybd TO rfl 60 _ _ _ _<|Yam.pop Yh3<|Cal.mk<|Yaa.pop (v:=t.v) (vs:=init.map Pt.v) (by rw [Yh3,Zfc]; rfl) (by rw [Zc]; exact sz6 (sz5 hil (Za (Zzb (hsz1▸Zy ..) _) hsz) hs)) ?_
 rw [Yu2]
 have fin:∀ {ns':List Str},(∀ n∈ns',p.Asks n)→ns'.length≤ns.length+1→(∀ n∈ns,n∈ns')→(∀ n,t=.rule n→n∈ns')→∃ m,m < n∧Yx4 p σ m (Yox ρ' [("found",.ref σ.length),("waiting",.ref (σ.length+1))] |> fun ρ=>upd ρ "one" (some t.v)) (σ++.list (ns'.map .str)::.list ((init++t.kids).map Pt.v)::(junk++[.list (t.kids.map Pt.v)])):=fun {ns'} h1 h2 h3 h4 =>
   ⟨Pt.sizes (init++t.kids),by rw [hn,hsz1,Pt.sizes_append]; exact Nat.add_lt_add_left hks _,ns',init++t.kids,_,rfl,by rw [Pt.sizes_append]; exact sz7 h2 hks (hsz1▸hsz),h1,fun u hu=>(Zm.mp hu).elim (fun hu=>hst u (Zxb _ hu)) fun hu=>⟨hfc u hu,fun n hn=>hta n (.deep hu hn)⟩,
     fun n hn=>(hall n hn).elim (fun h=>.inl (h3 n h)) fun ⟨u,hu,hn⟩=>(Zm.mp hu).elim (fun hu=>.inr ⟨u,Zxb _ hu,hn⟩) fun hu=>by
       cases Zj.mp hu
       exact (Pt.asks_kids hn).elim (fun h=>.inl (h4 n h)) fun hh1=>by obtain ⟨k,hk,hn⟩:=hh1; exact .inr ⟨k,Zyb _ hk,hn⟩,rfl,⟨rfl,rfl,trivial⟩⟩
 have fin2:∀ {ns':List Str}{K:QE},(K .none (σ++.list (ns'.map .str)::.list ((init++t.kids).map Pt.v)::(junk++[.list (t.kids.map Pt.v)])))→Cal (T11 w s) (d+1) X (.bi "list.extend") [.ref (σ.length+1),.ref (σ++.list (ns'.map .str)::.list (init.map Pt.v)::junk).length] K ((σ++.list (ns'.map .str)::.list (init.map Pt.v)::junk)++[.list (t.kids.map Pt.v)]):=fun {ns' K} k =>
   ⟨Yaa.extend (vs:=init.map Pt.v) (us:=t.kids.map Pt.v) (by rw [Ze]; exact Yh3) Yae (by rw [Zc,Zc]; exact szo (Za (Zcb (Zq (sz5 hil (Za (Zzb (hsz1▸Zy ..) _) hsz) hs)) (Zq hkl)) (by decide))) (by
     rw [Ze,List.cons_append,List.cons_append,Yu2,← Zfc]; exact k)⟩
 have wi:∀ {σ':Hp}{K:QE},K (.ref σ'.length) (σ'++[.list (t.kids.map Pt.v)])→Cal (T11 w s) (d+1) X (.glob "within") [t.v] K σ':=fun {σ' K} k=>⟨Yf3 TO (szo (by (clear k fin fin2 q hks; exact Zq (Nat.lt_trans hfk (Ztb (Nat.succ 1000) 16776215))))) k⟩
 refine Ydc.tag<|Br.mk (fun h=>?_) fun h=>?_
 · refine (Pt.tag_rule h).elim fun n hn=>?_
   refine Yam.append Ygj<|Ydc.rule hn<|Cal.mk<|Yaa.append (vs:=ns.map .str) Ygj (by rw [Zc]; exact Zq (sz6 (Zk (Za (Zy ..) hsz) hs))) ?_
   rw [Yuz,show ns.map V.str++[V.str n]=(ns++[n]).map V.str by simp]
   exact Yam.extend Yh3<|wi<|fin2<|fin (fun m hm=>(Zm.mp hm).elim (hns m) fun h=>by cases Zj.mp h; exact hta _ (hn▸.here)) (by simp) (fun m hm=>Zxb _ hm) fun m hm=>by rw [hn] at hm; cases hm; simp
 · exact Yam.extend Yh3<|wi<|fin2<|fin hns (Nat.le_succ _) (fun zz h=>h) fun n e=>by rw [e] at h; exact (Zv h.symm).elim
end
section
variable {w:World}{s:Shared}{d:Nat}{X:QX}{Q:QE}{σ:Hp}
theorem Cmp.strs {neg b:Bool}{x y:Str}(h:Yq3 x y=b) (q:Q (.bool (neg != b)) σ):Cmp (if neg then .NotIn else .In) (.str x) (.str y) Q σ:=.inR (h▸.str x y) q
theorem Yli (TO:Yaf (T11 w s)) {x:Str}(hx:Yen x=true) (q:∀ junk,Q (.bool true) (σ++junk)):Yaa (T11 w s) (d+1) X (.glob "is_name") [.str x] Q σ:=by
 simp only [Yen,Zob,decide_eq_true_eq] at hx
 obtain ⟨⟨h1,h12⟩,hall⟩:=hx
 refine Yaa.go TO rfl rfl ?_
 refine Cal.isi (b:=true) rfl<|Cal.len rfl (by clear h1 hall; exact Zk (by assumption) (by decide))<|Br.t (Zmb (by clear hall; lia))<|Br.f (by rw [Zmb (by clear hall; lia)]; rfl) ⟨x.cps.toList.map fun c=>.str ⟨#[c]⟩,fun i acc σ'=>acc=[]∧σ'=σ,⟨rfl,rfl⟩,fun i acc σ' hJ=>⟨rfl,by rw [hJ.1]; exact Zkb _⟩,fun acc σ' hJ=>?_,fun i y acc σ' hJ hy=>?_⟩
 · rw [hJ.1,hJ.2]
   exact Cal.len (n:=0) (Ykt (vs:=[]) Yae) (by decide) (q _)
 · rw [Zdb,Zpb] at hy
   refine hy.elim fun c hh=>?_
   have hc:=hh.1
   apply Ya1 hJ.2
   apply Ya1 hJ.1
   apply Ya1 hh.2.symm
   exact Yej TO rfl 40 10 _ _ _<|Cmp.strs (neg:=true) (Yn4 (List.all_eq_true.mp hall c (Zn hc))) ⟨rfl,rfl⟩
theorem Ydz {α:Type}{f:α→V}{rs:List α}{i:Nat}{x:V}(h:(rs.map f)[i]?=some x):∃ r,rs[i]?=some r∧x=f r:=by
 rw [Zdb,Zpb] at h
 obtain ⟨r,hr,rfl⟩:=h
 exact ⟨r,hr,rfl⟩
theorem Cmp.met {neg:Bool}{n:Str}{l:Nat}{ns:List Str}(hl:σ[l]?=some (.sdict (Ydi ns))) (q:Q (.bool (neg != decide (n∈ns))) σ):Cmp (if neg then .NotIn else .In) (.str n) (.ref l) Q σ:=.inR (.dict _ _ _ hl) (by rw [Yfy]; exact q)
inductive Yyd (l:Nat) (σ:Hp) (ns:List Str) (ρ':Loc) (σ':Hp):Prop where
 | mk (q0:Has ρ' [("rules",.ref l),("met",.ref σ.length)]) (junk:Hp) (q2:σ'=σ++.sdict (Ydi ns)::junk):Yyd l σ ns ρ' σ'
theorem Yht (TO:Yaf (T11 w s)) {l:Nat}{rs:List (Str×Pt)}(hl:σ[l]?=some (.list (rs.map Ybn))) (hg:Yan rs) (q:∀ junk,Q .none (σ++junk)):Yaa (T11 w s) (d+16) X (.glob "need_rules") [.ref l] Q σ:=by
 have hm:=hg.most
 have h1:=hg.one
 refine Yaa.go TO rfl rfl ?_
 refine Cal.isi (b:=true) (Yhu hl)<|Cal.len (n:=rs.length) (Yfz hl (Zc _)) (Zk hm (by decide))<|Br.t (Zmb (Int.ofNat_le.mpr h1))<|Br.f (by rw [Zmb (show (rs.length:Int)≤40 from Int.ofNat_le.mpr hm)]; rfl)
   ⟨rs.map Ybn,fun i=>Yyd l σ ((rs.take i).map (·.1)),⟨⟨rfl,rfl,trivial⟩,[],rfl⟩,fun i ρ' σ' hJ=>hJ.rec fun zz junk e=>e▸Ybe (Yab hl),fun ρ' σ' hJ=>hJ.rec fun hρ junk e=>?_,fun i x ρ' σ' hJ hx=>hJ.rec fun hρ junk e=>(Ydz hx).elim fun r hh=>?_⟩
 · rw [Zc,Zgc] at e
   apply Ya1 e
   apply Has.on hρ
   refine ⟨rs.map Ybn,fun i=>Yyd l σ (rs.map (·.1)),⟨⟨rfl,rfl,trivial⟩,junk,rfl⟩,fun i ρ₂ σ₂ hJ=>hJ.rec fun zz jk e=>e▸Ybe (Yab hl),fun ρ₂ σ₂ hJ=>hJ.rec fun zz jk e=>e▸q _,fun i x ρ₂ σ₂ hJ hx=>hJ.rec fun hρ jk e2=>(Ydz hx).elim fun r hh=>?_⟩
   · have hr:=hh.1
     apply Ya1 e2
     apply Ya1 hh.2
     apply Has.on hρ
     have hG:=hg.all r (Zn hr)
     refine ⟨_,rfl,Ybd TO rfl 60 _ _ _ _<|Cal.mk<|Yj6 (d:=d+13) TO hG.few hG.size fun ns jk2 hns hln=>⟨ns.map .str,fun zz ρ₃ σ₃=>Has ρ₃ [("rules",.ref l),("met",.ref σ.length)]∧σ₃=(σ++.sdict (Ydi (rs.map (·.1)))::jk)++.list (ns.map .str)::jk2,⟨⟨rfl,rfl,trivial⟩,rfl⟩,fun i ρ₃ σ₃ hJ=>?_,fun ρ₃ σ₃ hJ=>?_,fun i y ρ₃ σ₃ hJ hy=>?_⟩⟩
     · rw [hJ.2]; exact Ybe Ygj
     · exact ⟨hJ.1,jk++.list (ns.map .str)::jk2,by rw [hJ.2,Ze,List.cons_append]⟩
     · refine (Ydz hy).elim fun n hh=>?_
       have hn:=hh.1
       apply Ya1 hJ.2
       apply Ya1 hh.2
       apply Has.on hJ.1
       have hin:=hG.asks n ((hns n).mp (Zn hn))
       refine ⟨_,rfl,Ybd TO rfl 60 _ _ _ _<|Cmp.met (neg:=true) (ns:=rs.map (·.1)) (by rw [Ze,List.cons_append]; exact Ygj)<|Br.f (by rw [Zmb hin]; rfl) ⟨⟨rfl,rfl,trivial⟩,rfl⟩⟩
 · have hr:=hh.1
   apply Ya1 e
   apply Ya1 hh.2
   apply Has.on hρ
   have hG:=hg.all r (Zn hr)
   have hnew:r.1∉(rs.take i).map (·.1):=Ydn hg.nodup hr
   refine ⟨_,rfl,Ybd TO rfl 60 _ _ _ _<|Cal.isi rfl<|Cal.lenT rfl<|Cal.mk<|Yli TO hG.name fun jk=>?_⟩
   rw [Ze,List.cons_append]
   refine Cmp.met (neg:=false) (ns:=(rs.take i).map (·.1)) Ygj<|Br.f (by rw [Zrc hnew]; rfl)<|Cal.mk<|Ymm (d:=d+1) TO 12 r.2 12 hG.deep (Zl _) hG.good hG.few<|Yat.mk _ _ _ rfl rfl Ygj (by rw [Ydi,Zc,Zc]; exact szo (Za (Zic ..) (Za hm (by decide)))) ?_
   rw [Yuz,Yfn hnew]
   refine ⟨⟨rfl,rfl,trivial⟩,junk++jk,?_⟩
   rw [Ya3 hr,Zfc]; rfl
end
section
variable {w:World}{s:Shared}{d:Nat}
theorem Yts {B:Str→Bool}{ps:List Pt}:Pt.may B (.row ps)=(ps.map (Pt.may B)).all id:=by rw [Pt.may4,Pt.mayAll_eq,List.all_map]; rfl
theorem Yug {B:Str→Bool}{ps:List Pt}:Pt.may B (.alt ps)=(ps.map (Pt.may B)).any id:=by rw [Pt.may5,Pt.mayAny_eq,List.any_map]; rfl
theorem Cmp.keys {n:Str}{l:Nat}{kvs:List (Str×V)}{Q:QE}{σ:Hp}(hl:σ[l]?=some (.sdict kvs)) (q:Q (.bool (Ygf kvs n)) σ):Cmp .In (.str n) (.ref l) Q σ:=.inD hl rfl q
theorem Ysh (TO:Yaf (T11 w s)) {b:Nat}{kvs:List (Str×V)}:∀ (n:Nat) (p:Pt) {X:QX}{Q:QE}{σ:Hp},p.deep≤n→Pt.All Pt.few p→σ[b]?=some (.sdict kvs)→(∀ junk,Q (.bool (p.may (Ygf kvs))) (σ++junk))→Yaa (T11 w s) (d+n+1) X (.glob "may_be_empty") [p.v,.ref b] Q σ:=by
 intro n
 induction n with
 | zero=>intro p X Q σ hn; exact absurd (Za (Pt.deep_pos p) hn) (Nat.not_succ_le_zero 0)
 | succ n ih =>
   intro p X Q σ hn hf hb q
   have q0:Q (.bool (p.may (Ygf kvs))) σ:=Zlc σ▸q []
   have hfk:=hf.out.1
   have hfc:=hf.out.2
   have hkl:p.kids.length < 1000:=hfk
   refine Yaa.go TO rfl rfl ?_
   have run:∀ {sc:Scope}{scope:Scope}{ρ:Loc}{elt:Expr}{K:QE},(∀ jk,K (.ref (σ++.list (p.kids.map Pt.v)::jk).length) (σ++.list (p.kids.map Pt.v)::jk++[.list (p.kids.map fun k=>V.bool (k.may (Ygf kvs)))])) →
       (∀ (k:Pt) {Z:QE}{σ':Hp},Cal (T11 w s) (d+n+1) X (.glob "may_be_empty") [k.v,.ref b] Z σ'→Yal (T11 w s) (d+n+1) (Yhz scope sc) (upd (Ybo scope ρ) "one" (some k.v)) X elt Z σ') →
       Yc6 (T11 w s) (d+n+1) sc ρ X scope "one" [] elt K (.ref σ.length) (σ++[.list (p.kids.map Pt.v)]):=fun {sc scope ρ elt K} hK he =>
     ⟨p.kids.map Pt.v,fun i acc σ'=>acc=(p.kids.take i).map (fun k=>V.bool (k.may (Ygf kvs)))∧∃ junk,σ'=σ++.list (p.kids.map Pt.v)::junk,⟨rfl,[],rfl⟩,fun i acc σ' hJ=>⟨hJ.2.elim fun junk e=>e▸Ybe Ygj,by rw [hJ.1,Zc]; exact szo (Za (Zic ..) (Za (Zq hkl) (by decide)))⟩,fun acc σ' hJ=>hJ.2.elim fun junk e=>by
       rw [hJ.1,e,Zc,Zgc]
       exact hK junk,fun i y acc σ' hJ hy=>hJ.2.elim fun junk e=>(Ydz hy).elim fun k hh=>by
       have hk:=hh.1
       have hm:=Zn hk
       rw [e,hh.2]
       exact he k ⟨ih k (Zcc (Za (Pt.kids_deep hm) hn)) (hfc k hm) (Yab hb) fun jk=>⟨by rw [hJ.1,Ya3 hk,Zfc]; rfl,junk++jk,by rw [Ze,List.cons_append]⟩⟩⟩
   have wi:∀ {K:QE},K (.ref σ.length) (σ++[.list (p.kids.map Pt.v)])→Cal (T11 w s) (d+n+1) X (.glob "within") [p.v] K σ:=fun {K} k=>⟨Yf3 (d:=d+n) TO (szo (Za (Zq hkl) (by decide))) k⟩
   have el:∀ {ps:List Pt}{σ:Hp}{l:Nat},σ[l]?=some (.list (ps.map fun k=>V.bool (k.may (Ygf kvs))))→σ[l]?=some (.list ((ps.map (Pt.may (Ygf kvs))).map V.bool)):=fun h=>(Yp2 _ _)▸h
   cases p with
   | many p=>exact q0
   | nt p=>exact q0
   | rule m=>exact Cmp.keys hb q0
   | row ps =>
     refine wi<|run (fun jk=>Cal.mk (Yaa.all (el Yae) ?_)) fun k Z σ' h=>Ye0 TO rfl 40 _ _ _ h
     have:=q (.list (ps.map Pt.v)::jk++[.list (ps.map fun k=>V.bool (k.may (Ygf kvs)))])
     rw [Yts,← Ze] at this
     exact this
   | alt ps =>
     refine wi<|run (fun jk=>Cal.mk (Yaa.any (el Yae) ?_)) fun k Z σ' h=>Ye0 TO rfl 40 _ _ _ h
     have:=q (.list (ps.map Pt.v)::jk++[.list (ps.map fun k=>V.bool (k.may (Ygf kvs)))])
     rw [Yug,← Ze] at this
     exact this
   | sign c =>
     refine wi<|run (fun jk=>?_) fun k Z σ' h=>Ye0 TO rfl 40 _ _ _ h
     have:=q (.list []::jk++[.list []])
     rw [← Ze] at this
     exact this
   | span a b =>
     refine wi<|run (fun jk=>?_) fun k Z σ' h=>Ye0 TO rfl 40 _ _ _ h
     have:=q (.list []::jk++[.list []])
     rw [← Ze] at this
     exact this
   | any =>
     refine wi<|run (fun jk=>?_) fun k Z σ' h=>Ye0 TO rfl 40 _ _ _ h
     have:=q (.list []::jk++[.list []])
     rw [← Ze] at this
     exact this
end
section
variable {w:World}{s:Shared}{d:Nat}
theorem Yt8 {α:Type}{l:List α}{i:Nat}{k:α}(hk:l[i]?=some k):l.drop i=k::l.drop (i+1):=by
 obtain ⟨hi,e⟩:=Zb.mp hk
 rw [← e]; exact List.drop_eq_getElem_cons hi
theorem Yq0 {σ:Hp}{a o:Yas}{n:Nat}(h:n=σ.length+1):(σ++[a]++[o])[n]?=some o:=by rw [h]; exact (Zf (as:=σ) (bs:=[a]))▸Yae
inductive Yyl (p:Pt) (b:Nat) (σ:Hp) (B:Str→Bool) (i:Nat) (ρ':Loc) (σ':Hp):Prop where
 | mk (r:Nat) (acc:List Str) (junk:Hp) (q0:Has ρ' [("found",.ref r),("part",.tup (.str p.word::p.rest)),("bare",.ref b)]) (q3:σ.length≤r) (q4:σ'=σ++junk) (q7:σ'[σ.length+1]?=some (.list (p.kids.map Pt.v))) (q5:σ'[r]?=some (.list (acc.map V.str))) (q6:acc++Ylw B (p.word == "row") (p.kids.drop i)=Ylw B (p.word == "row") p.kids):Yyl p b σ B i ρ' σ'
theorem Yrv (TO:Yaf (T11 w s)) {b:Nat}{kvs:List (Str×V)}:∀ (n:Nat) (p:Pt) {X:QX}{Q:QE}{σ:Hp},p.deep≤n→p.size < 100000→Pt.All Pt.few p→σ[b]?=some (.sdict kvs) →
   (∀ r junk,σ.length≤r→(σ++junk)[r]?=some (.list ((p.ahd (Ygf kvs)).map V.str))→Q (.ref r) (σ++junk))→Yaa (T11 w s) (d+n+1) X (.glob "ahead") [p.v,.ref b] Q σ:=by
 intro n
 induction n with
 | zero=>intro p X Q σ hn; exact absurd (Za (Pt.deep_pos p) hn) (Nat.not_succ_le_zero 0)
 | succ n ih =>
   intro p X Q σ hn hsz hf hb q
   have hfk:=hf.out.1
   have hfc:=hf.out.2
   have hkl:p.kids.length < 1000:=hfk
   rw [p.head]
   refine Yaa.go TO rfl rfl ?_
   by_cases h3:p.word = "rule"
   · obtain ⟨m,rfl⟩:=Pt.word_rule h3
     exact q _ _ (Zl _) Yae
   have wi:∀ {σ':Hp}{K:QE},K (.ref σ'.length) (σ'++[.list (p.kids.map Pt.v)])→Cal (T11 w s) (d+n+1) X (.glob "within") [.tup (.str p.word::p.rest)] K σ':=fun {σ' K} k=>⟨by rw [← p.head]; exact Yf3 (d:=d+n) TO (szo (Zq (Nat.lt_trans hfk (by decide)))) k⟩
   refine Br.f (Zmc.mpr h3)<|wi ?_
   have htot:(Ylw (Ygf kvs) (p.word == "row") p.kids).length≤p.size:=Pt.ahd_kids (B:=Ygf kvs) h3▸Pt.ahd_size _ _
   have done:∀ {r:Nat}{acc:List Str}{jk σ':Hp},σ'=σ++jk→σ.length≤r→σ'[r]?=some (.list (acc.map V.str))→acc=Ylw (Ygf kvs) (p.word == "row") p.kids→Q (.ref r) σ':=fun {r acc jk σ'} e h1 h2 h3'=>by
     rw [h3',← Pt.ahd_kids h3,e] at h2
     rw [e]; exact q r _ h1 h2
   clear q
   refine ⟨p.kids.map Pt.v,Yyl p b σ (Ygf kvs),⟨σ.length,[],[.list [],.list (p.kids.map Pt.v)],⟨rfl,rfl,rfl,trivial⟩,Zl _,Ze ..,Yq0 rfl,Yab Yae,rfl⟩,fun i ρ' σ' hJ=>?_,fun ρ' σ' hJ=>?_,fun i x ρ' σ' hJ hx=>?_⟩
   · exact hJ.rec fun r acc junk zz zz zz h7 zz zz=>Ybe (Zf (as:=σ) (bs:=[Yas.list []])▸h7)
   · refine hJ.rec fun r acc junk a1 a4 a3 a7 a5 a6=>?_
     apply Has.on a1
     rw [Zc,List.drop_length,Yip,Zlc] at a6
     exact done a3 a4 a5 a6
   · refine hJ.rec fun r acc junk a1 a4 a3 a7 a5 a6=>(Ydz hx).elim fun k hkx=>?_
     have hk:=hkx.1
     apply Ya1 hkx.2
     apply Has.on a1
     clear hkx hx a1 hJ
     have hm:=Zn hk
     have hkd:k.deep≤n:=Zcc (Za (Pt.kids_deep hm) hn)
     rw [Yt8 hk,Ynd,← Ze] at a6
     have hlen:(acc++k.ahd (Ygf kvs)).length≤p.size:=Za (Zf▸Zy ..) (a6▸htot)
     have hsl:(acc++k.ahd (Ygf kvs)).length≤sizeLine:=szo (Za (Zq (Zk hlen hsz)) (by decide))
     have hb':σ'[b]?=some (.sdict kvs):=a3▸Yab hb
     refine ⟨_,rfl,Ybd TO rfl 60 _ _ _ _<|Cal.mk<|ih k hkd (Nat.lt_trans (Pt.size_mem hm) hsz) (hfc k hm) hb' fun r2 jk hr2 hl2=>Bin.lists (Yab a5) hl2 (by rw [Zc,Zc,← Zf]; exact hsl) ?_⟩
     rw [← Zfc]
     generalize acc++k.ahd (Ygf kvs)=acc2 at a6
     have e2:σ'++jk=σ++(junk++jk):=a3▸Ze ..
     have h7:(σ'++jk)[σ.length+1]?=some (.list (p.kids.map Pt.v)):=Yab a7
     have hb2:(σ'++jk)[b]?=some (.sdict kvs):=Yab hb'
     clear hl2 hr2 a7 a5 a3 hlen hsl hb'
     generalize σ'++jk=σ2 at e2 h7 hb2 ⊢
     have hle:σ.length≤σ2.length:=by rw [e2,Zf]; exact Zy ..
     have hap:∀ {j3:Hp},σ2++[Yas.list (acc2.map V.str)]++j3=σ++(junk++jk++[Yas.list (acc2.map V.str)]++j3):=by
       intro j3; rw [e2]; simp only [Ze]
     have next:∀ {j3:Hp}{ρ:Loc},Has ρ [("found",.ref σ2.length),("part",.tup (.str p.word::p.rest)),("bare",.ref b)]→acc2++Ylw (Ygf kvs) (p.word == "row") (p.kids.drop (i+1))=Ylw (Ygf kvs) (p.word == "row") p.kids→Yyl p b σ (Ygf kvs) (i+1) ρ (σ2++[Yas.list (acc2.map V.str)]++j3):=fun {j3 ρ} h1 h2=>⟨_,acc2,_,h1,hle,hap,Yab (Yab h7),Yab Yae,h2⟩
     by_cases h4:p.word = "row"
     · have e4:(p.word == "row")=true:=beq_iff_eq.mpr h4
       rw [e4] at a6 done next
       refine Br.t e4<|Cal.mk<|Ysh (d:=d) TO n k hkd (hfc k hm) (Yab hb2) fun jk3=>Br.mk (fun hm=>?_) fun hm=>?_
       · rw [Bool.not_eq_true'] at hm
         rw [hm] at a6
         exact done hap hle (Yab Yae) ((Zlc _).symm.trans a6)
       · rw [Bool.not_eq_false'] at hm
         rw [hm] at a6
         exact next ⟨rfl,rfl,rfl,trivial⟩ a6
     · have e4:(p.word == "row")=false:=Zmc.mpr h4
       have this:=next (j3:=[]) (ρ:=upd (upd (Yox ρ' [("found",.ref r),("part",.tup (.str p.word::p.rest)),("bare",.ref b)]) "one" (some k.v)) "found" (some (.ref σ2.length))) ⟨rfl,rfl,rfl,trivial⟩ (by rw [e4] at a6 ⊢; exact a6)
       rw [Zlc] at this
       exact Br.f e4 this
end
section
variable {w:World}{s:Shared}{d:Nat}{X:QX}{Q:QE}{σ:Hp}
noncomputable def Ydg (T:Tp) (C:Addr) (x:Str):Prop:=∃ fa,PySem.W.findIn T.K (.ref C) x=some (some (.ref fa))∧PySem.W.typeIn T.K (.ref fa)=some (.type "function")∧PySem.W.keepIn T.K (.ref fa)=true
noncomputable def Yc0 (T:Tp) (C:Addr) (x:Str):Prop:=PySem.W.findIn T.K (.ref C) x=some none∧PySem.W.takerIn T.K C x=some none
structure Yye (T:Tp) (C:Addr):Prop where
 cls:Yeo T "Grammar" C
 pairs:Yc0 T C "pairs"
 table:Yc0 T C "table"
 bare:Yc0 T C "bare"
 leads:Yc0 T C "leads"
 comes_back:Ydg T C "comes_back"
 need:Ydg T C "need"
 names:Ydg T C "names"
 part:Ydg T C "part"
 asked:Ydg T C "asked"
theorem Yfq:∃ C,Yye (T11 w s) C:=⟨_,⟨rfl,rfl,rfl,rfl,rfl,rfl⟩,⟨rfl,rfl⟩,⟨rfl,rfl⟩,⟨rfl,rfl⟩,⟨rfl,rfl⟩,⟨_,rfl,rfl,rfl⟩,⟨_,rfl,rfl,rfl⟩,⟨_,rfl,rfl,rfl⟩,⟨_,rfl,rfl,rfl⟩,⟨_,rfl,rfl,rfl⟩⟩
theorem Yam.own {T:Tp}{l:Nat}{c name:Str}{gs:List (Str×V)}{C:Addr}{K:V→Prop}(h1:σ[l]?=some (.inst c gs)) (h2:gs.lookup name=none) (hc:Yeo T c C) (hf:Ydg T C name) (k:K (.mth c name)):Yam T (.ref l) name σ K:=by
 obtain ⟨fa,h3,h4,h5⟩:=hf
 exact ⟨_,.mth l c gs C fa h1 h2 hc h3 h4 h5,k⟩
theorem Yad.of {T:Tp}{l:Nat}{c attr:Str}{gs:List (Str×V)}{C:Addr}{v:V}(h1:σ[l]?=some (.inst c gs)) (h2:gs.lookup attr=some v) (h3:Ynu v=true) (hc:Yeo T c C) (hf:Yc0 T C attr) (q:Q v σ):Yad T attr Q (.ref l) σ:=⟨l,c,gs,v,C,rfl,h1,h2,h3,hc,hf.1,q⟩
theorem Yaj.of {T:Tp}{l:Nat}{c attr:Str}{gs:List (Str×V)}(gs':List (Str×V)) {C:Addr}{v:V}{ρ:Loc}{K:QS}(h1:σ[l]?=some (.inst c gs)) (hc:Yeo T c C) (hf:Yc0 T C attr) (h4:gs.length < 1000) (e:Yca gs attr v=gs') (q:K .next ρ (σ.set l (.inst c gs'))):Yaj T attr ρ K v (.ref l) σ:=⟨l,c,gs,C,rfl,h1,hc,hf.2,h4,by rw [e]; exact q⟩
theorem Yaj.to {T:Tp}{l:Nat}{c attr:Str}{gs:List (Str×V)}(gs':List (Str×V)) {C:Addr}{v:V}{ρ:Loc}{K:QS}(h1:σ[l]?=some (.inst c gs)) (hc:Yeo T c C) (hf:Yc0 T C attr) (h4:gs.length < 1000) (e:Yca gs attr v=gs') {σ':Hp}(es:σ.set l (.inst c gs')=σ') (q:K .next ρ σ'):Yaj T attr ρ K v (.ref l) σ:=Yaj.of gs' h1 hc hf h4 e (es.symm▸q)
theorem Yat.of {l:Nat}{k:Str}{kvs:List (Str×V)}{v:V}{ρ:Loc}{K:QS}(h1:σ[l]?=some (.sdict kvs)) (h2:kvs.length≤1000000) (q:K .next ρ (σ.set l (.sdict (Yca kvs k v)))):Yat ρ K v (.ref l) (.str k) σ:=.mk l k kvs rfl rfl h1 (szo (by exact Zq (Zk h2 (Ztb (Nat.succ 1000000) 15777215)))) q
theorem Itm.dict {l:Nat}{k:Str}{kvs:List (Str×V)}{v:V}(h1:σ[l]?=some (.sdict kvs)) (h2:Yhq kvs k=some v) (q:Q v σ):Itm (.ref l) (.str k) Q σ:=⟨⟨v,.dict _ _ _ _ h1 h2,q⟩⟩
theorem Ykp {m r x:Nat}(hx:x≤(m+1)*100000) (hm:m≤r) (hr:r≤40):x≤4100000:=Za hx (Zvb 100000 (Zwb (Za hm hr)))
theorem Yuu {r m i a:Nat}(h:m+1≤r) (ha:a < 100000):(r - (m+1))*100001+(i+a) < (r - m)*100001+(i+1):=by
 obtain ⟨k,rfl⟩:=Nat.exists_eq_add_of_le h
 rw [Nat.add_sub_cancel_left,show m+1+k - m=k+1 by rw [Nat.add_assoc,Nat.add_sub_cancel_left,Nat.add_comm],Nat.succ_mul,Nat.add_assoc]
 refine Nat.add_lt_add_left ?_ _
 rw [Nat.add_comm i a,Nat.add_comm i 1,← Nat.add_assoc]
 exact Nat.add_lt_add_right (Nat.lt_trans ha (by decide)) i
theorem Ys1 {m i a:Nat}(h:i+1≤(m+1)*100000) (ha:a < 100000):i+a≤(m+1+1)*100000:=Za (Zcb (Zkc h) (Zq ha)) (Zr (Nat.succ_mul (m+1) 100000).symm)
inductive Yyu (rs:List (Str×Pt)) (B:Str→Bool) (r:Str×Pt) (g:Nat) (σ:Hp) (n:Nat) (ρ':Loc) (σ':Hp):Prop where
 | mk (ms:List Str) (ws:List Str) (q0:n=(rs.length - ms.length)*100001+ws.length) (q1:Yrl rs B r.1 ms ws) (q2:ws.length≤(ms.length+1)*100000) (q3:Has ρ' [("self",.ref g),("name",.str r.1),("met",.ref σ.length),("waiting",.ref (σ.length+1))]) (q7:σ'=σ++.sdict (Ydi ms)::[.list (ws.map V.str)]):Yyu rs B r g σ n ρ' σ'
theorem Yhg (TO:Yaf (T11 w s)) {rs:List (Str×Pt)}{B:Str→Bool}(hg:Yan rs) {g e:Nat}{gs:List (Str×V)}{kl:List (Str×V)}(h1:σ[g]?=some (.inst "Grammar" gs)) (h2:gs.lookup (Str.ofString "leads")=some (.ref e)) (h3:σ[e]?=some (.sdict kl)) {lo:Nat}(hL:Ycw rs B kl lo σ)
   {r:Str×Pt}(hr:r∈rs) (q:∀ c junk,(c=true↔Rch rs B r.1 r.1)→Q (.bool c) (σ++junk)):Yaa (T11 w s) (d+1) X (.mth "Grammar" "comes_back") [.ref g,.str r.1] Q σ:=by
 refine (Yfq (w:=w) (s:=s)).elim fun C hC=>Yaa.goM TO rfl rfl<|(hL r hr).elim fun j hjj=>?_
 have hj1:=hjj.2.1
 have hj2:=hjj.2.2
 have hm:=hg.most
 have hsz:∀ r∈rs,(r.2.ahd B).length < 100000:=fun r hr=>Zk (Pt.ahd_size ..) (hg.all r hr).size
 refine Yad.of (Yab h1) h2 rfl hC.cls hC.leads<|Itm.dict (Yab h3) hj1<|Cal.list (vs:=(r.2.ahd B).map V.str) (Yfg (Yab hj2)) (by rw [Zc]; exact szo (Za (Zq (hsz r hr)) (by decide)))<|Stx.mk <|
   Yba.while (Yyu rs B r g σ) (rs.length*100001+(r.2.ahd B).length) ⟨[],r.2.ahd B,rfl,⟨List.nodup_nil,fun y hy=>absurd hy Zdc,fun y hy=>.one ⟨r,hr,rfl,hy⟩,fun y hy=>.inr (Yqi.uniq hg.nodup hr hy),fun y hy=>absurd hy Zdc⟩,Za (Zq (hsz r hr)) (Zr (Nat.one_mul _).symm),⟨rfl,rfl,rfl,congrArg (fun n=>some (V.ref n)) Zf,trivial⟩,Ze ..⟩ ?_
 refine fun n ρ' σ' hJ=>hJ.rec fun ms ws hn hS hwl hρ hσ=>?_
 apply Has.on hρ
 have hms:ms.length≤rs.length:=by
   have:=Yhe (ns:=rs.map (·.1)) hS.nodup fun x hx=>by
     obtain ⟨r',a,b⟩:=hg.lead (hS.mr x hx)
     exact Zsb.mpr ⟨r',a,b⟩
   simpa using this
 have tl:=Zk (Ykp hwl hms hm) (show 4100000 < 2 ^ 62 by decide)
 refine (List.eq_nil_or_concat ws).elim (fun ew=>?_) fun hh=>hh.elim fun init hh=>hh.elim fun y ew=>?_
 · rw [ew] at hσ hS
   apply Ya1 hσ
   refine Yej TO rfl 40 10 _ _ _<|tvc.of (b:=false) (Yb2 Yh3 (by decide))<|Yio (by decide)<|Cmp.met (neg:=false) (ns:=ms) Ygj (q _ _ ?_)
   rw [Bool.false_bne]; exact hS.end
 rw [List.concat_eq_append] at ew
 rw [ew] at hσ hS hwl hn
 refine (hg.lead (hS.wr y (Zyb _ (Zj.mpr rfl)))).elim fun r' hh=>?_
 have hr':=hh.1
 rw [← hh.2] at hσ hS
 rw [Zf] at hwl hn
 have hwl:init.length+1≤(ms.length+1)*100000:=hwl
 have hn:n=(rs.length - ms.length)*100001+(init.length+1):=hn
 apply Ya1 hσ
 refine Yej TO rfl 40 10 _ _ _<|tvc.of (b:=true) (Yct Yh3 (by rw [Zc,Zf]; exact Zk (Ykp hwl hms hm) (by decide)) (by simp))<|Yfr rfl ?_
 refine Ybd TO rfl 60 _ _ _ _<|Yam.pop Yh3<|Cal.mk<|Yaa.pop (v:=.str r'.1) (vs:=init.map V.str) (by rw [Yh3,Zfc]; rfl) (by rw [Zc]; exact szo (Za (Ykp hwl hms hm) (by decide))) ?_
 rw [Yu2]
 refine Cmp.met (neg:=true) (ns:=ms) Ygj<|Br.mk (fun hin=>?_) fun hin=>?_
 · have hin:r'.1∉ms:=by simpa using hin
   refine (hL r' hr').elim fun j' hjj=>?_
   have hj1':=hjj.2.1
   have hj2':=hjj.2.2
   have:=hsz r' hr'
   have hms':ms.length+1≤rs.length:=by
     have:=Yhe (ms:=ms++[r'.1]) (ns:=rs.map (·.1)) (by rw [List.nodup_append]; exact ⟨hS.nodup,by simp,fun a ha b hb=>by cases Zj.mp hb; exact fun e=>hin (e▸ha)⟩) fun x hx=>by
       rcases Zm.mp hx with g | g
       · obtain ⟨r',a,b⟩:=hg.lead (hS.mr x g)
         exact Zsb.mpr ⟨r',a,b⟩
       · cases Zj.mp g; exact Zsb.mpr ⟨r',hr',rfl⟩
     simpa using this
   refine Yat.of Ygj (by simp only [Ydi,Zc]; (clear q hsz hj2 h1 h3; exact Za (Za (by assumption) (by assumption)) (by decide))) ?_
   rw [Yuz,Yfn hin]
   refine Yam.extend Yh3<|Yad.of (Yab h1) h2 rfl hC.cls hC.leads<|Itm.dict (Yab h3) hj1'<|Cal.mk<|Yaa.extend (vs:=init.map V.str) (us:=(r'.2.ahd B).map V.str) Yh3 (Yab hj2') (by simp only [Zc]; exact szo (Za (Zcb (Ykp (Zkc hwl) hms hm) (Zq this)) (by decide))) ?_
   rw [Yu2]
   refine ⟨_,?_,ms++[r'.1],init++r'.2.ahd B,rfl,hS.new hg.nodup hr' hin,?_,⟨rfl,rfl,rfl,rfl,trivial⟩,by rw [Zfc]⟩
   · rw [hn,Zf,Zf]
     exact Yuu hms' this
   · rw [Zf,Zf]; exact Ys1 hwl this
 · have hin:r'.1∈ms:=by simpa using hin
   refine ⟨_,?_,ms,init,rfl,hS.old hin,by (clear q hms hsz h1 h3 hj2 hm; exact Zq hwl),⟨rfl,rfl,rfl,rfl,trivial⟩,rfl⟩
   rw [hn]; exact Zs _
end
section
variable {w:World}{s:Shared}{d:Nat}{X:QX}{Q:QE}{σ:Hp}
theorem Mk.has {σ σ':Hp}{l:Nat}{fs:List (Str×V)}{ρ':Loc}(h:Mk σ l fs ρ' σ'):Has ρ' [("self",.ref σ.length),("rules",.ref l)]:=⟨h.self,h.ru,trivial⟩
theorem Mk.loc {σ σ':Hp}{l:Nat}{fs:List (Str×V)}{ρ' ρ₂:Loc}(h:Mk σ l fs ρ' σ') (hρ:Has ρ₂ [("self",.ref σ.length),("rules",.ref l)]):Mk σ l fs ρ₂ σ':=⟨hρ.1,hρ.2.1,h.pre,h.obj⟩
inductive Gm (rs:List (Str×Pt)) (σ:Hp) (l a b c:Nat) (bs:List Str) (ρ':Loc) (σ':Hp):Prop where
 | mk (q1:Mk σ l [("pairs",.ref a),("table",.ref b),("bare",.ref c)] ρ' σ') (q2:σ'[a]?=some (.list (rs.map Ybn))) (q3:σ'[b]?=some (.sdict (Yb3 rs))) (q4:σ'[c]?=some (.sdict (Ydi bs))):Gm rs σ l a b c bs ρ' σ'
theorem Gm.up {rs:List (Str×Pt)}{σ σ':Hp}{l a b c:Nat}{bs:List Str}{ρ':Loc}{jk:Hp}(h:Gm rs σ l a b c bs ρ' σ'):Gm rs σ l a b c bs ρ' (σ'++jk):=by
 obtain ⟨h1,h2,h3,h4⟩:=h
 exact ⟨h1.up,Yab h2,Yab h3,Yab h4⟩
theorem Gm.loc {rs:List (Str×Pt)}{σ σ':Hp}{l a b c:Nat}{bs:List Str}{ρ' ρ₂:Loc}(h:Gm rs σ l a b c bs ρ' σ') (hρ:Has ρ₂ [("self",.ref σ.length),("rules",.ref l)]):Gm rs σ l a b c bs ρ₂ σ':=by
 obtain ⟨h1,h2,h3,h4⟩:=h
 exact ⟨h1.loc hρ,h2,h3,h4⟩
theorem Gm.put {rs:List (Str×Pt)}{σ σ':Hp}{l a b c:Nat}{bs bs':List Str}{ρ':Loc}(h:Gm rs σ l a b c bs ρ' σ') (ha:σ.length < a) (hb:a < b) (hc:b < c):Gm rs σ l a b c bs' ρ' (σ'.set c (.sdict (Ydi bs'))):=by
 obtain ⟨h1,h2,h3,h4⟩:=h
 exact ⟨h1.put (by clear h2 h3 h4; lia),by rw [Ybf (by clear h2 h3 h4; exact Zoc (Nat.lt_trans hb hc))]; exact h2,by rw [Ybf (by clear h2 h3 h4; exact Zoc hc)]; exact h3,Yhn h4⟩
inductive Yv0 (σ:Hp) (l a b:Nat) (rs:List (Str×Pt)) (i:Nat) (ρ':Loc) (σ':Hp):Prop where
 | mk (q0:Mk σ l [("pairs",.ref a),("table",.ref b)] ρ' σ') (q1:σ'[a]?=some (.list (rs.map Ybn))) (q2:σ'[b]?=some (.sdict (Yb3 (rs.take i)))):Yv0 σ l a b rs i ρ' σ'
inductive Ywk (rs:List (Str×Pt)) (σ:Hp) (l a b c:Nat) (n:Nat) (ρ':Loc) (σ':Hp):Prop where
 | mk (bs:List Str) (gr:Bool) (q0:n=2*(rs.length - bs.length)+(if gr then 1 else 0)) (q1:ρ' "growing" = some (.bool gr)) (q2:Ynm rs bs) (q3:gr=false→∀ r∈rs,r.2.may (inB bs)=true→r.1∈bs) (q4:Gm rs σ l a b c bs ρ' σ'):Ywk rs σ l a b c n ρ' σ'
inductive Yul (rs:List (Str×Pt)) (bs:List Str) (σ:Hp) (l a b c:Nat) (i:Nat) (ρ₂:Loc) (σ₂:Hp):Prop where
 | mk (bs':List Str) (gr':Bool) (q0:ρ₂ "growing" = some (.bool gr')) (q1:Ynm rs bs') (q2:gr'=true→bs.length < bs'.length) (q3:gr'=false→bs'=bs∧∀ r∈rs.take i,r.2.may (inB bs)=true→r.1∈bs) (q4:Gm rs σ l a b c bs' ρ₂ σ₂):Yul rs bs σ l a b c i ρ₂ σ₂
inductive Yne (σ:Hp) (l a b c e:Nat) (rs:List (Str×Pt)) (bs:List Str) (i:Nat) (ρ':Loc) (σ':Hp):Prop where
 | mk (q0:Mk σ l [("pairs",.ref a),("table",.ref b),("bare",.ref c),("leads",.ref e)] ρ' σ') (q1:σ'[a]?=some (.list (rs.map Ybn))) (q2:σ'[b]?=some (.sdict (Yb3 rs))) (q3:σ'[c]?=some (.sdict (Ydi bs))) (kl:List (Str×V)) (q4:σ'[e]?=some (.sdict kl)) (q5:kl.length≤i) (q6:Ycw (rs.take i) (inB bs) kl σ.length σ'):Yne σ l a b c e rs bs i ρ' σ'
inductive Ysu (σ σ₈:Hp) (rs:List (Str×Pt)) (bs:List Str) (i:Nat) (ρ':Loc) (σ':Hp):Prop where
 | mk (q0:Has ρ' [("self",.ref σ.length)]) (jk:Hp) (q1:σ'=σ₈++jk) (q2:∀ r∈rs.take i,¬ Rch rs (inB bs) r.1 r.1):Ysu σ σ₈ rs bs i ρ' σ'
theorem Yt4 (TO:Yaf (T11 w s)) {rs:List (Str×Pt)}{l:Nat}(hl:σ[l]?=some (.list (rs.map Ybn))) (hg:Yan rs) (q:∀ bs junk,Yym rs bs→(∀ r∈rs,¬ Rch rs (inB bs) r.1 r.1)→Yrd rs bs σ.length (σ++junk)→Q (.ref σ.length) (σ++junk)) (qx:∀ bs (junk:Hp),Yym rs bs→(∃ r∈rs,Rch rs (inB bs) r.1 r.1)→X "Circling" (σ++junk)):Yaa (T11 w s) (d+18) X (.glob "Grammar") [.ref l] Q σ:=by
 refine (Yfq (w:=w) (s:=s)).elim fun C hC=>?_
 have hm:=hg.most
 refine Yaa.make TO rfl rfl rfl rfl<|Yb5.goM TO rfl rfl ?_
 refine Cal.mk<|Yht TO (Yab hl) hg fun junk=>?_
 have h1:Mk σ l [] (Ycf (fun zz=>none) ["self", "rules"] [.ref σ.length,.ref l]) (σ++[.inst "Grammar" []]++junk):=⟨rfl,rfl,⟨[.inst "Grammar" []]++junk,by rw [Ze]⟩,Yab Yae⟩
 generalize (σ++[.inst "Grammar" []]++junk)=σ₁ at h1
 refine Cal.list (vs:=rs.map Ybn) (Yfg (h1.rules hl)) (by rw [Zc]; exact szo (Za hm (by decide)))<|Yaj.of [("pairs",.ref σ₁.length)] (Yab h1.4) hC.cls hC.pairs (by decide) rfl ?_
 refine Yqo (h1.field (o:=.list (rs.map Ybn)) (fs':=[("pairs",.ref σ₁.length)])) fun h2 h2a ha zz=>?_
 generalize σ₁.length=a at h2 h2a ha
 generalize (σ₁++[Yas.list (rs.map Ybn)]).set σ.length (.inst "Grammar" [("pairs",.ref a)])=σ₂ at h2 h2a
 clear h1
 refine Yaj.of [("pairs",.ref a),("table",.ref σ₂.length)] (Yab h2.4) hC.cls hC.table (show 1 < 1000 by decide) rfl ?_
 refine Yqo (h2.field (o:=.sdict []) (fs':=[("pairs",.ref a),("table",.ref σ₂.length)])) fun h3 h3b zz f4=>?_
 have h3a:=f4 a _ (by (clear h2a h3b f4 hl; exact Zoc ha)) h2a
 have hb:=Ygo h2a
 clear h2a f4
 generalize σ₂.length=b at h3 h3a h3b hb
 generalize (σ₂++[Yas.sdict []]).set σ.length (.inst "Grammar" [("pairs",.ref a),("table",.ref b)])=σ₃ at h3 h3a h3b
 clear h2
 refine Yc7.mk (rs.map Ybn) (Yv0 σ l a b rs) ⟨h3,h3a,h3b⟩ (fun i ρ' σ' hJ=>?_) (fun ρ' σ' hJ=>?_) fun i x ρ' σ' hJ hx=>?_
 · exact hJ.rec fun j1 zz zz=>Ybe (j1.rules hl)
 rotate_left
 · refine hJ.rec fun j1 j2 j3=>(Ydz hx).elim fun r hh=>?_
   apply Has.on j1.has
   apply Ya1 hh.2
   have hr:=hh.1
   refine ⟨_,rfl,Ybd TO rfl 60 _ _ _ _<|Yad.of j1.4 rfl rfl hC.cls hC.table<|Yat.of j3 (by rw [Yb3,Zc]; exact Za (Zic ..) (Za hm (by decide))) ?_⟩
   refine ⟨(j1.put (by (clear h3a h3b j2 j3 hr hl; exact Zq (Zk ha hb)))).loc ⟨rfl,rfl,trivial⟩,?_,?_⟩
   · rw [Ybf (by (clear h3a h3b j2 j3 hr hl; exact Zoc hb))]; exact j2
   · rw [Yhn j3,Yij (Ydn hg.nodup hr),Ya3 hr]
 clear h3 h3a h3b
 refine hJ.rec fun h4 h4a h4b=>?_
 clear hJ
 rw [Zc,Zgc] at h4b
 apply Has.on h4.has
 generalize σ'=σ₄ at h4 h4a h4b
 refine Yaj.of [("pairs",.ref a),("table",.ref b),("bare",.ref σ₄.length)] (Yab h4.4) hC.cls hC.bare (show 2 < 1000 by decide) rfl ?_
 refine Yqo (h4.field (o:=.sdict []) (fs':=[("pairs",.ref a),("table",.ref b),("bare",.ref σ₄.length)])) fun h5 h5c zz f4=>?_
 have h5:Gm rs σ l a b σ₄.length [] _ _:=⟨h5,f4 a _ (by (clear h4a h4b h5c f4 hl; exact Zoc ha)) h4a,f4 b _ (by (clear h4a h4b h5c f4 hl; exact Zoc (Nat.lt_trans ha hb))) h4b,h5c⟩
 have hc:=Ygo h4b
 clear h5c h4a h4b f4
 generalize (σ₄++[Yas.sdict []]).set σ.length (.inst "Grammar" [("pairs",.ref a),("table",.ref b),("bare",.ref σ₄.length)])=σ₅ at h5
 generalize σ₄.length=c at h5 hc
 clear h4
 refine Stx.mk<|Yba.while (Ywk rs σ l a b c) (2*rs.length+1) ⟨[],true,rfl,rfl,.nil rs,(fun e=>(Zv e.symm).elim),h5.loc ⟨rfl,rfl,trivial⟩⟩ ?_
 clear h5
 refine fun n ρ' σ' hJ=>hJ.rec fun bs gr hn k1 k2 k3 k4=>?_
 apply Has.on (show Has ρ' [("growing",.bool gr),("self",.ref σ.length),("rules",.ref l)] from ⟨k1,k4.1.1,k4.1.2,trivial⟩)
 clear hJ
 refine Yej TO rfl 40 10 _ _ _ ?_
 cases gr
 rotate_left
 · show Yeg _ _ _ _ _ _ _ _
   have hbl:=k2.len
   refine Ybd TO rfl 60 _ _ _ _<|Yc7.mk (rs.map Ybn) (Yul rs bs σ l a b c) ⟨bs,false,rfl,k2,(fun e=>(Zv e).elim),fun zz=>⟨rfl,fun r hr=>absurd hr Zdc⟩,k4.loc ⟨rfl,rfl,trivial⟩⟩ (fun i ρ₂ σ₂ hJ=>hJ.rec fun zz zz zz zz zz zz j1=>Ybe (j1.1.rules hl)) (fun ρ₂ σ₂ hJ=>hJ.rec fun bs' gr' j1 j2 j3 j4 j5=>⟨_,?_,bs',gr',rfl,j1,j2,fun hf=>?_,j5⟩) fun i x ρ₂ σ₂ hJ hx=>hJ.rec fun bs' gr' j1 j2 j3 j4 j5=>(Ydz hx).elim fun r hh=>?_
   · rw [hn]
     cases gr'
     · rw [(j4 rfl).1]; exact Zs _
     · have g:=j3 rfl
       exact Nat.add_lt_add_right (Nat.mul_lt_mul_of_pos_left (Zqc (Zz g j2.len) g) (by decide)) 1
   · have e:=j4 hf
     rw [Zc,Zgc] at e
     rw [e.1]; exact e.2
   · have hr:=hh.1
     apply Ya1 hh.2
     have hrm:=Zn hr
     have hG:=hg.all r hrm
     apply Has.on (show Has ρ₂ [("growing",.bool gr'),("self",.ref σ.length),("rules",.ref l)] from ⟨j1,j5.1.1,j5.1.2,trivial⟩)
     have keep:∀ {ρ₃:Loc}{jk:Hp},Has ρ₃ [("growing",.bool gr'),("self",.ref σ.length),("rules",.ref l)]→(r.2.may (inB bs')=true→r.1∈bs')→Yul rs bs σ l a b c (i+1) ρ₃ (σ₂++jk):=fun {ρ₃ jk} hρ hk=>⟨bs',gr',hρ.1,j2,j3,fun hf=>⟨(j4 hf).1,fun r' hr' hm'=>by
       rw [Ya3 hr] at hr'
       rcases Zm.mp hr' with g | g
       · exact (j4 hf).2 r' g hm'
       · cases Zj.mp g
         rw [← (j4 hf).1] at hm' ⊢; exact hk hm'⟩,j5.up.loc hρ.2⟩
     refine ⟨_,rfl,Ybd TO rfl 60 _ _ _ _<|Yad.of j5.1.4 rfl rfl hC.cls hC.bare<|Cmp.met (neg:=true) (ns:=bs') j5.4<|Br.mk (fun hin=>Yad.of j5.1.4 rfl rfl hC.cls hC.bare<|Cal.mk<|Ysh (d:=d+3) TO 12 r.2 hG.deep hG.few j5.4 fun jk=>?_) fun hin=>?_⟩
     · rw [Ykz]
       refine Br.mk (fun hmay=>?_) fun hmay=>?_
       · have hin:r.1∉bs':=by simpa using hin
         refine Yad.of (Yab j5.1.4) rfl rfl hC.cls hC.bare<|Yat.of (Yab j5.4) (by have:=j2.len; simp only [Ydi,Zc]; (clear hl j3 hbl j4 keep; exact Za (Za (by assumption) (by assumption)) (by decide))) ?_
         rw [Yfn hin]
         refine ⟨bs'++[r.1],true,rfl,j2.add hrm hin hmay,fun zz=>?_,by simp,(j5.up.put ha hb hc).loc ⟨rfl,rfl,trivial⟩⟩
         cases gr'
         · rw [(j4 rfl).1]; simp
         · have:=j3 rfl; simp; (clear hl j3 hbl j4 keep; exact Nat.lt_succ_of_lt this)
       · exact keep ⟨rfl,rfl,rfl,trivial⟩ fun h=>absurd (h.symm.trans hmay) (by decide)
     · have hin:r.1∈bs':=by simpa using hin
       have:=keep (jk:=[]) (ρ₃:=upd (Yox ρ₂ [("growing",.bool gr'),("self",.ref σ.length),("rules",.ref l)]) "pair" (some (Ybn r))) ⟨rfl,rfl,rfl,trivial⟩ fun zz=>hin
       rw [Zlc] at this
       exact this
 show gw _ _ _ _ _ _ _
 have hbare:=k2.bare (k3 rfl)
 have k2l:=k2.len
 clear k3 k2 k1
 obtain ⟨h6,h6a,h6b,h6c⟩:=k4
 generalize σ'=σ₆ at h6 h6a h6b h6c
 refine Yaj.of [("pairs",.ref a),("table",.ref b),("bare",.ref c),("leads",.ref σ₆.length)] (Yab h6.4) hC.cls hC.leads (show 3 < 1000 by decide) rfl ?_
 refine Yqo (h6.field (o:=.sdict []) (fs':=[("pairs",.ref a),("table",.ref b),("bare",.ref c),("leads",.ref σ₆.length)])) fun h7 h7e zz f4=>?_
 have he:=Ygo h6c
 have h7:Yne σ l a b c σ₆.length rs bs 0 _ _:=⟨h7.loc (ρ₂:=Yox ρ' [("growing",.bool false),("self",.ref σ.length),("rules",.ref l)]) ⟨rfl,rfl,trivial⟩,f4 a _ (by (clear h6a h6b h6c h7e f4 hl; exact Zoc ha)) h6a,f4 b _ (by (clear h6a h6b h6c h7e f4 hl; exact Zoc (Nat.lt_trans ha hb))) h6b,f4 c _ (by (clear h6a h6b h6c h7e f4 hl; lia)) h6c,[],h7e,Zkb _,fun r hr=>by simp at hr⟩
 clear h7e h6a h6b h6c f4
 generalize (σ₆++[Yas.sdict []]).set σ.length (.inst "Grammar" [("pairs",.ref a),("table",.ref b),("bare",.ref c),("leads",.ref σ₆.length)])=σ₇ at h7
 generalize σ₆.length=e at h7 he
 clear h6
 refine Yc7.mk (rs.map Ybn) (Yne σ l a b c e rs bs) h7 (fun i ρ' σ' hJ=>?_) (fun ρ' σ' hJ=>?_) fun i x ρ' σ' hJ hx=>?_
 · exact hJ.rec fun j1 zz zz zz zz zz zz zz=>Ybe (j1.rules hl)
 rotate_left
 · clear h7
   refine hJ.rec fun j1 j2 j3 j4 kl j5 j7 j6=>(Ydz hx).elim fun r hh=>?_
   have hr:=hh.1
   apply Ya1 hh.2
   have hG:=hg.all r (Zn hr)
   have hi:i < rs.length:=(Zb.mp hr).1
   apply Has.on j1.has
   refine ⟨_,rfl,Ybd TO rfl 60 _ _ _ _<|Yad.of j1.4 rfl rfl hC.cls hC.bare<|Cal.mk<|Yrv (d:=d+3) TO 12 r.2 hG.deep hG.size hG.few j4 fun j jk hj hjl=>Yad.of (Yab j1.4) rfl rfl hC.cls hC.leads<|Yat.of (Yab j5) (by (clear hj hjl hr j5 j3 j4 j2 hl; lia)) ?_⟩
   rw [Ykz] at hjl
   have hek:∀ (x:Nat) (vs:List V) (o:Yas),(σ'++jk)[x]?=some (.list vs)→((σ'++jk).set e o)[x]?=some (.list vs):=fun x vs o hx=>by
     rw [Ybf (fun h=>?_)]
     · exact hx
     · subst h; rw [Yab j5] at hx; cases hx
   refine ⟨(j1.up.put (by (clear j2 j3 j4 j5 hr hj hjl hek hl; lia))).loc ⟨rfl,rfl,trivial⟩,hek _ _ _ (Yab j2),?_,?_,_,Yhn (Yab j5),?_,?_⟩
   · rw [Ybf (by (clear j2 j3 j4 j5 hr hj hjl hek hl; exact Zoc (Nat.lt_trans hc he)))]; exact Yab j3
   · rw [Ybf (by (clear j2 j3 j4 j5 hr hj hjl hek hl; exact Zoc he))]; exact Yab j4
   · rw [Yi5]; split <;> (clear j2 j3 j4 j5 hr hj hjl hek hl; lia)
   · rw [Ya3 hr]
     exact (j6.up (junk:=jk)).snoc (Ydn hg.nodup hr) (fun x vs hx=>hek x vs _ hx) (by have:=Ygo j1.4; (clear j2 j3 j4 j5 hr hjl hek hl; lia)) (hek _ _ _ hjl)
 clear h7
 refine hJ.rec fun h8 h8a h8b h8c kl h8e zz h8L=>?_
 clear hJ
 rw [Zc,Zgc] at h8L
 apply Has.on h8.has
 generalize σ'=σ₈ at h8 h8a h8b h8c h8e h8L
 refine h8.3.elim fun junk hj=>Yc7.mk (rs.map Ybn) (Ysu σ σ₈ rs bs) ⟨⟨rfl,trivial⟩,[],(Zlc _).symm,fun r hr=>absurd hr Zdc⟩ (fun i ρ' σ' hJ=>hJ.rec fun zz jk e zz=>e▸Ybe (Yab (h8.rules hl))) (fun ρ' σ' hJ=>hJ.rec fun zz jk e9 hnone=>?_) fun i x ρ' σ' hJ hx=>hJ.rec fun hρ jk e2 hnone=>(Ydz hx).elim fun r hh=>?_
 · rw [Zc,Zgc] at hnone
   apply Ya1 e9
   have hG:Yrd rs bs σ.length (σ₈++jk):=Yrd.up ⟨a,b,c,e,kl,ha,hb,hc,he,h8.4,h8a,h8b,h8c,h8e,h8L⟩
   rw [hj,Ze] at hG ⊢
   exact ⟨rfl,q bs _ hbare hnone hG⟩
 · have hr:=hh.1
   apply Ya1 hh.2
   apply Ya1 e2
   have hrm:=Zn hr
   apply Has.on hρ
   refine ⟨_,rfl,Ybd TO rfl 60 _ _ _ _<|Yam.own (Yab h8.4) rfl hC.cls hC.comes_back<|Cal.mk<|Yhg (d:=d+15) TO hg (Yab h8.4) rfl (Yab h8e) h8L.up hrm fun cb jk2 hcb=>?_⟩
   cases cb
   · refine ⟨⟨rfl,trivial⟩,jk++jk2,by rw [Ze],fun r' hr'=>?_⟩
     rw [Ya3 hr] at hr'
     rcases Zm.mp hr' with g | g
     · exact hnone r' g
     · cases Zj.mp g
       exact fun z=>absurd (hcb.mpr z) (by decide)
   · refine Stx.mk<|Yba.raise TO rfl rfl rfl rfl rfl (by kernel_rfl) ?_
     rw [hj,Ze,Ze]
     exact qx bs _ hbare ⟨r,hrm,hcb.mp rfl⟩
end
section
variable {w:World}{s:Shared}{d:Nat}{X:QX}{Q:QE}{σ:Hp}{rs:List (Str×Pt)}{bs:List Str}{g:Nat}
end
section
variable {w:World}{s:Shared}{d:Nat}{X:QX}{Q:QE}{σ:Hp}
theorem Yah {a b:Int}(hb:0 < b):0≤a.fmod b∧a.fmod b < b:=⟨Int.fmod_nonneg_of_pos a hb,Int.fmod_lt_of_pos a hb⟩
set_option tactic.hygienic true in
theorem Ysk {S:Str}{n:Nat}{P:Nat→Nat→Bool}(h:(List.range n).all (fun j=>match S.cps[j]? with | some c=>P j c | none=>false)=true) (hl:S.length=n) {k:Int}(h0:0≤k) (h1:k < n):∃ c,P k.toNat c=true∧(seqIndex? k S.length).bind (S.cps[·]?)=some c:=by
 have hj:=List.all_eq_true.mp h k.toNat (by rw [List.mem_range]; (clear h hl; lia))
 have e:seqIndex? k S.length=some k.toNat:=by
   have hk:¬ k < 0:=by (clear h1 hj h hl; lia)
   unfold seqIndex?
   simp only [hk,if_false]
   rw [if_pos (by simp only [Zob,decide_eq_true_eq]; (clear hj hk h; lia))]
 rw [e]
 split at hj
 · rename_i c hc
   exact ⟨c,hj,hc⟩
 · cases hj
theorem Ycy {k:Int}{Q:QE}{σ:Hp}(h0:0≤k) (h1:k < 26) (q:Q (.str (S [97+k.toNat])) σ):Itm (.str (Str.ofString "abcdefghijklmnopqrstuvwxyz")) (.int k) Q σ:=by
 obtain ⟨c,hc,e⟩:=Ysk (S:=Str.ofString "abcdefghijklmnopqrstuvwxyz") (n:=26) (P:=fun j c=>decide (c=97+j)) (by decide +kernel) (by decide +kernel) h0 h1
 rw [decide_eq_true_iff] at hc
 subst hc
 exact ⟨_,.str _ _ _ e ⟨by (clear q e h1; lia),by (clear q e h0; lia)⟩,q⟩
theorem Yll {S₀:Str}{n:Nat}{k:Int}{Q:QE}{σ:Hp}(h0:0≤k) (h1:k < n) (hn:n < 1000) (q:∀ c,Yak c=true→Q (.str (S [c])) σ) (h:(List.range n).all (fun j=>match S₀.cps[j]? with | some c=>Yak c | none=>false)=true) (hl:S₀.length=n):Itm (.str S₀) (.int k) Q σ:=by
 obtain ⟨c,hc,e⟩:=Ysk (P:=fun zz c=>Yak c) h hl h0 h1
 exact ⟨_,.str _ _ c e ⟨by (clear q h hl e h1 hn; lia),by (clear q h hl e h0; lia)⟩,q c hc⟩
theorem Yd6 {l:Nat}{vs:List V}{j:Nat}{v:V}{k:Int}{Q:QE}{σ:Hp}(hl:σ[l]?=some (.list vs)) (hk:k=j) (hj:vs[j]?=some v) (hb:vs.length < 2 ^ 62) (q:Q v σ):Ydy (.ref l) (.int k) Q σ:=by
 obtain ⟨h1,zz⟩:=Zb.mp hj
 subst hk
 refine ⟨v,.list _ vs _ j v hl ?_ hj ⟨by (clear hb hl hj; exact Int.NonNeg.mk (j+Nat.succ 9223372036854775807)),by (clear hl hj; lia)⟩,q⟩
 unfold seqIndex?
 simp only [show ¬ ((j:Int) < 0) by (clear hb hl hj; lia),if_false]
 rw [if_pos (by simp only [Zob,decide_eq_true_eq]; (clear hb hl hj; lia))]
 simp
theorem Yf6 {n i:Nat}{y:V}(h:((List.range n).map fun (k:Nat)=>V.int k)[i]?=some y):i < n∧y=.int i:=by
 rw [Zdb,Zpb] at h
 obtain ⟨j,hj,rfl⟩:=h
 obtain ⟨h1,h2⟩:=Zb.mp hj
 rw [List.getElem_range] at h2
 subst h2
 exact ⟨by simpa using h1,rfl⟩
theorem Ycv {n:Int}{σ:Hp}(h0:0≤n) (h:n < 2 ^ 62):Ye6 σ (.rng n)=some ((List.range n.toNat).map fun (k:Nat)=>V.int k):=by
 exact if_pos ⟨by (clear h; lia),h⟩
theorem Ytm {xs:List Int}{k:Int}(h0:0≤k) (h:k < xs.length):xs[k.toNat]?=some (xs.getD k.toNat 0):=by
 have:k.toNat < xs.length:=by lia
 simp [List.getD_eq_getElem?_getD,this]
theorem Ys5 {xs:List Int}{k:Int}(h:¬ k < xs.length):xs.getD k.toNat 0=0:=by
 rw [List.getD_eq_getElem?_getD,Zrb (by lia)]; rfl
theorem Ya4 (TO:Yaf (T11 w s)) {xs:List Int}{k:Int}(h0:0≤k) (hk:k < 2 ^ 62) (hx:xs.length < 2 ^ 62) (q:Q (.int (xs.getD k.toNat 0)) σ):Yaa (T11 w s) (d+1) X (.glob "_law_cell_at") [.scr xs,.int k] Q σ:=by
 refine Yaa.go TO rfl rfl ?_
 refine Cal.len rfl hx (Br.mk (fun h=>Itm.mk ⟨_,.scr _ _ _ h0 (Int.lt_trans hk (by decide)) (Ytm h0 (Zgb h)),q⟩) fun h=>?_)
 rw [Ys5 (of_decide_eq_false h)] at q
 exact q
theorem Ycp (TO:Yaf (T11 w s)) {k:Int}(q:∀ c,Yak c=true→Q (.str (S [c])) σ):Yaa (T11 w s) (d+1) X (.glob "_law_sign_by") [.int k] Q σ:=by
 refine Yaa.go TO rfl rfl ?_
 have r:=Yah (a:=k) (b:=96) (by decide)
 exact Bin.cat (by decide +kernel) (Yll (n:=96) r.1 r.2 (by decide) q (by decide +kernel) (by decide +kernel))
end
section
variable {w:World}{s:Shared}{d:Nat}{X:QX}{Q:QE}{σ:Hp}
structure Sg (x y z:Nat):Prop where
 hx:Yak x=true
 hy:Yak y=true
 hz:Yak z=true
 xy:x≤y
 yz:y≤z
theorem Yf0 {l x y z:Nat}{k:Int}{Q:QE}{σ:Hp}(hs:Sg x y z) (hl:σ[l]?=some (.list [.str (S [x]),.str (S [y]),.str (S [z])])) (h0:0≤k) (h1:k < 3) (q:∀ c,Yak c=true→c≤z→Q (.str (S [c])) σ):Itm (.ref l) (.int k) Q σ:=by
 have e:k=0∨k=1∨k=2:=by (clear q hl; lia)
 rcases e with rfl | rfl | rfl
 · exact .list hl rfl rfl ⟨by decide,by decide⟩ (q x hs.hx (Za hs.xy hs.yz))
 · exact .list hl rfl rfl ⟨by decide,by decide⟩ (q y hs.hy hs.yz)
 · exact .list hl rfl rfl ⟨by decide,by decide⟩ (q z hs.hz (Zl _))
theorem Yv2 {P:Str→Prop}{x y z c:Nat}(hs:Sg x y z) (hc:Yak c=true) (hz:c≤z):Yaz P 1 1 (.span c z):=⟨by simp [Pt.ok2,hc,hs.hz,hz],by simp [Pt.deep6],by simp [Pt.size6]⟩
theorem Yxr {P:Str→Prop}:Yaz P 1 1 .any:=⟨by simp [Pt.ok3],by simp [Pt.deep7],by simp [Pt.size7]⟩
theorem Ywv {P:Str→Prop}{c:Nat}(hc:Yak c=true):Yaz P 1 1 (.sign c):=⟨by simp [Pt.ok1,hc],by simp [Pt.deep5],by simp [Pt.size5]⟩
theorem Yu6 {P:Str→Prop}{n:Str}(hc:P n):Yaz P 1 1 (.rule n):=⟨by simp [Pt.ok4,hc],by simp [Pt.deep8],by simp [Pt.size8]⟩
theorem Yki (TO:Yaf (T11 w s)) {sg nm x y z f:Nat}{ns:List Str}{cell:Int}(hs:Sg x y z) (hsg:σ[sg]?=some (.list [.str (S [x]),.str (S [y]),.str (S [z])])) (hnm:σ[nm]?=some (.list (ns.map V.str))) (hn:ns.length≤1000)
   (q:∀ p,Yaz (Yi9 ns f) 1 1 p→Q p.v σ):Yaa (T11 w s) (d+1) X (.glob "_law_leaf") [.int cell,.ref sg,.ref nm,.int f] Q σ:=by
 refine Yaa.go TO rfl rfl ?_
 have r3:=Yah (a:=cell.fdiv 7) (b:=3) (by decide)
 have hl:Ypr σ (.ref nm)=some ns.length:=Yfz hnm (Zc _)
 have sign:Itm (.ref sg) (.int ((cell.fdiv 7).fmod 3)) (fun v σ'=>Q (.tup [.str "sign",v]) σ') σ:=Yf0 hs hsg r3.1 r3.2 fun c hc zz=>q _ (Ywv hc)
 refine Br.mk (fun h2=>Yf0 hs hsg r3.1 r3.2 fun c hc hcz=>Itm.list hsg rfl rfl ⟨by decide,by decide⟩ (q _ (Yv2 hs hc hcz))) fun h2=>Br.mk (fun h3=>q _ Yxr) fun h3=>Br.mk (fun h4=>Cal.len hl (by clear sign q hsg hnm hl r3; lia) (Br.mk (fun h5=>?_) fun zz=>sign)) fun zz=>sign
 clear sign
 have h5:=Zgb h5
 have rn:=Yah (a:=cell.fdiv 7) (b:=(ns.length:Int) - f) (by clear hl h4 h3 r3 h2 hsg hnm hn q; lia)
 refine Cal.len hl (by clear q hsg hnm hl r3; lia) (gd.of (by simp; clear hl rn h4 r3 h2 h3 hsg hnm hn q; lia) ?_)
 obtain ⟨i,hi⟩:=Int.eq_ofNat_of_zero_le rn.1
 have hlt:f+i < ns.length:=by rw [hi] at rn; clear hl h5 h2 h3 h4 hsg hnm hn q r3; lia
 exact Itm.mk (Yd6 hnm (j:=f+i) (v:=.str ns[f+i]) (by rw [hi]; rfl) (by simp [hlt]) (by simp; clear hl h2 h3 h4 h5 rn hi hlt q r3 hnm hsg; lia) (q (.rule ns[f+i]) (Yu6 ⟨f+i,Zy _ _,by simp [hlt]⟩)))
theorem Yoh {P:Nat→Prop}{n:Nat}(h0:P 0) (h:∀ i,i < n→P (i+1)):∀ i,i < n+1→P i:=fun i=>i.rec (fun zz=>h0) fun i zz g=>h i (Nat.lt_of_succ_lt_succ g)
theorem Yx3 {P:Hp→Prop}(q:∀ j,P (σ++j)):P σ:=Zlc σ▸q []
theorem Yoj (TO:Yaf (T11 w s)) {deed:Int}{p a b:Pt}(h0:0≤deed) (h1:deed < 14) (q:∀ junk,Q (Yh1 p a b deed.toNat).v (σ++junk)):Yaa (T11 w s) (d+1) X (.glob "_law_joined") [.int deed,p.v,a.v,b.v] Q σ:=by
 refine Yaa.go TO rfl rfl ?_
 obtain ⟨n,rfl⟩:=Int.eq_ofNat_of_zero_le h0
 have h2:n < 14:=Zfb.mp h1
 have q2:∀ junk,Q (Yh1 p a b n).v (σ++junk):=q
 clear h0 h1 q
 revert q2
 revert n
 iterate 6 (refine Yoh ?_ ?_; exact fun q=>Itm.list Yae rfl rfl ⟨by decide,by decide⟩ (q _))
 iterate 8 (refine Yoh ?_ ?_; exact fun q=>Yx3 (P:=fun s=>Q _ s) q)
 exact fun i h=>absurd h (Nat.not_lt_zero i)
end
section
variable {w:World}{s:Shared}{d:Nat}{X:QX}{Q:QE}{σ:Hp}
inductive Yy0 (ns:List Str) (f sg nm:Nat) (σ:Hp) (i:Nat) (ρ':Loc) (σ':Hp):Prop where
 | mk (p:Pt) (junk:Hp) (num:Int) (q0:Yir (Yi9 ns f) i p) (q1:Has ρ' [("_law_part",p.v),("_law_number",.int num),("_law_signs",.ref sg),("_law_names",.ref nm),("_law_first_here",.int f)]) (q6:σ'=σ++junk):Yy0 ns f sg nm σ i ρ' σ'
theorem Ykn (TO:Yaf (T11 w s)) {sg nm x y z f:Nat}{ns:List Str}{cell:Int}(hs:Sg x y z) (hsg:σ[sg]?=some (.list [.str (S [x]),.str (S [y]),.str (S [z])])) (hnm:σ[nm]?=some (.list (ns.map V.str))) (hn:ns.length≤1000)
   (q:∀ p junk,Yir (Yi9 ns f) 3 p→Q p.v (σ++junk)):Yaa (T11 w s) (d+2) X (.glob "_law_piled") [.int cell,.ref sg,.ref nm,.int f] Q σ:=by
 refine Yaa.go TO rfl rfl ?_
 refine Bin.mulr rfl<|Cal.mk<|Yki TO hs hsg hnm hn fun p hp=>Cal.range ⟨_,Yy0 ns f sg nm σ,⟨p,[],_,.leaf hp,⟨rfl,rfl,rfl,rfl,rfl,trivial⟩,(Zlc σ).symm⟩,fun i ρ' σ' zz=>Ycv (by decide) (by decide),fun ρ' σ' hJ=>?_,fun i y ρ' σ' hJ hy=>?_⟩
 · obtain ⟨p,junk,num,k1,k2,rfl⟩:=hJ
   obtain ⟨r,rfl⟩:=k2.use
   exact q p junk k1
 · obtain ⟨p,junk,num,k1,k2,rfl⟩:=hJ
   obtain ⟨hi,rfl⟩:=Yf6 hy
   obtain ⟨r,rfl⟩:=k2.use
   refine ⟨_,rfl,Ybd TO rfl 60 _ _ _ _ ?_⟩
   exact Bin.mulr rfl<|Cal.mk<|Yki TO hs (Yab hsg) (Yab hnm) hn fun a ha=>Cal.mk<|Yki TO hs (Yab hsg) (Yab hnm) hn fun b hb=>Cal.mk<|Yoj TO (Yah (by decide)).1 (Yah (by decide)).2 fun jk =>
     ⟨_,junk++jk,_,.join k1 ha hb _,⟨rfl,rfl,rfl,rfl,rfl,trivial⟩,Ze ..⟩
theorem Yrc (k n:Nat):(k:Int)+1+(if (n:Int).fdiv 6 < 1 then (n:Int).fdiv 6 else 1)*(n:Int).fdiv 4=(k+stp n:Nat):=by
 have e6:(n:Int).fdiv 6=((n / 6:Nat):Int):=Yqh n 6
 have e4:(n:Int).fdiv 4=((n / 4:Nat):Int):=Yqh n 4
 rw [e6,e4]
 unfold stp
 by_cases h:n / 6 < 1
 · rw [if_pos h,if_pos (show ((n / 6:Nat):Int) < 1 from Zfb.mpr h)]; exact congrArg Int.ofNat (Nat.add_assoc k 1 _)
 · rw [if_neg h,if_neg fun g:((n / 6:Nat):Int) < 1=>h (Zfb.mp g)]; exact congrArg Int.ofNat (Nat.add_assoc k 1 _)
theorem Ykc (n:Nat) (hn:n≤40):Ykf (if (n:Int).fdiv 6 < 1 then (n:Int).fdiv 6 else 1):=by
 have e6:(n:Int).fdiv 6=((n / 6:Nat):Int):=Yqh n 6
 rw [e6]
 by_cases h:((n / 6:Nat):Int) < 1
 · rw [if_pos h]; exact ⟨Int.lt_of_lt_of_le (by decide) (Zvc _),Int.lt_trans h (by decide)⟩
 · rw [if_neg h]; exact ⟨by decide,by decide⟩
noncomputable def Yqq (x y z:Nat) (c k:Nat):Pt:=[.sign c,.span x z].getD k .any
theorem Yqa {x y z c:Nat}(hs:Sg x y z) (hc:Yak c=true):∀ k,(Yqq x y z c k).sure:=Yqs.get (.cons (.sign hc)<|.cons (.span hs.hx hs.hz (Za hs.xy hs.yz)) .nil) .any
theorem Yc5 {a:Int}{n:Nat}(h:0≤a∧a < n):∃ k:Nat,a=k∧k < n:=by
 obtain ⟨k,rfl⟩:=Int.eq_ofNat_of_zero_le h.1
 exact ⟨k,rfl,Zfb.mp h.2⟩
theorem lt3 {P:Nat→Prop}(h0:P 0) (h1:P 1) (h2:P 2) (i:Nat) (h:i < 3):P i:=by
 rcases i with zz | zz | zz | i
 · exact h0
 · exact h1
 · exact h2
 · exact absurd h (Zo.mpr (Ztb 3 i))
theorem lt4 {P:Nat→Prop}(h0:P 0) (h1:P 1) (h2:P 2) (h3:P 3) (i:Nat) (h:i < 4):P i:=by
 rcases i with zz | i
 · exact h0
 · exact lt3 (P:=fun i=>P (i+1)) h1 h2 h3 i (Nat.lt_of_succ_lt_succ h)
theorem Ymp (TO:Yaf (T11 w s)) {sg nm x y z k:Nat}{ns:List Str}{cell:Int}(hs:Sg x y z) (hsg:σ[sg]?=some (.list [.str (S [x]),.str (S [y]),.str (S [z])])) (hnm:σ[nm]?=some (.list (ns.map V.str))) (hn:ns.length≤40)
   (q:∀ p junk,Drawn ns k p→Q p.v (σ++junk)):Yaa (T11 w s) (d+3) X (.glob "_law_part_by") [.int cell,.int k,.ref sg,.ref nm] Q σ:=by
 refine Yaa.go TO rfl rfl ?_
 have r3:=Yah (a:=cell) (b:=3) (by decide)
 obtain ⟨i3,e3,h3⟩:=Yc5 (n:=3) (Yah (a:=cell.fdiv 3) (b:=3) (by decide))
 obtain ⟨i4,e4,h4⟩:=Yc5 (n:=4) (Yah (a:=(cell*16807).fmod 10007) (b:=4) (by decide))
 refine Yf0 hs hsg r3.1 r3.2 fun c hc zz=>Itm.list hsg rfl rfl ⟨by decide,by decide⟩<|Itm.list hsg rfl rfl ⟨by decide,by decide⟩ ?_
 refine Itm.mk (Yd6 (j:=i3) (v:=(Yqq x y z c i3).v) Yae e3 ?_ (by simp) ?_)
 · exact lt3 (P:=fun i=>[(Pt.sign c).v,(Pt.span x z).v,Pt.any.v][i]?=some (Yqq x y z c i).v) rfl rfl rfl i3 h3
 have hu:=Yqa (x:=x) (y:=y) (z:=z) hs hc i3
 generalize Yqq x y z c i3=u at hu ⊢
 refine Cal.mk<|Ykn (f:=0) TO hs (Yab hsg) (Yab hnm) (by clear q hsg hnm; lia) fun hd j2 hhd=>?_
 have hl:∀ {jk:Hp},Ypr (σ++jk) (.ref nm)=some ns.length:=fun {jk}=>Yfz (Yab hnm) (Zc _)
 rw [Ze]
 refine Cal.len hl (by clear q hsg hnm hl; lia)<|Cal.mk<|Yaa.min2<|Cal.len hl (by clear q hsg hnm hl; lia)<|Bin.mk ⟨_,_,.mul _ _ (.inl (Ykc _ hn)),?_⟩
 refine Yrw.add (Yrc k ns.length)<|Bin.mulr rfl<|Cal.mk<|Ykn (f:=k+stp ns.length) TO hs (Yab hsg) (Yab hnm) (by clear q hsg hnm hl; lia) fun tl j3 htl=>Bin.mulr rfl ?_
 refine Itm.mk (Yd6 (v:=(Ykl u hd tl i4).v) (j:=i4) Yae e4 ?_ (by simp) ?_)
 · exact lt4 (P:=fun i=>[(Pt.alt [.row [u,hd],tl]).v,(Pt.alt [tl,.row [u,hd]]).v,(Pt.row [u,hd]).v,tl.v][i]?=some (Ykl u hd tl i).v) rfl rfl rfl rfl i4 h4
 simp only [Ze]
 exact Bin.mulr rfl<|Br.mk (fun zz=>q _ _ (.wr hu hhd htl i4)) fun zz=>q _ _ (.mk hu hhd htl i4)
theorem Yfo (TO:Yaf (T11 w s)) {cell:Int}(q:∀ x y z o,Sg x y z→Q (.ref (σ.length+1)) (σ++[o,.list [.str (S [x]),.str (S [y]),.str (S [z])]])):Yaa (T11 w s) (d+2) X (.glob "_law_signs_by") [.int cell] Q σ:=by
 refine Yaa.go TO rfl rfl ?_
 refine Cal.mk<|Ycp TO fun a ha=>Bin.mulr rfl<|Cal.mk<|Ycp TO fun b hb=>Bin.mulr rfl<|Cal.mk<|Ycp TO fun c hc=>Cal.mk<|Yaa.sorted (bs:=[S [a],S [b],S [c]]) Yae (by decide:3 < 64) fun bs' hp hst=>?_
 obtain ⟨x,y,z,rfl,hx,hy,hz,hxy,hyz⟩:=Yjt ha hb hc hp hst
 have:=q x y z (.list [.str (S [a]),.str (S [b]),.str (S [c])]) ⟨hx,hy,hz,hxy,hyz⟩
 rw [Zf,Ze]
 exact this
end
section
variable {w:World}{s:Shared}{d:Nat}{X:QX}{Q:QE}{σ:Hp}
theorem Ylz (TO:Yaf (T11 w s)) {cell:Int}(q:∀ n:Nat,1≤n→n≤3→Q (.int n) σ):Yaa (T11 w s) (d+1) X (.glob "_law_many_by") [.int cell] Q σ:=by
 refine Yaa.go TO rfl rfl ?_
 have r:=Yah (a:=cell) (b:=3) (by decide)
 obtain ⟨n,e⟩:=Int.eq_ofNat_of_zero_le (a:=1+cell.fmod 3) (by lia)
 refine Yrw.add e (q n (by lia) (by lia))
end
section
variable {w:World}{s:Shared}{d:Nat}{X:QX}{Q:QE}{σ:Hp}
theorem Ydk.no {T:Tp}{sc:Scope}{ρ:Loc}{Q':Option Int→Hp→Prop}(q:Q' Option.none σ):Ydk T d sc ρ X Option.none Q' σ:=q
theorem Ydk.yes {T:Tp}{sc:Scope}{ρ:Loc}{e:Expr}{Q':Option Int→Hp→Prop}(h:Yal T d sc ρ X e (fun v σ'=>∃ i,v=.int i∧Q' (some i) σ') σ):Ydk T d sc ρ X (some e) Q' σ:=h
theorem Yq5 (l:List Nat):(l.map fun c=>V.str (S [c]))=(l.map fun c=>S [c]).map V.str:=List.map_map.symm
theorem Ytz (l:List Nat):((l.map fun c=>S [c]).map (·.length)).sum=l.length:=by
 induction l with
 | nil=>rfl
 | cons a r ih=>simp only [List.map_cons,List.sum_cons,ih,Ya6,List.length_cons,List.length_nil]; (clear ih; lia)
theorem Ypk {c:Int}{n i:Nat}(h:i < n):(Ya5 c n)[i]?=some (Yc4 (c+5*(i:Int))):=by
 simp [Ya5,h]
theorem Ytr:(Str.ofString "" : Str)=S []:=by decide +kernel
theorem Ywr:(Str.ofString "z" : Str)=S [122]:=by decide +kernel
theorem Yi6 {a b:List Nat}{Q:QE}{σ:Hp}(ha:a.length≤500) (hb:b.length≤500) (q:Q (.str (S (a++b))) σ):Bin .Add (.str (S a)) (.str (S b)) Q σ:=.cat (by rw [Ya6,Ya6]; exact szo (Za (Zcb ha hb) (by decide))) ((Yp7 a b).symm▸q)
theorem Yi4 {T:Tp}{c:Int}{n l:Nat}{Q:QE}{σ:Hp}(hl:σ[l]?=some (.list ((Ya5 c n).map fun c=>V.str (S [c])))) (hn:n≤20) (q:Q (.str (S (Ya5 c n))) σ):Cal T d X (.bi "str.join") [.str (Str.ofString ""),.ref l] Q σ :=
 ⟨Yaa.join (Yq5 (Ya5 c n)▸hl) (by rw [Ytz,Zc,Ya7]; clear q hl; lia) (by decide +kernel) (by rw [Ytr,Ywz]; exact q)⟩
theorem Yj0 {m:Int}{n:Nat}(e:m=n) (h:n < 26) (q:Q (.str (S [97+n])) σ):Itm (.str (Str.ofString "abcdefghijklmnopqrstuvwxyz")) (.int m) Q σ:=e▸Ycy (Zvc n) (Zfb.mpr h) q
theorem Yxu {style cell:Int}{k n:Nat}(h0:style.fmod 4=0) (hn:cell.fmod 11=n):Ya2 style cell k=Ya8 k++Ya5 cell n:=by unfold Ya2; rw [if_pos h0,hn]; rfl
theorem Yyo {style cell:Int}{k n i:Nat}(h0:¬ style.fmod 4=0) (h1:style.fmod 4=1) (hn:(style.fdiv 4).fmod 11=n) (hi:((style*7).fmod 1009).fmod (n+1)=i):Ya2 style cell k=(Ya5 style n).take i++Ya8 k++(Ya5 style n).drop i:=by
 unfold Ya2; rw [if_neg h0,if_pos h1,hn]
 have e:((style*7).fmod 1009).fmod ((Ya5 style n).length+1)=i:=(Ya7 style n).symm▸hi
 show List.take (((style*7).fmod 1009).fmod ((Ya5 style n).length+1)).toNat (Ya5 style n)++_++List.drop (((style*7).fmod 1009).fmod ((Ya5 style n).length+1)).toNat (Ya5 style n)=_
 rw [e]; rfl
theorem Yvn {style cell:Int}{k:Nat}(h0:¬ style.fmod 4=0) (h1:¬ style.fmod 4=1) (h2:style.fmod 4=2):Ya2 style cell k=if k < 12 then List.replicate (k+1) (Yc4 (style.fdiv 4)) else Ya8 k++[122]:=by unfold Ya2; rw [if_neg h0,if_neg h1,if_pos h2]
theorem Yvh {style cell:Int}{k:Nat}(h0:¬ style.fmod 4=0) (h1:¬ style.fmod 4=1) (h2:¬ style.fmod 4=2):Ya2 style cell k=if k < 26 then [97+k] else Ya8 k:=by unfold Ya2; rw [if_neg h0,if_neg h1,if_neg h2]
theorem Ypm {c k:Nat}(h3:k < 12):MulOk (S [c]) ((k:Int)+1):=by
 refine ⟨by simp; lia,fun zz zz=>?_,fun zz zz=>?_⟩
 · rw [Ya6]
   simp only [List.length_cons,List.length_nil]
   have:(1:Int)≤(2 ^ 63 - 1) / ((k:Int)+1):=by rw [Int.le_ediv_iff_mul_le (by lia)]; lia
   lia
 · rw [Ya6]
   show decide (_ > sizeLine)=false
   exact Zrc (Zo.mpr (szo (Za (show 1*(k+1)≤12 from (Nat.one_mul (k+1)).symm▸h3) (by decide:12≤16777216))))
theorem is3 {a:Int}(r:0≤a∧a < 4) (h0:¬ a=0) (h1:¬ a=1) (h2:¬ a=2):(a == 3)=true:=by rw [beq_iff_eq]; lia
theorem Yya {a b:Nat}(h:decide ((a:Int) < b)=true):a < b:=Zfb.mp (Zgb h)
theorem Ywg {a b:Nat}(h:decide ((a:Int) < b)=false):¬ a < b:=fun g=>of_decide_eq_false h (Zfb.mpr g)
theorem Yii {T:Tp}{sc scope:Scope}{ρ:Loc}{x:Str}{elt:Expr}{m c:Int}{n:Nat}(hm:m=n) (hn:n≤20) (q:Q (.ref σ.length) (σ++[.list ((Ya5 c n).map fun c=>V.str (S [c]))]))
   (h:∀ i:Nat,Yal T d (Yhz scope sc) (upd (Ybo scope ρ) x (some (.int i))) X elt (fun v σ'=>v=.str (S [97+((c+5*(i:Int)).fmod 26).toNat])∧σ'=σ) σ):Yc6 T d sc ρ X scope x [] elt Q (.rng m) σ:=by
 subst hm
 refine ⟨_,fun i acc σ'=>acc=((Ya5 c n).take i).map (fun c=>V.str (S [c]))∧σ'=σ,⟨by simp,rfl⟩,fun i acc σ' hJ=>⟨Ycv (by clear hn hJ q h; lia) (by clear hJ q h; lia),?_⟩,fun acc σ' hJ=>?_,fun i y acc σ' hJ hy=>?_⟩
 · rw [hJ.1]
   simp only [Zc,List.length_take,Ya7]; exact szo (by clear hJ q h; lia)
 · obtain ⟨rfl,rfl⟩:=hJ
   rw [Zc,List.length_range,Zzc,List.take_of_length_le (by rw [Ya7]; exact Zl _)]
   exact q
 · obtain ⟨rfl,rfl⟩:=hJ
   obtain ⟨hi,rfl⟩:=Yf6 hy
   refine (h i).mono (fun v σ' hv=>?_) fun zz zz h=>h
   obtain ⟨rfl,rfl⟩:=hv
   refine ⟨?_,rfl⟩
   rw [Ya3 (Ypk (by simpa using hi)),Zfc]; rfl
theorem Yl9 (TO:Yaf (T11 w s)) {style cell:Int}{k:Nat}(hk:k < 40) (q:∀ junk,Q (.str (S (Ya2 style cell k))) (σ++junk)):Yaa (T11 w s) (d+1) X (.glob "_law_name_by") [.int style,.int cell,.int k] Q σ:=by
 refine Yaa.go TO rfl rfl ?_
 have q:∀ {l:List Nat}(junk:Hp),Ya2 style cell k=l→Q (.str (S l)) (σ++junk):=fun j e=>e▸q j
 have q0:∀ {l:List Nat},Ya2 style cell k=l→Q (.str (S l)) σ:=fun e=>Zlc σ▸q [] e
 have le2:(Ya8 k).length≤500:=(by decide:2≤500)
 refine Yj0 (Ywb k 26) (Nat.mod_lt k (by decide))<|Yj0 (Yqh k 26) (Zk (Nat.div_le_div_right (Zq hk)) (by decide:40 / 26 < 26))<|Yi6 (by decide:1≤500) (by decide:1≤500) ?_
 refine Br.mk (fun h0=>?_) fun h0=>Br.mk (fun h1=>?_) fun h1=>?_
 · refine (Yc5 (n:=11) (Yah (a:=cell) (b:=11) (by decide))).elim fun n hn=>?_
   have hn2:=hn.2
   have hn:=hn.1
   have l20:n≤20:=Za (Zq hn2) (by decide)
   refine Yam.join<|Cal.range<|Yii (c:=cell) hn l20 (Yi4 (c:=cell) (n:=n) Yae l20 (Yi6 le2 ((Ya7 cell n).symm▸Za l20 (by decide)) (q _ (Yxu (eq_of_beq h0) hn)))) fun i=>Ye0 TO rfl 40 _ _ _ ?_
   have r:=Yah (a:=cell+5*(i:Int)) (b:=26) (by decide)
   exact Bin.mull rfl<|Ycy r.1 r.2 ⟨rfl,rfl⟩
 · refine (Yc5 (n:=11) (Yah (a:=style.fdiv 4) (b:=11) (by decide))).elim fun n hn=>?_
   have hn2:=hn.2
   have hn:=hn.1
   have l20:n≤20:=Za (Zq hn2) (by decide)
   refine Yam.join<|Cal.range<|Yii (c:=style) hn l20 (Yi4 (c:=style) (n:=n) Yae l20 ?_) fun i=>Ye0 TO rfl 40 _ _ _ ?_
   · refine (Yc5 (n:=n+1) (Yah (a:=(style*7).fmod 1009) (b:=(n:Int)+1) (Int.lt_add_one_of_le (Zvc n)))).elim fun i hi=>?_
     have hie:=hi.1
     have hi:=hi.2
     have q1:=q [.list ((Ya5 style n).map fun c=>V.str (S [c]))] (Yyo (ne_of_beq_false h0) (eq_of_beq h1) hn hie)
     have hal:(Ya5 style n).length≤400:=(Ya7 style n).symm▸Za l20 (by decide)
     have hil:i≤(Ya5 style n).length:=(Ya7 style n).symm▸Zjc hi
     rw [← Ya7 style n] at hie
     generalize Ya5 style n=al at q1 hal hil hie ⊢
     have hsz:(S al).length≤sizeLine:=(Ya6 al).symm▸szo (Za hal (by decide))
     have ht:(al.take i).length≤400:=Za (Zic ..) hal
     refine Bin.mulr rfl<|Cal.len (n:=al.length) (Yep (Ya6 al)) (Zk hal (by decide)) ?_
     refine Evx.mk (Yal.sliceStr (fun zz zz=>rfl) (Yal.nm rfl rfl rfl (Ydk.no (Ydk.yes (Yal.nm rfl rfl rfl ⟨_,rfl,_,rfl,hsz,?_⟩)))))
     rw [hie,Ymh hil]
     refine Yi6 (Za ht (by decide)) le2 (Evx.mk (Yal.sliceStr (fun zz zz=>rfl) (Yal.nm rfl rfl rfl (Ydk.yes (Yal.nm rfl rfl rfl ⟨_,rfl,Ydk.no ⟨_,rfl,hsz,?_⟩⟩)))))
     rw [Yja hil]
     exact Yi6 (Zf▸Za (Zac ht 2) (by decide)) (List.length_drop▸Za (Nat.sub_le ..) (Za hal (by decide))) q1
   · have r:=Yah (a:=style+5*(i:Int)) (b:=26) (by decide)
     exact Bin.mull rfl<|Ycy r.1 r.2 ⟨rfl,rfl⟩
 · have h0:¬ style.fmod 4=0:=ne_of_beq_false h0
   have h1:¬ style.fmod 4=1:=ne_of_beq_false h1
   refine Br.mk (fun h2=>Br.mk (fun h3=>?_) fun h3=>?_) fun h2=>?_
   · have hs26:=Yah (a:=style.fdiv 4) (b:=26) (by decide)
     have h3:k < 12:=Yya h3
     exact Ycy hs26.1 hs26.2 (Bin.mk ⟨_,_,.rep _ _ (Ypm h3),Yxs _ _▸q0 ((Yvn h0 h1 (eq_of_beq h2)).trans (if_pos h3))⟩)
   · exact Br.t h2<|Bin.cat (s:=S (Ya8 k)) (t:=Str.ofString "z") (by rw [Ywr,Ya6,Ya6]; exact szo (by decide:3≤16777216)) (by rw [Ywr,Yp7]; exact q0 ((Yvn h0 h1 (eq_of_beq h2)).trans (if_neg (Ywg h3))))
   · have h2':¬ style.fmod 4=2:=ne_of_beq_false h2
     refine Br.f h2 (Br.t (is3 (Yah (by decide)) h0 h1 h2') (Br.mk (fun h4=>?_) fun h4=>?_))
     · exact Yj0 rfl (Yya h4) (q0 ((Yvh h0 h1 h2').trans (if_pos (Yya h4))))
     · exact q0 ((Yvh h0 h1 h2').trans (if_neg (Ywg h4)))
end
section
variable {w:World}{s:Shared}{d:Nat}{X:QX}{Q:QE}{σ:Hp}
structure Yge (ns:List Str) (rs:List (Str×Pt)):Prop where
 at_:∀ (j:Nat) (r:Str×Pt),rs[j]?=some r→ns[j]?=some r.1∧Drawn ns j r.2
theorem Ylr {α:Type}{rs:List α}{x r:α}{j:Nat}(h:(rs++[x])[j]?=some r):rs[j]?=some r∨(j=rs.length∧x=r):=by
 rcases Nat.lt_trichotomy j rs.length with g | g | g
 · rw [Zbb g] at h; exact .inl h
 · rw [g,List.getElem?_concat_length] at h; exact .inr ⟨g,Yai h⟩
 · rw [Ztc (Zq g),Zrb (Nat.sub_pos_of_lt g)] at h; exact (Yap h).elim
theorem Yge.snoc {ns:List Str}{rs:List (Str×Pt)}{n:Str}{p:Pt}(h:Yge ns rs) (hn:ns[rs.length]?=some n) (hp:Drawn ns rs.length p):Yge ns (rs++[(n,p)]) :=
 ⟨fun j r hj=>(Ylr hj).elim (h.at_ j r) fun e=>e.1▸e.2▸⟨hn,hp⟩⟩
theorem Yge.wts {ns:List Str}{rs:List (Str×Pt)}(h:Yge ns rs) (r:Str×Pt) (hr:r∈rs):r.2.wt≤20000:=Zh (List.mem_iff_getElem?.mp hr) fun j hj=>(h.at_ j r hj).2.piece.2.1
theorem Yge.names {ns:List Str}{rs:List (Str×Pt)}(h:Yge ns rs) (hl:rs.length=ns.length):rs.map (·.1)=ns:=by
 apply List.ext_getElem?
 intro j
 rw [Zdb]
 cases hj:rs[j]? with
 | none=>rw [Zrb (hl▸List.getElem?_eq_none_iff.mp hj)]; rfl
 | some r=>rw [(h.at_ j r hj).1]; rfl
theorem Yge.good {ns:List Str}{rs:List (Str×Pt)}(h:Yge ns rs) (hl:rs.length=ns.length) (h1:1≤ns.length) (h40:ns.length≤40) (hnd:ns.Nodup) (hnm:∀ n∈ns,Yen n=true):Yan rs∧Yey rs:=by
 have e:=h.names hl
 refine ⟨⟨hl▸h1,hl▸h40,e▸hnd,fun r hr=>(List.mem_iff_getElem?.mp hr).elim fun j hj=>?_⟩,fun i r hi B y hy=>((h.at_ i r hi).2.piece.2.2 B y hy).elim fun j g=>?_⟩
 · have a:=(h.at_ j r hj).2.piece.1
   exact ⟨hnm _ (Zn (h.at_ j r hj).1),Pt.ok_good _ a.1,a.2.1,Pt.ok_few _ _ (Zl _) a.1,Zk a.2.2 (by decide),fun n hn=>(Pt.ok_asks hn a.1).elim fun i g=>e▸Zn g.2⟩
 · have hjl:j < rs.length:=hl▸(Zb.mp g.2).1
   exact ⟨j,rs[j],g.1,Zp hjl,(Zab (g.2.symm.trans (h.at_ j rs[j] (Zp hjl)).1)).symm⟩
theorem Yrk {style:Int}{f:Nat→Int}{n:Nat}(h40:n≤40):((List.range n).map fun k=>S (Ya2 style (f k) k)).Nodup∧∀ m∈(List.range n).map (fun k=>S (Ya2 style (f k) k)),Yen m=true:=by
 refine ⟨?_,fun m hm=>?_⟩
 · rw [List.nodup_iff_pairwise_ne,List.pairwise_map]
   refine List.Pairwise.imp_of_mem ?_ (List.nodup_range (n:=n))
   intro a b ha hb hab e
   rw [List.mem_range] at ha hb
   exact hab (Yl5 (Zz ha h40) (Zz hb h40) (Yxw e))
 · obtain ⟨k,hk,rfl⟩:=Zsb.mp hm
   exact Yqj (Zz (List.mem_range.mp hk) h40)
theorem ix3 {n i:Nat}(hn:n≤40) (hi:i < n):0≤(3:Int)+i∧(3:Int)+i < 2 ^ 62:=⟨Zvc (3+i),Zfb.mpr (Zk (Zzb (Za (Zq hi) hn) 3) (by decide))⟩
inductive Yws (ns:List Str) (σ:Hp) (i:Nat) (acc:List V) (σ':Hp):Prop where
 | mk (junk:Hp) (q0:acc=(ns.take i).map V.str) (q1:σ'=σ++junk):Yws ns σ i acc σ'
inductive Yvx (n:Nat) (σ:Hp) (i:Nat) (acc:List V) (σ':Hp):Prop where
 | mk (cs:List Int) (q0:cs.length=i) (q1:acc=cs.map V.int) (q2:i≤n) (q3:σ'=σ):Yvx n σ i acc σ'
inductive Yyw (ns:List Str) (n:Nat) (σ:Hp) (i:Nat) (acc:List V) (σ':Hp):Prop where
 | mk (rs:List (Str×Pt)) (junk:Hp) (q0:i≤n) (q1:Yge ns rs) (q2:rs.length=i) (q3:acc=rs.map Ybn) (q4:σ'=σ++junk):Yyw ns n σ i acc σ'
theorem Yj3 (TO:Yaf (T11 w s)) {xs:List Int}(hx:xs.length < 2 ^ 62) (q:∀ rs l junk,Yan rs→Yey rs→(∀ r∈rs,r.2.wt≤20000)→(∀ j r,rs[j]?=some r→Drawn (rs.map (·.1)) j r.2)→rs.length≤3→σ.length≤l→(σ++junk)[l]?=some (.list (rs.map Ybn))→Q (.ref l) (σ++junk)):Yaa (T11 w s) (d+4) X (.glob "_law_rules_by") [.scr xs] Q σ:=by
 refine Yaa.go TO rfl rfl ?_
 refine Cal.mk<|Ya4 TO (by decide) (by decide) hx<|Cal.mk<|Ylz TO fun n h1 hM=>Cal.mk<|Ya4 TO (by decide) (by decide) hx<|Cal.mk<|Yfo TO fun x y z o hs=>Cal.mk<|Ya4 TO (by decide) (by decide) hx<|Cal.mk<|Ya4 TO (by decide) (by decide) hx ?_
 generalize hst:xs.getD (0:Int).toNat 0+xs.getD (2:Int).toNat 0=style
 refine Yrw.add hst ?_
 clear hst
 have h40:n≤40:=Za hM (by decide)
 have hok:=Yrk (style:=style) (f:=fun k=>xs.getD (3+k) 0) h40
 have hnl:((List.range n).map fun k=>S (Ya2 style (xs.getD (3+k) 0) k)).length=n:=(Zc _).trans List.length_range
 have hnat:∀ i,i < n→((List.range n).map fun k=>S (Ya2 style (xs.getD (3+k) 0) k))[i]?=some (S (Ya2 style (xs.getD (3+i) 0) i)):=fun i hi=>by rw [Zdb,List.getElem?_range hi]; rfl
 generalize ((List.range n).map fun k=>S (Ya2 style (xs.getD (3+k) 0) k))=ns at hok hnl hnat
 have hrng:∀ {σ:Hp},Ye6 σ (.rng (n:Int))=some ((List.range (n:Int).toNat).map fun (k:Nat)=>V.int k):=Ycv (Zvc n) (Zfb.mpr (Zk h40 (by decide)))
 have hrl:((List.range (n:Int).toNat).map fun (k:Nat)=>V.int k).length=n:=(Zc _).trans List.length_range
 have hri:∀ {i:Nat}{y:V},((List.range (n:Int).toNat).map fun (k:Nat)=>V.int k)[i]?=some y→i < n∧y=.int i:=fun h=>Yf6 (n:=n) h
 have sz40:∀ {i:Nat},i≤40→i≤sizeLine:=fun h=>szo (Za h (by decide))
 have hsg:(σ++[o,.list [.str (S [x]),.str (S [y]),.str (S [z])]])[σ.length+1]?=some (.list [.str (S [x]),.str (S [y]),.str (S [z])]):=Yh3
 have q:∀ rs l σ' (j:Hp),σ'=σ++[o,.list [.str (S [x]),.str (S [y]),.str (S [z])]]++j→Yan rs→Yey rs→(∀ r∈rs,r.2.wt≤20000)→(∀ j r,rs[j]?=some r→Drawn (rs.map (·.1)) j r.2)→rs.length≤3→(σ++[o,.list [.str (S [x]),.str (S [y]),.str (S [z])]]).length≤l→σ'[l]?=some (.list (rs.map Ybn))→Q (.ref l) σ':=fun rs l σ' j e g1 g2 g3 g3' g4 g5 g6=>by
   rw [e,Ze] at g6 ⊢
   exact q rs l _ g1 g2 g3 g3' g4 (Za (Zf▸Zy ..) g5) g6
 generalize (σ++[o,Yas.list [.str (S [x]),.str (S [y]),.str (S [z])]])=σ1 at hsg q ⊢
 generalize σ.length+1=sg at hsg ⊢
 refine Cal.range ⟨_,Yws ns σ1,⟨[],rfl,(Zlc σ1).symm⟩,fun i acc σ' hJ=>⟨hrng,hJ.rec fun zz q0 zz=>by rw [q0,Zc]; exact sz40 (Za (Zic ..) (hnl▸h40))⟩,fun acc σ' hJ=>?_,fun i v acc σ' hJ hy=>?_⟩
 rotate_left
 · refine hJ.rec fun junk q0 q1=>?_
   have hi:=(hri hy).1
   apply Ya1 q0
   apply Ya1 q1
   apply Ya1 (hri hy).2
   refine Ye0 TO rfl 40 _ _ _<|Cal.mk<|Ya4 TO (ix3 h40 hi).1 (ix3 h40 hi).2 hx<|Cal.mk<|Yl9 TO (Zz hi h40) fun jk=>⟨junk++jk,?_,Ze ..⟩
   rw [Ya3 (hnat i hi),Zfc]; rfl
 refine hJ.rec fun j1 q0 q1=>?_
 rw [hrl,← hnl,Zgc] at q0
 apply Ya1 q0
 apply Ya1 q1
 clear hJ q0 q1
 have hns:=Yae (σ:=σ1++j1) (o:=.list (ns.map V.str))
 have hsg:(σ1++j1++[.list (ns.map V.str)])[sg]?=some (.list [.str (S [x]),.str (S [y]),.str (S [z])]):=Yab (Yab hsg)
 have q:∀ rs l σ' (j:Hp),σ'=σ1++j1++[Yas.list (ns.map V.str)]++j→Yan rs→Yey rs→(∀ r∈rs,r.2.wt≤20000)→(∀ j r,rs[j]?=some r→Drawn (rs.map (·.1)) j r.2)→rs.length≤3→(σ1++j1++[Yas.list (ns.map V.str)]).length≤l→σ'[l]?=some (.list (rs.map Ybn))→Q (.ref l) σ':=fun rs l σ' j e g1 g2 g3 g3' g4 g5=>q rs l σ' (j1++[Yas.list (ns.map V.str)]++j) (e.trans (by simp only [Ze])) g1 g2 g3 g3' g4 (Za (by rw [Ze,Zf]; exact Zy ..) g5)
 generalize (σ1++j1).length=nl at hns ⊢
 generalize (σ1++j1++[Yas.list (ns.map V.str)])=σ2 at hsg hns q ⊢
 refine Cal.range ⟨_,Yvx n σ2,⟨[],rfl,rfl,Zkb _,rfl⟩,fun i acc σ' hJ=>⟨hrng,hJ.rec fun cs q0 q1 q2 zz=>q1▸sz40 (by rw [Zc,q0]; exact Za q2 h40)⟩,fun acc σ' hJ=>?_,fun i v acc σ' hJ hy=>?_⟩
 rotate_left
 · refine hJ.rec fun cs hc q1 zz q3=>?_
   have hi:=(hri hy).1
   apply Ya1 q1
   apply Ya1 q3
   apply Ya1 (hri hy).2
   exact Ye0 TO rfl 40 _ _ _<|Cal.mk<|Ya4 TO (ix3 h40 hi).1 (ix3 h40 hi).2 hx<|Bin.mull rfl ⟨cs++[_],Zf.trans (congrArg Nat.succ hc),by rw [Zfc]; rfl,hi,rfl⟩
 refine hJ.rec fun cs hc q1 zz q3=>?_
 apply Ya1 q1
 apply Ya1 q3
 clear hJ q1 q3
 rw [hrl] at hc
 have hcs:=Yae (σ:=σ2) (o:=.list (cs.map V.int))
 refine Cal.range ⟨_,Yyw ns n (σ2++[.list (cs.map V.int)]),⟨[],[],Zkb _,⟨fun j r h=>nomatch h⟩,rfl,rfl,(Zlc _).symm⟩,fun i acc σ' hJ=>⟨hrng,hJ.rec fun rs zz q0 zz q2 q3 zz=>q3▸sz40 (by rw [Zc,q2]; exact Za q0 h40)⟩,fun acc σ' hJ=>?_,fun i v acc σ' hJ hy=>?_⟩
 · refine hJ.rec fun rs junk hi hR hc q3 q4=>?_
   apply Ya1 q3
   apply Ya1 q4
   rw [hrl] at hc
   have g:=hR.good (hc.trans hnl.symm) (hnl.symm▸h1) (hnl.symm▸h40) hok.1 hok.2
   exact q rs _ _ ([.list (cs.map V.int)]++junk++[.list (rs.map Ybn)]) (by simp only [Ze]) g.1 g.2 hR.wts (fun j r hj=>(hR.names (hc.trans hnl.symm)).symm▸(hR.at_ j r hj).2) (hc▸hM) (by rw [Ze,Zf]; exact Zy ..) Yae
 · refine hJ.rec fun rs junk hi0 hR hc' q3 q4=>?_
   have hi:=(hri hy).1
   apply Ya1 q3
   apply Ya1 q4
   apply Ya1 (hri hy).2
   have l62:∀ {m:Nat},m=n→m < 2 ^ 62:=fun e=>e▸Zk h40 (by decide)
   refine Ye0 TO rfl 40 _ _ _<|Itm.mk<|Yd6 (Yab (Yab hns)) rfl (by rw [Zdb,hnat i hi]; rfl) (by rw [Zc]; exact l62 hnl)<|Itm.mk<|Yd6 (v:=.int cs[i]) (Yab hcs) rfl (by rw [Zdb,Zp (hc.symm▸hi)]; rfl) (by rw [Zc]; exact l62 hc)<|Cal.mk <|
     Ymp TO hs (Yab (Yab hsg)) (Yab (Yab hns)) (hnl▸h40) fun p jk hp=>?_
   exact ⟨rs++[(S (Ya2 style (xs.getD (3+i) 0) i),p)],junk++jk,hi,hR.snoc (hc'.symm▸hnat i hi) (hc'.symm▸hp),Zf.trans (congrArg Nat.succ hc'),by rw [Zfc]; rfl,Ze ..⟩
end
section
variable {w:World}{s:Shared}{d:Nat}{X:QX}{Q:QE}{σ:Hp}
theorem Yci {σ:Hp}{x y:Yas}:(σ++[x]).set σ.length y=σ++[y]:=by simp
theorem Yk6 {σ:Hp}{x y z:Yas}:(σ++[x]++[z]).set σ.length y=σ++[y,z]:=by simp
structure Yyn (T:Tp) (C:Addr):Prop where
 cls:Yeo T "Frame" C
 piece:Yc0 T C "piece"
 place:Yc0 T C "place"
 turn:Yc0 T C "turn"
 here:Yc0 T C "here"
 kids:Yc0 T C "kids"
theorem Yby:∃ C,Yyn (T11 w s) C:=⟨_,⟨rfl,rfl,rfl,rfl,rfl,rfl⟩,⟨rfl,rfl⟩,⟨rfl,rfl⟩,⟨rfl,rfl⟩,⟨rfl,rfl⟩,⟨rfl,rfl⟩⟩
noncomputable def frF (pv:V) (i t h:Int) (k:Nat):List (Str×V):=[("piece",pv),("place",.int i),("turn",.int t),("here",.int h),("kids",.ref k)]
theorem Ykq (TO:Yaf (T11 w s)) {pv:V}{i:Int}(q:Q (.ref σ.length) (σ++[.inst "Frame" (frF pv i 0 i (σ.length+1)),.list []])):Yaa (T11 w s) (d+3) X (.glob "Frame") [pv,.int i] Q σ:=by
 obtain ⟨C,hC⟩:=Yby (w:=w) (s:=s)
 refine Yaa.make TO rfl rfl rfl rfl<|Yb5.goM TO rfl rfl ?_
 refine Yaj.to [("piece",pv)] Yae hC.cls hC.piece (by simp) rfl Yci ?_
 refine Yaj.to [("piece",pv),("place",.int i)] Yae hC.cls hC.place (by simp) rfl Yci ?_
 refine Yaj.to [("piece",pv),("place",.int i),("turn",.int 0)] Yae hC.cls hC.turn (by simp) rfl Yci ?_
 refine Yaj.to [("piece",pv),("place",.int i),("turn",.int 0),("here",.int i)] Yae hC.cls hC.here (by simp) rfl Yci ?_
 exact Yaj.to (frF pv i 0 i (σ++[Yas.inst "Frame" [("piece",pv),("place",.int i),("turn",.int 0),("here",.int i)]]).length) (Yab Yae) hC.cls hC.kids (by simp) rfl (σ':=σ++[.inst "Frame" (frF pv i 0 i (σ.length+1)),.list []]) (by rw [Yk6,Zf]; rfl) ⟨rfl,q⟩
end
section
variable {w:World}{s:Shared}{d:Nat}{X:QX}{Q:QE}{σ:Hp}
theorem Yhs {vs:List V}{j:Nat}{v:V}(hj:vs[j]?=some v) (hb:vs.length < 1000):Yw3 vs (j:Int)=some v:=by
 have hl:=(Zb.mp hj).1
 show (bif Nat.ble j 1000 then vs[j]? else none)=some v
 rw [Nat.ble_eq_true_of_le (by exact Zq (Nat.lt_trans hl hb))]; exact hj
theorem Yks {ps:List Pt}{t:Nat}{p:Pt}(h:ps[t]?=some p):(Pt.vs ps)[t]?=some p.v:=by rw [Pt.vs_map,Zdb,h]; rfl
theorem Ypw (TO:Yaf (T11 w s)) {ps:List Pt}{i t h l k:Nat}(h1:σ[l]?=some (.inst "Frame" (frF (Pt.row ps).v i t h k))) (hp:ps.length < 1000)
   (q1:ps[t]?=none→Q (.tup [.none,.tup [.int h,.ref k]]) σ) (q2:∀ p,ps[t]?=some p→Q (.tup [.tup [p.v,.int h],.none]) σ) (ht:t≤ps.length)  :
   Yaa (T11 w s) (d+2) X (.glob "of_row") [.ref l,.none] Q σ:=by
 obtain ⟨C,hC⟩:=Yby (w:=w) (s:=s)
 refine Yaa.go TO rfl rfl ?_
 refine Cmp.notN (r:=true) rfl ?_
 refine Yad.of h1 rfl rfl hC.cls hC.piece ?_
 refine Yad.of h1 rfl rfl hC.cls hC.turn ?_
 refine Cal.len (n:=ps.length) (Yfw (by simp [Pt.vs_map])) (by exact Za (by assumption) (by decide)) ?_
 refine Br.mk (fun h2=>?_) fun h2=>?_
 · refine Yad.of h1 rfl rfl hC.cls hC.here<|Yad.of h1 rfl rfl hC.cls hC.kids ?_
   exact q1 (Zrb (by simp at h2; lia))
 · refine Yad.of h1 rfl rfl hC.cls hC.turn ?_
   have hlt:t < ps.length:=by simp at h2; lia
   have hg:=Zp hlt
   refine Ydc.at (Yhs (Yks hg) (by rw [Pt.vs_map,Zc]; exact hp))<|Yad.of h1 rfl rfl hC.cls hC.here ?_
   exact q2 _ hg
theorem Yvr (TO:Yaf (T11 w s)) {l la:Nat}(q:Q (.tup [.none,.tup [.none,.ref σ.length]]) (σ++[.list []])):Yaa (T11 w s) (d+2) X (.glob "of_row") [.ref l,.tup [.none,.ref la]] Q σ:=by
 refine Yaa.go TO rfl rfl ?_
 exact Cmp.notN (r:=false) rfl<|Cmp.isN (r:=true) rfl q
theorem Yui (TO:Yaf (T11 w s)) {ps:List Pt}{i t h e l k la:Nat}{vs us:List V}(h1:σ[l]?=some (.inst "Frame" (frF (Pt.row ps).v i t h k))) (h2:σ[k]?=some (.list vs)) (h3:σ[la]?=some (.list us)) (hk:l≠k) (ha:la≠l) (hp:ps.length < 1000) (hz:vs.length+us.length≤sizeLine)
   (q1:∀ σ',σ'=(σ.set k (.list (vs++us))).set l (.inst "Frame" (frF (Pt.row ps).v i (t+1:Nat) e k))→ps[t+1]?=none→Q (.tup [.none,.tup [.int e,.ref k]]) σ') (q2:∀ σ',σ'=(σ.set k (.list (vs++us))).set l (.inst "Frame" (frF (Pt.row ps).v i (t+1:Nat) e k))→∀ p,ps[t+1]?=some p→Q (.tup [.tup [p.v,.int e],.none]) σ') (ht:t < ps.length) :
   Yaa (T11 w s) (d+2) X (.glob "of_row") [.ref l,.tup [.int e,.ref la]] Q σ:=by
 obtain ⟨C,hC⟩:=Yby (w:=w) (s:=s)
 refine Yaa.go TO rfl rfl ?_
 have hl:=(Zb.mp h1).1
 refine Cmp.notN (r:=false) rfl<|Cmp.isN (r:=false) rfl<|Yaj.of (frF (Pt.row ps).v i t e k) h1 hC.cls hC.here (by simp [frF]) rfl ?_
 have g1:(σ.set l (.inst "Frame" (frF (Pt.row ps).v i t e k)))[l]?=some (.inst "Frame" (frF (Pt.row ps).v i t e k)):=Zw hl
 have g2:(σ.set l (.inst "Frame" (frF (Pt.row ps).v i t e k)))[k]?=some (.list vs):=by rw [Zi hk]; exact h2
 have g3:(σ.set l (.inst "Frame" (frF (Pt.row ps).v i t e k)))[la]?=some (.list us):=by rw [Zi (Ne.symm ha)]; exact h3
 have e3:∀ o,(((σ.set l (.inst "Frame" (frF (Pt.row ps).v i t e k))).set k (.list (vs++us))).set l o)=(σ.set k (.list (vs++us))).set l o:=fun o=>by
   rw [List.set_comm _ _ hk,List.set_set]
 generalize σ.set l (.inst "Frame" (frF (Pt.row ps).v i t e k))=σ₁ at g1 g2 g3 e3
 refine Yad.of g1 rfl rfl hC.cls hC.kids<|Yam.extend g2<|Cal.mk<|Yaa.extend g2 g3 hz ?_
 have g4:(σ₁.set k (.list (vs++us)))[l]?=some (.inst "Frame" (frF (Pt.row ps).v i t e k)):=by rw [Zi (Ne.symm hk)]; exact g1
 refine Yad.of g4 rfl rfl hC.cls hC.turn<|Yaj.of (frF (Pt.row ps).v i (t+1:Nat) e k) g4 hC.cls hC.turn (by simp [frF]) rfl ?_
 have g5:((σ₁.set k (.list (vs++us))).set l (.inst "Frame" (frF (Pt.row ps).v i (t+1:Nat) e k)))[l]?=some (.inst "Frame" (frF (Pt.row ps).v i (t+1:Nat) e k)):=Zw (Zb.mp g4).1
 rw [e3] at g5 ⊢
 generalize hσ:(σ.set k (.list (vs++us))).set l (.inst "Frame" (frF (Pt.row ps).v i (t+1:Nat) e k))=σ₂ at g5
 refine Yad.of g5 rfl rfl hC.cls hC.piece<|Yad.of g5 rfl rfl hC.cls hC.turn<|Cal.len (n:=ps.length) (Yfw (by simp [Pt.vs_map])) (by exact Za (by assumption) (by decide))<|Br.mk (fun h2=>?_) fun h2=>?_
 · refine Yad.of g5 rfl rfl hC.cls hC.here<|Yad.of g5 rfl rfl hC.cls hC.kids ?_
   exact q1 _ hσ.symm (Zrb (by simp at h2; lia))
 · have hlt:t+1 < ps.length:=by simp at h2; lia
   have hg:=Zp hlt
   refine Yad.of g5 rfl rfl hC.cls hC.turn<|Ydc.at (Yhs (Yks hg) (by rw [Pt.vs_map,Zc]; exact hp))<|Yad.of g5 rfl rfl hC.cls hC.here ?_
   exact q2 _ hσ.symm _ hg
theorem Yqu (TO:Yaf (T11 w s)) {ps:List Pt}{i t h l k:Nat}(h1:σ[l]?=some (.inst "Frame" (frF (Pt.alt ps).v i t h k))) (hp:ps.length < 1000)
   (q1:ps[t]?=none→Q (.tup [.none,.tup [.none,.ref σ.length]]) (σ++[.list []])) (q2:∀ p,ps[t]?=some p→Q (.tup [.tup [p.v,.int i],.none]) σ) (ht:t≤ps.length) :
   Yaa (T11 w s) (d+2) X (.glob "of_choice") [.ref l,.none] Q σ:=by
 obtain ⟨C,hC⟩:=Yby (w:=w) (s:=s)
 refine Yaa.go TO rfl rfl ?_
 refine Cmp.notN (r:=true) rfl<|Yad.of h1 rfl rfl hC.cls hC.piece<|Yad.of h1 rfl rfl hC.cls hC.turn<|Cal.len (n:=ps.length) (Yfw (by simp [Pt.vs_map])) (by exact Za (by assumption) (by decide))<|Br.mk (fun h2=>?_) fun h2=>?_
 · exact q1 (Zrb (by simp at h2; lia))
 · have hg:=Zp (show t < ps.length by simp at h2; lia)
   exact Yad.of h1 rfl rfl hC.cls hC.turn<|Ydc.at (Yhs (Yks hg) (by rw [Pt.vs_map,Zc]; exact hp))<|Yad.of h1 rfl rfl hC.cls hC.place<|q2 _ hg
theorem Ytl (TO:Yaf (T11 w s)) {l la e:Nat}(q:Q (.tup [.none,.tup [.int e,.ref la]]) σ):Yaa (T11 w s) (d+2) X (.glob "of_choice") [.ref l,.tup [.int e,.ref la]] Q σ:=by
 refine Yaa.go TO rfl rfl ?_
 exact Cmp.notN (r:=false) rfl<|Cmp.notN (r:=false) rfl q
theorem Yvz (TO:Yaf (T11 w s)) {ps:List Pt}{i t h l k la:Nat}(h1:σ[l]?=some (.inst "Frame" (frF (Pt.alt ps).v i t h k))) (hp:ps.length < 1000)
   (q1:∀ σ',σ'=σ.set l (.inst "Frame" (frF (Pt.alt ps).v i (t+1:Nat) h k))→ps[t+1]?=none→Q (.tup [.none,.tup [.none,.ref σ'.length]]) (σ'++[.list []])) (q2:∀ σ',σ'=σ.set l (.inst "Frame" (frF (Pt.alt ps).v i (t+1:Nat) h k))→∀ p,ps[t+1]?=some p→Q (.tup [.tup [p.v,.int i],.none]) σ') (ht:t < ps.length) :
   Yaa (T11 w s) (d+2) X (.glob "of_choice") [.ref l,.tup [.none,.ref la]] Q σ:=by
 obtain ⟨C,hC⟩:=Yby (w:=w) (s:=s)
 refine Yaa.go TO rfl rfl ?_
 refine Cmp.notN (r:=false) rfl<|Cmp.notN (r:=true) rfl<|Yad.of h1 rfl rfl hC.cls hC.turn<|Yaj.of (frF (Pt.alt ps).v i (t+1:Nat) h k) h1 hC.cls hC.turn (by simp [frF]) rfl ?_
 have g5:(σ.set l (.inst "Frame" (frF (Pt.alt ps).v i (t+1:Nat) h k)))[l]?=some (.inst "Frame" (frF (Pt.alt ps).v i (t+1:Nat) h k)):=Zw (Zb.mp h1).1
 generalize hσ:σ.set l (.inst "Frame" (frF (Pt.alt ps).v i (t+1:Nat) h k))=σ₂ at g5
 refine Yad.of g5 rfl rfl hC.cls hC.piece<|Yad.of g5 rfl rfl hC.cls hC.turn<|Cal.len (n:=ps.length) (Yfw (by simp [Pt.vs_map])) (by exact Za (by assumption) (by decide))<|Br.mk (fun h2=>?_) fun h2=>?_
 · exact q1 _ hσ.symm (Zrb (by simp at h2; lia))
 · have hg:=Zp (show t+1 < ps.length by simp at h2; lia)
   exact Yad.of g5 rfl rfl hC.cls hC.turn<|Ydc.at (Yhs (Yks hg) (by rw [Pt.vs_map,Zc]; exact hp))<|Yad.of g5 rfl rfl hC.cls hC.place<|q2 _ hσ.symm _ hg
theorem Ypd (TO:Yaf (T11 w s)) {p:Pt}{i t h l k:Nat}(h1:σ[l]?=some (.inst "Frame" (frF (Pt.many p).v i t h k))) (q:Q (.tup [.tup [p.v,.int h],.none]) σ):Yaa (T11 w s) (d+2) X (.glob "of_many") [.ref l,.none] Q σ:=by
 obtain ⟨C,hC⟩:=Yby (w:=w) (s:=s)
 refine Yaa.go TO rfl rfl ?_
 exact Cmp.notN (r:=true) rfl<|Yad.of h1 rfl rfl hC.cls hC.piece<|Yad.of h1 rfl rfl hC.cls hC.here q
theorem Yud (TO:Yaf (T11 w s)) {p:Pt}{i t h l k la:Nat}(h1:σ[l]?=some (.inst "Frame" (frF (Pt.many p).v i t h k))) (q:Q (.tup [.none,.tup [.int h,.ref k]]) σ):Yaa (T11 w s) (d+2) X (.glob "of_many") [.ref l,.tup [.none,.ref la]] Q σ:=by
 obtain ⟨C,hC⟩:=Yby (w:=w) (s:=s)
 refine Yaa.go TO rfl rfl ?_
 exact Cmp.notN (r:=false) rfl<|Cmp.isN (r:=true) rfl<|Yad.of h1 rfl rfl hC.cls hC.here<|Yad.of h1 rfl rfl hC.cls hC.kids q
theorem Ynv (TO:Yaf (T11 w s)) {p:Pt}{i t h l k la:Nat}(h1:σ[l]?=some (.inst "Frame" (frF (Pt.many p).v i t h k))) (q:Q (.tup [.none,.tup [.int h,.ref k]]) σ):Yaa (T11 w s) (d+2) X (.glob "of_many") [.ref l,.tup [.int h,.ref la]] Q σ:=by
 obtain ⟨C,hC⟩:=Yby (w:=w) (s:=s)
 refine Yaa.go TO rfl rfl ?_
 exact Cmp.notN (r:=false) rfl<|Cmp.isN (r:=false) rfl<|Yad.of h1 rfl rfl hC.cls hC.here<|Br.t (by simp)<|Yad.of h1 rfl rfl hC.cls hC.here<|Yad.of h1 rfl rfl hC.cls hC.kids q
theorem Yrm (TO:Yaf (T11 w s)) {p:Pt}{i t h e l k la:Nat}{vs us:List V}(h1:σ[l]?=some (.inst "Frame" (frF (Pt.many p).v i t h k))) (h2:σ[k]?=some (.list vs)) (h3:σ[la]?=some (.list us)) (hk:l≠k) (ha:la≠l) (hz:vs.length+us.length≤sizeLine) (he:e≠h)
   (q:∀ σ',σ'=(σ.set k (.list (vs++us))).set l (.inst "Frame" (frF (Pt.many p).v i t e k))→Q (.tup [.tup [p.v,.int e],.none]) σ') :
   Yaa (T11 w s) (d+2) X (.glob "of_many") [.ref l,.tup [.int e,.ref la]] Q σ:=by
 obtain ⟨C,hC⟩:=Yby (w:=w) (s:=s)
 refine Yaa.go TO rfl rfl ?_
 have hl:=(Zb.mp h1).1
 refine Cmp.notN (r:=false) rfl<|Cmp.isN (r:=false) rfl<|Yad.of h1 rfl rfl hC.cls hC.here<|Br.f (by simp; lia)<|Yaj.of (frF (Pt.many p).v i t e k) h1 hC.cls hC.here (by simp [frF]) rfl ?_
 have g1:(σ.set l (.inst "Frame" (frF (Pt.many p).v i t e k)))[l]?=some (.inst "Frame" (frF (Pt.many p).v i t e k)):=Zw hl
 have g2:(σ.set l (.inst "Frame" (frF (Pt.many p).v i t e k)))[k]?=some (.list vs):=by rw [Zi hk]; exact h2
 have g3:(σ.set l (.inst "Frame" (frF (Pt.many p).v i t e k)))[la]?=some (.list us):=by rw [Zi (Ne.symm ha)]; exact h3
 have e3:(σ.set l (.inst "Frame" (frF (Pt.many p).v i t e k))).set k (.list (vs++us))=(σ.set k (.list (vs++us))).set l (.inst "Frame" (frF (Pt.many p).v i t e k)):=List.set_comm _ _ hk
 generalize σ.set l (.inst "Frame" (frF (Pt.many p).v i t e k))=σ₁ at g1 g2 g3 e3
 refine Yad.of g1 rfl rfl hC.cls hC.kids<|Yam.extend g2<|Cal.mk<|Yaa.extend g2 g3 hz ?_
 have g4:(σ₁.set k (.list (vs++us)))[l]?=some (.inst "Frame" (frF (Pt.many p).v i t e k)):=by rw [Zi (Ne.symm hk)]; exact g1
 rw [e3] at g4 ⊢
 generalize hσ:(σ.set k (.list (vs++us))).set l (.inst "Frame" (frF (Pt.many p).v i t e k))=σ₂ at g4
 exact Yad.of g4 rfl rfl hC.cls hC.piece<|Yad.of g4 rfl rfl hC.cls hC.here<|q _ hσ.symm
theorem Yt9 (TO:Yaf (T11 w s)) {p:Pt}{i t h l k:Nat}(h1:σ[l]?=some (.inst "Frame" (frF (Pt.nt p).v i t h k))) (q:Q (.tup [.tup [p.v,.int i],.none]) σ):Yaa (T11 w s) (d+2) X (.glob "of_not") [.ref l,.none] Q σ:=by
 obtain ⟨C,hC⟩:=Yby (w:=w) (s:=s)
 refine Yaa.go TO rfl rfl ?_
 exact Cmp.isN (r:=true) rfl<|Yad.of h1 rfl rfl hC.cls hC.piece<|Yad.of h1 rfl rfl hC.cls hC.place q
theorem Yxy (TO:Yaf (T11 w s)) {p:Pt}{i t h l k la:Nat}(h1:σ[l]?=some (.inst "Frame" (frF (Pt.nt p).v i t h k))) (q:Q (.tup [.none,.tup [.int i,.ref σ.length]]) (σ++[.list []])):Yaa (T11 w s) (d+2) X (.glob "of_not") [.ref l,.tup [.none,.ref la]] Q σ:=by
 obtain ⟨C,hC⟩:=Yby (w:=w) (s:=s)
 refine Yaa.go TO rfl rfl ?_
 exact Cmp.isN (r:=false) rfl<|Cmp.isN (r:=true) rfl<|Yad.of h1 rfl rfl hC.cls hC.place q
theorem Yva (TO:Yaf (T11 w s)) {l la e:Nat}(q:Q (.tup [.none,.tup [.none,.ref σ.length]]) (σ++[.list []])):Yaa (T11 w s) (d+2) X (.glob "of_not") [.ref l,.tup [.int e,.ref la]] Q σ:=by
 refine Yaa.go TO rfl rfl ?_
 exact Cmp.isN (r:=false) rfl<|Cmp.isN (r:=false) rfl q
end
section
variable {w:World}{s:Shared}{d:Nat}{X:QX}{Q:QE}{σ:Hp}
structure Yx6 (T:Tp) (C:Addr):Prop where
 cls:Yeo T "Memory" C
 kept:Yc0 T C "kept"
 order:Yc0 T C "order"
 look:Ydg T C "look"
 known:Ydg T C "known"
 begun:Ydg T C "begin"
 ended:Ydg T C "ended"
theorem Ye2:∃ C,Yx6 (T11 w s) C:=⟨_,⟨rfl,rfl,rfl,rfl,rfl,rfl⟩,⟨rfl,rfl⟩,⟨rfl,rfl⟩,⟨_,rfl,rfl,rfl⟩,⟨_,rfl,rfl,rfl⟩,⟨_,rfl,rfl,rfl⟩,⟨_,rfl,rfl,rfl⟩⟩
noncomputable def mmF (a b:Nat):List (Str×V):=[("kept",.ref a),("order",.ref b)]
noncomputable def prV (n:Str) (i:Int):V:=.tup [.str n,.int i]
theorem Ypj (TO:Yaf (T11 w s)) (q:Q (.ref σ.length) (σ++[.inst "Memory" (mmF (σ.length+1) (σ.length+2)),.tdict [],.list []])):Yaa (T11 w s) (d+3) X (.glob "Memory") [] Q σ:=by
 obtain ⟨C,hC⟩:=Ye2 (w:=w) (s:=s)
 refine Yaa.retag<|Yaa.make TO rfl rfl rfl rfl<|Yb5.goM TO rfl rfl ?_
 refine Yaj.to [("kept",.ref (σ++[Yas.inst "Memory" []]).length)] (Yab Yae) hC.cls hC.kept (by simp) rfl (σ':=σ++[.inst "Memory" [("kept",.ref (σ.length+1))],.sdict []]) (by rw [Yk6,Zf]; rfl) ?_
 exact Yaj.to (mmF (σ.length+1) (σ++[Yas.inst "Memory" [("kept",.ref (σ.length+1))],.sdict []]).length) (Yab Ygj) hC.cls hC.order (by simp) rfl (σ':=σ++[.inst "Memory" (mmF (σ.length+1) (σ.length+2)),.sdict [],.list []]) (by rw [Ze,Zf]; exact Yuz) ⟨rfl,σ.length+1,Yh3,by rw [Yu2]; exact q⟩
theorem Yuh (TO:Yaf (T11 w s)) {v:V}(q:Q .none σ):Yaa (T11 w s) (d+1) X (.mth "Memory" "look") [v] Q σ:=by
 refine Yaa.goM TO rfl rfl ?_
 exact q
theorem Yrj (TO:Yaf (T11 w s)) {m a b:Nat}{os:List V}{n:Str}{i:Int}(h1:σ[m]?=some (.inst "Memory" (mmF a b))) (h2:σ[b]?=some (.list os)) (hz:os.length≤sizeLine) (q:Q .none (σ.set b (.list (os++[prV n i])))):Yaa (T11 w s) (d+2) X (.mth "Memory" "begin") [.ref m,.str n,.int i] Q σ:=by
 obtain ⟨C,hC⟩:=Ye2 (w:=w) (s:=s)
 refine Yaa.goM TO rfl rfl ?_
 exact Yad.of h1 rfl rfl hC.cls hC.order<|Yam.append h2<|Cal.mk<|Yaa.append h2 hz q
theorem Yku (TO:Yaf (T11 w s)) {m a b:Nat}{kvs:List ((Str×Int)×V)}{n:Str}{i:Int}(h1:σ[m]?=some (.inst "Memory" (mmF a b))) (h2:σ[a]?=some (.tdict kvs))
   (q0:kvs.find? (fun kv=>kv.1=(n,i))=none→Q .none σ)
   (q1:∀ v,(kvs.find? fun kv=>kv.1=(n,i)).map (·.2)=some v→(∃ l,v=.tup [.none,.ref l]∧Q (.tup [.none,.ref σ.length]) (σ++[.list []]))∨∃ e l,v=.tup [.int e,.ref l]∧Q (.tup [.int e,.ref σ.length]) (σ++[.list [prV n i]])) :
   Yaa (T11 w s) (d+2) X (.mth "Memory" "known") [.ref m,.str n,.int i] Q σ:=by
 obtain ⟨C,hC⟩:=Ye2 (w:=w) (s:=s)
 refine Yaa.goM TO rfl rfl ?_
 refine Yad.of h1 rfl rfl hC.cls hC.kept<|Cmp.pairs (neg:=true) (k:=(n,i)) h2 ?_
 cases hf:kvs.find? (fun kv=>kv.1=(n,i)) with
 | none =>
   refine Br.t ?_ (q0 hf)
   simp only [Bool.true_bne,Bool.not_eq_true',List.any_eq_false]
   exact List.find?_eq_none.mp hf
 | some p =>
   have hm:(kvs.find? fun kv=>kv.1=(n,i)).map (·.2)=some p.2:=by rw [hf]; rfl
   refine Br.f ?_ ?_
   · simp only [Bool.true_bne,Bool.not_eq_false',List.any_eq_true]
     have:=List.find?_some hf
     exact ⟨p,List.mem_of_find?_eq_some hf,this⟩
   rcases q1 _ hm with ⟨l,e,q⟩ | ⟨x,l,e,q⟩
   · rw [e] at hm
     exact Yad.of h1 rfl rfl hC.cls hC.kept<|Itm.pair (k:=(n,i)) h2 hm<|Cmp.isN (r:=true) rfl q
   · rw [e] at hm
     exact Yad.of h1 rfl rfl hC.cls hC.kept<|Itm.pair (k:=(n,i)) h2 hm<|Cmp.isN (r:=false) rfl<|Yad.of h1 rfl rfl hC.cls hC.kept<|Itm.pair (k:=(n,i)) h2 hm q
theorem Yjd {kvs:List ((Str×Int)×V)}{k:Str×Int}{v:V}:((Ydw kvs k v).find? fun kv=>kv.1=k).map (·.2)=some v:=by
 unfold Ydw
 split
 · rename_i h
   induction kvs with
   | nil=>cases h
   | cons p r ih =>
     by_cases hp:p.1=k
     · simp [hp]
     · simp only [List.any_cons,hp,decide_false,Bool.false_or] at h
       simp only [List.map_cons,hp,if_false,List.find?_cons,decide_false]
       exact ih h
 · rename_i h
   rw [List.find?_append,List.find?_eq_none.mpr (fun x hx hk=>h (List.any_eq_true.mpr ⟨x,hx,hk⟩))]
   simp
theorem Yq4 (TO:Yaf (T11 w s)) {m a b la:Nat}{kvs:List ((Str×Int)×V)}{n:Str}{i:Int}{ev:V}{us:List V}(h1:σ[m]?=some (.inst "Memory" (mmF a b))) (h2:σ[a]?=some (.tdict kvs)) (h3:σ[la]?=some (.list us)) (hm:m≠a) (hz:kvs.length≤sizeLine) (hu:us.length≤sizeLine)
   (q:∀ σ₁,σ₁=(σ++[Yas.list us]).set a (.tdict (Ydw kvs (n,i) (.tup [ev,.ref σ.length])))→(ev=.none∧Q (.tup [.none,.ref σ₁.length]) (σ₁++[.list []]))∨∃ e,ev=.int e∧Q (.tup [.int e,.ref σ₁.length]) (σ₁++[.list [prV n i]])) :
   Yaa (T11 w s) (d+3) X (.mth "Memory" "ended") [.ref m,.str n,.int i,.tup [ev,.ref la]] Q σ:=by
 obtain ⟨C,hC⟩:=Ye2 (w:=w) (s:=s)
 refine Yaa.goM TO rfl rfl ?_
 refine Cal.list (vs:=us) (Yfg h3) hu<|Yad.of (Yab h1) rfl rfl hC.cls hC.kept<|Yat.pair (k:=(n,i)) (Yab h2) hz ?_
 have g1:((σ++[Yas.list us]).set a (.tdict (Ydw kvs (n,i) (.tup [ev,.ref σ.length]))))[m]?=some (.inst "Memory" (mmF a b)):=by rw [Zi (Ne.symm hm)]; exact Yab h1
 have g2:((σ++[Yas.list us]).set a (.tdict (Ydw kvs (n,i) (.tup [ev,.ref σ.length]))))[a]?=some (.tdict (Ydw kvs (n,i) (.tup [ev,.ref σ.length]))):=Zw (by rw [Zf]; exact Nat.lt_add_right _ (Zb.mp h2).1)
 replace q:=q _ rfl
 generalize (σ++[Yas.list us]).set a (.tdict (Ydw kvs (n,i) (.tup [ev,.ref σ.length])))=σ₁ at g1 g2 q
 refine Yam.own g1 rfl hC.cls hC.known<|Cal.mk<|Yku (d:=d) TO g1 g2 (fun h=>?_) fun v hv=>?_
 · have:=Yjd (kvs:=kvs) (k:=(n,i)) (v:=.tup [ev,.ref σ.length])
   rw [h] at this; cases this
 · rw [Yjd] at hv
   apply Ya1 (Yai hv).symm
   exact q.elim (fun g=>.inl ⟨_,congrArg (fun z=>V.tup [z,_]) g.1,g.2⟩) fun g=>g.elim fun e g=>.inr ⟨e,_,congrArg (fun z=>V.tup [z,_]) g.1,g.2⟩
end
section
variable {w:World}{s:Shared}{d:Nat}{X:QX}{Q:QE}{σ:Hp}
set_option tactic.hygienic true in
theorem Yqg (TO:Yaf (T11 w s)) {p:Pt}{c:Nat}(hp:p.isLf=true) (q:Q (.bool (p.takesC c)) σ):Yaa (T11 w s) (d+2) X (.glob "takes") [p.v,.str ⟨#[c]⟩] Q σ:=by
 refine Yaa.go TO rfl rfl ?_
 cases p <;> first | cases hp | skip
 · simp only [Pt.takesC2] at q
   rw [← Yoy] at q
   exact q
 · rename_i a b
   refine Cal.ord<|Cal.ord<|Br.mk (fun h1=>Cal.ord ?_) fun h1=>?_
   · simp only [Pt.takesC3] at q
     have:a≤c:=by simpa using h1
     rw [Zmb this,Bool.true_and] at q
     show Q (.bool (decide ((c:Int)≤(b:Int)))) σ
     rw [show decide ((c:Int)≤(b:Int))=decide (c≤b) by simp]; exact q
   · simp only [Pt.takesC3] at q
     have:¬ a≤c:=by simpa using h1
     rw [Zrc this] at q
     exact q
 · exact q
theorem Itm.strN {cs:List Nat}{j c:Nat}(hj:cs[j]?=some c) (hb:cs.length < 100000) (q:Q (.str ⟨#[c]⟩) σ):Itm (.str (S cs)) (.int j) Q σ:=by
 have hl:=(Zb.mp hj).1
 refine ⟨_,.str _ _ c ?_ ⟨by exact Int.NonNeg.mk (j+Nat.succ 9223372036854775807),by lia⟩,q⟩
 have e:seqIndex? (j:Int) (S cs).length=some j:=by
   unfold seqIndex?
   simp only [show ¬ ((j:Int) < 0) by lia,if_false]
   rw [if_pos (by simp only [Zob,decide_eq_true_eq]; have:(S cs).length=cs.length:=by simp [S,Str.length]
                  lia)]
   simp
 rw [e]
 show (cs.toArray)[j]?=some c
 simpa using hj
theorem Ywf (p:Pt):Ynu p.v=true:=by cases p <;> rfl
theorem Yxo {i n:Nat}(h:decide ((i:Int) < n)=true):i < n:=Zfb.mp (Zgb h)
theorem Yxv {i n:Nat}(h:decide ((i:Int) < n)=false):n≤i:=Nat.le_of_not_lt fun g=>of_decide_eq_false h (Zfb.mpr g)
theorem Yob (TO:Yaf (T11 w s)) {ok:Prop}{f:V}{σ₁:Hp}{p:Pt}{i t h l k m:Nat}{cs:List Nat}(hp:p.isLf=true) (hM:∀ {K:V→Prop},K f→Yam (T11 w s) (.ref m) "look" σ K) (hlook:∀ {Q':QE},(ok→Q' .none σ₁)→Yaa (T11 w s) (d+2) X f [.ref m] Q' σ) (h1:ok→σ₁[l]?=some (.inst "Frame" (frF p.v i t h k))) (hc:cs.length < 100000)
   (q1:ok→∀ c,cs[i]?=some c→p.takesC c=true→Q (.tup [.none,.tup [.int (i+1:Nat),.ref σ₁.length]]) (σ₁++[.list []]))
   (q2:ok→(∀ c,cs[i]?=some c→p.takesC c=false)→Q (.tup [.none,.tup [.none,.ref σ₁.length]]) (σ₁++[.list []])) :
   Yaa (T11 w s) (d+3) X (.glob "of_sign") [.ref l,.str (S cs),.ref m] Q σ:=by
 obtain ⟨C,hC⟩:=Yby (w:=w) (s:=s)
 refine Yaa.go TO rfl rfl ?_
 refine hM<|Cal.mk<|hlook fun ho=>Yad.of (h1 ho) rfl rfl hC.cls hC.place<|Cal.len (n:=cs.length) (Yep (Ya6 cs)) (Nat.lt_trans hc (by decide))<|Br.mk (fun h2=>?_) fun h2=>q2 ho fun c hc'=>?_
 · have hg:=Zp (Yxo h2)
   exact Yad.of (h1 ho) rfl (Ywf p) hC.cls hC.piece<|Itm.strN hg hc<|Cal.mk<|Yqg TO hp<|Br.mk (fun h3=>q1 ho _ hg h3) fun h3=>q2 ho fun c hc'=>Zab (hg.symm.trans hc')▸h3
 · exact absurd (Zb.mp hc').1 (Zo.mpr (Yxv h2))
inductive GrT (rs:List (Str×Pt)) (g b:Nat) (σ:Hp):Prop where
 | mk (a c e:Nat) (h1:σ[g]?=some (.inst "Grammar" [("pairs",.ref a),("table",.ref b),("bare",.ref c),("leads",.ref e)])) (h2:σ[b]?=some (.sdict (Yb3 rs))):GrT rs g b σ
theorem Yrd.t {rs:List (Str×Pt)}{bs:List Str}{g:Nat}(h:Yrd rs bs g σ):∃ b,GrT rs g b σ:=by
 obtain ⟨a,b,c,e,kl,h1,h2,h3,h4,h5,h6,h7,h8,h9,h10⟩:=h
 exact ⟨b,a,c,e,h5,h7⟩
theorem GrT.keep {rs:List (Str×Pt)}{g b:Nat}{σ':Hp}{A A':List Nat}(h:GrT rs g b σ) (o:On σ A σ' A') (hg:g∉A) (hb:b∉A):GrT rs g b σ':=by
 obtain ⟨a,c,e,h1,h2⟩:=h
 exact ⟨a,c,e,o.keep _ _ h1 hg,o.keep _ _ h2 hb⟩
variable {rs:List (Str×Pt)}{g gb:Nat}
theorem Yqx (TO:Yaf (T11 w s)) (hG:GrT rs g gb σ) {x:Str}(q:x∈rs.map (·.1)→Q .none σ) (qx:x∉rs.map (·.1)→X "NoRule" σ):Yaa (T11 w s) (d+1) X (.mth "Grammar" "need") [.ref g,.str x] Q σ:=by
 obtain ⟨C,hC⟩:=Yfq (w:=w) (s:=s)
 obtain ⟨a,c,e,h5,h7⟩:=hG
 refine Yaa.goM TO rfl rfl ?_
 refine Yad.of h5 rfl rfl hC.cls hC.table<|Cmp.ninD h7 Yif ?_
 refine Br.mk (fun h=>Stx.mk<|Yba.raise TO rfl rfl rfl rfl rfl (by kernel_rfl) (qx (by simpa using h))) fun h=>q (by simpa using h)
theorem Yg9 (TO:Yaf (T11 w s)) (hn:(rs.map (·.1)).Nodup) (hG:GrT rs g gb σ) {x:Str}(q:∀ r∈rs,r.1=x→Q r.2.v σ) (qx:x∉rs.map (·.1)→X "NoRule" σ):Yaa (T11 w s) (d+2) X (.mth "Grammar" "part") [.ref g,.str x] Q σ:=by
 obtain ⟨C,hC⟩:=Yfq (w:=w) (s:=s)
 have hG':=hG
 obtain ⟨a,c,e,h5,h7⟩:=hG
 refine Yaa.goM TO rfl rfl ?_
 refine Yam.own h5 rfl hC.cls hC.need<|Cal.mk<|Yqx TO hG' (fun hx=>?_) qx
 obtain ⟨r,hr,rfl⟩:=Zsb.mp hx
 exact Yad.of h5 rfl rfl hC.cls hC.table<|Itm.dict h7 (Yh6 hn hr) (q r hr rfl)
theorem Yrh (TO:Yaf (T11 w s)) {n:Str}{i t h l k m a b la:Nat}{gv:V}{kvs:List ((Str×Int)×V)}{ev:V}{us:List V}(h0:σ[l]?=some (.inst "Frame" (frF (Pt.rule n).v i t h k))) (h1:σ[m]?=some (.inst "Memory" (mmF a b))) (h2:σ[a]?=some (.tdict kvs)) (h3:σ[la]?=some (.list us)) (hm:m≠a) (hz:kvs.length≤sizeLine) (hu:us.length≤sizeLine)
   (q:∀ σ₁,σ₁=(σ++[Yas.list us]).set a (.tdict (Ydw kvs (n,i) (.tup [ev,.ref σ.length])))→(ev=.none∧Q (.tup [.none,.tup [.none,.ref σ₁.length]]) (σ₁++[.list []]))∨∃ e,ev=.int e∧Q (.tup [.none,.tup [.int e,.ref σ₁.length]]) (σ₁++[.list [prV n i]])) :
   Yaa (T11 w s) (d+4) X (.glob "of_rule") [.ref l,.tup [ev,.ref la],gv,.ref m] Q σ:=by
 obtain ⟨C,hC⟩:=Yby (w:=w) (s:=s)
 obtain ⟨M,hM⟩:=Ye2 (w:=w) (s:=s)
 refine Yaa.go TO rfl rfl ?_
 exact Yad.of h0 rfl rfl hC.cls hC.piece<|Cmp.notN (r:=false) rfl<|Yam.own h1 rfl hM.cls hM.ended<|Yad.of h0 rfl rfl hC.cls hC.place<|Cal.mk<|Yq4 (d:=d) TO h1 h2 h3 hm hz hu q
theorem Yod (TO:Yaf (T11 w s)) (hn:(rs.map (·.1)).Nodup) {n:Str}{i t h l k m a b:Nat}{kvs:List ((Str×Int)×V)}{os:List V}(h0:σ[l]?=some (.inst "Frame" (frF (Pt.rule n).v i t h k))) (h1:σ[m]?=some (.inst "Memory" (mmF a b))) (h2:σ[a]?=some (.tdict kvs)) (h3:σ[b]?=some (.list os)) (hz:os.length≤sizeLine)
   (hG:GrT rs g gb (σ.set b (.list (os++[prV n i])))) (hb:b≠l)
   (q0:kvs.find? (fun kv=>kv.1=(n,(i:Int)))=none→∀ r∈rs,r.1=n→Q (.tup [.tup [r.2.v,.int i],.none]) (σ.set b (.list (os++[prV n i]))))
   (qx:n∈rs.map (·.1))
   (q1:∀ v,(kvs.find? fun kv=>kv.1=(n,(i:Int))).map (·.2)=some v→(∃ l,v=.tup [.none,.ref l]∧Q (.tup [.none,.tup [.none,.ref σ.length]]) (σ++[.list []]))∨∃ e l,v=.tup [.int e,.ref l]∧Q (.tup [.none,.tup [.int e,.ref σ.length]]) (σ++[.list [prV n i]])) :
   Yaa (T11 w s) (d+4) X (.glob "of_rule") [.ref l,.none,.ref g,.ref m] Q σ:=by
 obtain ⟨C,hC⟩:=Yby (w:=w) (s:=s)
 obtain ⟨M,hM⟩:=Ye2 (w:=w) (s:=s)
 obtain ⟨G,hGc⟩:=Yfq (w:=w) (s:=s)
 refine Yaa.go TO rfl rfl ?_
 refine Yad.of h0 rfl rfl hC.cls hC.piece<|Cmp.notN (r:=true) rfl<|Yam.own h1 rfl hM.cls hM.known<|Yad.of h0 rfl rfl hC.cls hC.place<|Cal.mk<|Yku (d:=d+1) TO h1 h2 (fun hf=>?_) fun v hv=>?_
 · have g0:(σ.set b (.list (os++[prV n i])))[l]?=some (.inst "Frame" (frF (Pt.rule n).v i t h k)):=by rw [Zi hb]; exact h0
   refine Cmp.notN (r:=true) rfl<|Yam.own h1 rfl hM.cls hM.begun<|Yad.of h0 rfl rfl hC.cls hC.place<|Cal.mk<|Yrj (d:=d+1) TO h1 h3 hz ?_
   have hG2:=hG
   obtain ⟨ga,gc,ge,h5,h7⟩:=hG
   refine Yam.own h5 rfl hGc.cls hGc.part<|Cal.mk<|Yg9 (d:=d+1) TO hn hG2 (fun r hr e=>?_) fun h=>absurd qx h
   exact Yad.of g0 rfl rfl hC.cls hC.place<|q0 hf r hr e
 · rcases q1 v hv with ⟨l',e,q⟩ | ⟨x,l',e,q⟩
   · exact .inl ⟨l',e,Cmp.notN (r:=false) rfl q⟩
   · exact .inr ⟨x,l',e,Cmp.notN (r:=false) rfl q⟩
end
section
variable {w:World}{s:Shared}{d:Nat}{X:QX}{Q:QE}{σ:Hp}{β κ:Type}{B:Bk β κ}{R:Ymw β κ}{G:Str→Pt}
noncomputable def Ynl (ns:List Str) (p:Pt):Prop:=Pt.All Pt.few p∧∀ n,p.Asks n→n∈ns
theorem Ynl.kid {ns:List Str}{p q:Pt}(h:Ynl ns p) (hq:q∈p.kids):Ynl ns q:=by
 obtain ⟨⟨zz,h1⟩,h2⟩:=h
 exact ⟨h1 q hq,fun n hn=>h2 n (.deep hq hn)⟩
noncomputable def Yag (rs:List (Str×Pt)) (n:Str):Pt:=((rs.find? fun r=>r.1=n).map (·.2)).getD .any
theorem Ydj {rs:List (Str×Pt)}(hn:(rs.map (·.1)).Nodup) {r:Str×Pt}(hr:r∈rs):Yag rs r.1=r.2:=by
 unfold Yag
 induction rs with
 | nil=>cases hr
 | cons x xs ih =>
   rw [List.map_cons,Zxc] at hn
   rw [List.find?_cons]
   by_cases hx:x.1=r.1
   · rcases Zg.mp hr with rfl | hr
     · simp
     · exact absurd (Zsb.mpr ⟨r,hr,hx.symm⟩) hn.1
   · rcases Zg.mp hr with rfl | hr
     · exact absurd rfl hx
     · rw [Zrc hx]; exact ih hn.2 hr
noncomputable def Fr.wait (f:Fr κ):Prop:=match f.piece with
 | .row ps | .alt ps=>f.turn < ps.length
 | z1=>True
theorem On.put2 {A:List Nat}{k l:Nat}{x y:Yas}(hk:k∈A) (hl:l∈A):On σ A ((σ.set k x).set l y) A:=(On.put hk).trans (On.put hl) (by simp)
theorem Ybw {τ:Hp}{A:List Nat}{l k:Nat}:On τ (l::k::A) τ A:=.less fun x hx=>Zd _ (Zd _ hx)
inductive Ym4 (R:Ymw β κ) (σ':Hp) (A:List Nat) (l k:Nat):Out β κ→V→Prop where
 | push {f:Fr κ}{p:Pt}{i:Nat}{b':β}(h1:Ypq R.K σ' (l::k::A) f l k) (h2:R.is σ' (l::k::A) b'):Ym4 R σ' A l k (.push f p i b') (.tup [.tup [p.v,.int i],.none])
 | pop {an:An κ}{b':β}{av:V}(h1:Yjn R.K σ' A an av) (h2:R.is σ' A b'):Ym4 R σ' A l k (.pop an b') (.tup [.none,av])
structure Rdy (B:Bk β κ) (R:Ymw β κ) (σ:Hp) (A:List Nat) (l k:Nat) (f:Fr κ) (b:β) (an:Option (An κ)) (av:V):Prop where
 fr:Ypq R.K σ (l::k::A) f l k
 bk:R.is σ (l::k::A) b
 ans:AnO R.K σ (l::k::A) an av
 few:Yeq B f an b
 hk:k∉A
 hl:l∉A
 own:∀ x∈R.own,x∈A
 hA:∀ x∈A,x < σ.length
structure Ydu (B:Bk β κ) (R:Ymw β κ) (G:Str→Pt) (cs:List Nat) (σ:Hp) (A:List Nat) (l k:Nat) (f:Fr κ) (b:β) (an:Option (An κ)) (Q:QE) (X:QX):Prop where
 q:∀ v σ',On σ (l::k::R.own) σ' (l::k::R.own)→σ.length≤σ'.length→Ym4 R σ' A l k (Yac G cs B f an b) v→Q v σ'
 x:∀ σ',On σ (l::k::R.own) σ' (l::k::R.own)→σ.length≤σ'.length→Yac G cs B f an b=.stop→X "TooLong" σ'
variable {cs:List Nat}{A:List Nat}{i t h l k:Nat}{ks:List κ}{b:β}{an:Option (An κ)}{av:V}
theorem Ydu.to {f:Fr κ}{o:Out β κ}{v:V}{σ':Hp}(q:Ydu B R G cs σ A l k f b an Q X) (e:Yac G cs B f an b=o) (on:On σ (l::k::R.own) σ' (l::k::R.own)) (hl:σ.length≤σ'.length) (h:Ym4 R σ' A l k o v):Q v σ':=q.q v σ' on hl (e▸h)
theorem Rdy.fresh {f:Fr κ}(r:Rdy B R σ A l k f b an av) {e:Option Nat}:Yjn R.K (σ++[.list []]) A (e,[]) (.tup [Yub e,.ref σ.length]):=⟨σ.length,[],rfl,fun hx=>Zub _ (r.hA _ hx),Yae,rfl⟩
theorem Rdy.lk {f:Fr κ}(r:Rdy B R σ A l k f b an av):l≠k:=by
 obtain ⟨vs,f1,f2,f3⟩:=r.fr
 exact fun e=>by rw [e,f2] at f1; cases f1
theorem Rdy.bkU {f:Fr κ}(r:Rdy B R σ A l k f b an av) {x:Yas}:R.is (σ++[x]) A b:=(R.keep r.bk .up fun x hx=>Zbb (r.hA x (r.own x hx))) |> fun h=>R.keep h Ybw fun zz zz=>rfl
theorem Rdy.bkA {f:Fr κ}(r:Rdy B R σ A l k f b an av):R.is σ A b:=R.keep r.bk Ybw fun zz zz=>rfl
theorem Rdy.bkP {f:Fr κ}(r:Rdy B R σ A l k f b an av) {x y:Yas}:R.is ((σ.set k x).set l y) (l::k::A) b:=R.keep r.bk (.put2 (by simp) (by simp)) fun z hz=>by
 have h1:=r.own z hz
 rw [Zi (fun e:l=z=>r.hl (e▸h1)),Zi (fun e:k=z=>r.hk (e▸h1))]
theorem Rdy.sz {f:Fr κ}{e:Option Nat}{us:List κ}{la:Nat}{vs us':List V}(r:Rdy B R σ A l k f b (some (e,us)) av) (h1:KRs R.K σ (l::k::A) f.kids vs) (h2:KRs R.K σ (l::k::A) us us'):vs.length+us'.length≤sizeLine:=by
 have e1:=r.few.1
 have e2:us.length≤5000000:=r.few.2.1 _ rfl
 rw [h1.length,h2.length]
 exact szo (by lia)
theorem Rdy.ways {f:Fr κ}{P:Option (An κ)→V→Prop}(r:Rdy B R σ A l k f b an av) (h0:Rdy B R σ A l k f b none .none→P none .none) (h1:∀ us la,Rdy B R σ A l k f b (some (none,us)) (.tup [.none,.ref la])→P (some (none,us)) (.tup [.none,.ref la]))
   (h2:∀ (e:Nat) us la us',Rdy B R σ A l k f b (some (some e,us)) (.tup [.int e,.ref la])→Yjn R.K σ (l::k::A) (some e,us) (.tup [.int e,.ref la])→la∉l::k::A→σ[la]?=some (.list us')→KRs R.K σ (l::k::A) us us'→P (some (some e,us)) (.tup [.int e,.ref la])):P an av:=by
 have han:=r.ans
 rcases an with zz | ⟨zz | e,us⟩
 · cases han; exact h0 r
 · obtain ⟨la,us',rfl,g1,g2,g3⟩:=han; exact h1 us la r
 · obtain ⟨la,us',rfl,g1,g2,g3⟩:=han; exact h2 e us la us' r ⟨la,us',rfl,g1,g2,g3⟩ g1 g2 g3
theorem Ywi (TO:Yaf (T11 w s)) {ps:List Pt}(r:Rdy B R σ A l k ⟨.row ps,i,t,h,ks⟩ b an av) (hp:ps.length < 1000) (hw:an≠none→t < ps.length) (hw0:t≤ps.length) (q:Ydu B R G cs σ A l k ⟨.row ps,i,t,h,ks⟩ b an Q X) :
   Yaa (T11 w s) (d+2) X (.glob "of_row") [.ref l,av] Q σ:=by
 refine r.fr.rec fun vs f1 f2 f3=>?_
 revert hw q
 apply r.ways
 · intro r hw q
   refine Ypw TO f1 hp (fun hn=>?_) (fun p hp'=>?_) hw0
   · refine q.to (o:=.pop (some h,ks) b) ?_ .refl (Zl _) (.pop ⟨k,vs,rfl,r.hk,f2,f3.keep Ybw⟩ r.bkA)
     simp only [Yac,Ybj,hn]
   · refine q.to (o:=.push ⟨.row ps,i,t,h,ks⟩ p h b) ?_ .refl (Zl _) (.push r.fr r.bk)
     simp only [Yac,Ybj,hp']
 · exact fun us la r hw q=>Yvr TO (q.to (o:=.pop (none,[]) b) rfl .up (by simp) (.pop r.fresh r.bkU))
 · intro e us la us' r zz h1 h2 h3 hw q
   have on:∀ {x y:Yas},On σ (l::k::R.own) ((σ.set k x).set l y) (l::k::R.own):=.put2 (by simp) (by simp)
   have fr:∀ {x:Nat},Ypq R.K ((σ.set k (.list (vs++us'))).set l (.inst "Frame" (frF (Pt.row ps).v i (x:Nat) e k))) (l::k::A) ⟨.row ps,i,x,e,ks++us⟩ l k:=fun {x}=>by
     refine ⟨vs++us',Zw (by simp; exact (Zb.mp f1).1),?_,(f3.append h3).keep (.put2 (by simp) (by simp))⟩
     rw [Zi r.lk,Zw (Zb.mp f2).1]
   refine Yui TO f1 f2 h2 r.lk (fun e=>h1 (by simp [e])) hp (r.sz (la:=la) f3 h3) (fun σ' e' hn=>?_) (fun σ' e' p hp'=>?_) (hw (by simp))
   · apply Ya1 e'
     refine (fr (x:=t+1)).rec fun vs' g1 g2 g3=>?_
     refine q.to (o:=.pop (some e,ks++us) b) ?_ on (by simp) (.pop ⟨k,vs',rfl,r.hk,g2,g3.keep Ybw⟩ (R.keep r.bkP Ybw fun zz zz=>rfl))
     simp only [Yac,Ybj,Fr.on,Fr.nxt,hn]
   · apply Ya1 e'
     refine q.to (o:=.push ⟨.row ps,i,t+1,e,ks++us⟩ p e b) ?_ on (by simp) (.push fr r.bkP)
     simp only [Yac,Ybj,Fr.on,Fr.nxt,hp']
theorem Yvk (TO:Yaf (T11 w s)) {ps:List Pt}(r:Rdy B R σ A l k ⟨.alt ps,i,t,h,ks⟩ b an av) (hp:ps.length < 1000) (hw:an≠none→t < ps.length) (hw0:t≤ps.length) (q:Ydu B R G cs σ A l k ⟨.alt ps,i,t,h,ks⟩ b an Q X) :
   Yaa (T11 w s) (d+2) X (.glob "of_choice") [.ref l,av] Q σ:=by
 refine r.fr.rec fun vs f1 f2 f3=>?_
 revert hw q
 apply r.ways
 · intro r hw q
   refine Yqu TO f1 hp (fun hn=>?_) (fun p hp'=>?_) hw0
   · refine q.to (o:=.pop (none,[]) b) ?_ .up (by simp) (.pop r.fresh r.bkU)
     simp only [Yac,Ybg,hn]
   · refine q.to (o:=.push ⟨.alt ps,i,t,h,ks⟩ p i b) ?_ .refl (Zl _) (.push r.fr r.bk)
     simp only [Yac,Ybg,hp']
 rotate_left
 · exact fun e us la us' r g h1 h2 h3 hw q=>Ytl TO (q.to (o:=.pop (some e,us) b) rfl .refl (Zl _) (.pop (g.keep Ybw) r.bkA))
 · intro us la r hw q
   have e0:∀ {o:Yas},σ.set l o=(σ.set k (.list vs)).set l o:=fun {o}=>by
     congr 1
     apply List.ext_getElem?
     intro j
     by_cases hj:k=j
     · rw [← hj,Zw (Zb.mp f2).1]; exact f2
     · rw [Zi hj]
   have on:∀ {y:Yas},On σ (l::k::R.own) (σ.set l y) (l::k::R.own):=.put (by simp)
   have fr:Ypq R.K (σ.set l (.inst "Frame" (frF (Pt.alt ps).v i (t+1:Nat) h k))) (l::k::A) ⟨.alt ps,i,t+1,h,ks⟩ l k :=
     ⟨vs,Zw (Zb.mp f1).1,by rw [Zi r.lk]; exact f2,f3.keep (.put (by simp))⟩
   have bk2:∀ {y:Yas},R.is (σ.set l y) (l::k::A) b:=fun {y}=>by rw [e0]; exact r.bkP
   refine Yvz TO f1 hp (fun σ' e hn=>?_) (fun σ' e p hp'=>?_) (hw (by simp))
   · apply Ya1 e
     refine q.to (o:=.pop (none,[]) b) ?_ (on.trans .up (by simp)) (by simp) (.pop ⟨_,[],rfl,fun hx=>by have:=r.hA _ hx; simp at this,Yae,rfl⟩ (R.keep (R.keep bk2 .up fun x hx=>Zbb (by rw [List.length_set]; exact r.hA x (r.own x hx))) Ybw fun zz zz=>rfl))
     simp only [Yac,Ybg,Fr.nxt,hn]
   · apply Ya1 e
     refine q.to (o:=.push ⟨.alt ps,i,t+1,h,ks⟩ p i b) ?_ on (by simp) (.push fr bk2)
     simp only [Yac,Ybg,Fr.nxt,hp']
theorem Yx8 (TO:Yaf (T11 w s)) {p:Pt}(r:Rdy B R σ A l k ⟨.nt p,i,t,h,ks⟩ b an av) (q:Ydu B R G cs σ A l k ⟨.nt p,i,t,h,ks⟩ b an Q X):Yaa (T11 w s) (d+2) X (.glob "of_not") [.ref l,av] Q σ:=by
 refine r.fr.rec fun vs f1 f2 f3=>?_
 revert q
 apply r.ways
 · exact fun r q=>Yt9 TO f1 (q.to rfl .refl (Zl _) (.push r.fr r.bk))
 rotate_left
 · exact fun e us la us' r zz h1 h2 h3 q=>Yva TO (q.to rfl .up (by simp) (.pop r.fresh r.bkU))
 · exact fun us la r q=>Yxy TO f1 (q.to rfl .up (by simp) (.pop r.fresh r.bkU))
theorem Yuf (TO:Yaf (T11 w s)) {p:Pt}(r:Rdy B R σ A l k ⟨.many p,i,t,h,ks⟩ b an av) (q:Ydu B R G cs σ A l k ⟨.many p,i,t,h,ks⟩ b an Q X):Yaa (T11 w s) (d+2) X (.glob "of_many") [.ref l,av] Q σ:=by
 refine r.fr.rec fun vs f1 f2 f3=>?_
 revert q
 apply r.ways
 · exact fun r q=>Ypd TO f1 (q.to rfl .refl (Zl _) (.push r.fr r.bk))
 · exact fun us la r q=>Yud TO f1 (q.to rfl .refl (Zl _) (.pop ⟨k,vs,rfl,r.hk,f2,f3.keep Ybw⟩ r.bkA))
 · intro e us la us' r zz h1 h2 h3 q
   by_cases he:e=h
   · rw [he] at q ⊢
     refine Ynv TO f1 (q.to (o:=.pop (some h,ks) b) ?_ .refl (Zl _) (.pop ⟨k,vs,rfl,r.hk,f2,f3.keep Ybw⟩ r.bkA))
     simp only [Yac,if_true]
   · refine Yrm TO f1 f2 h2 r.lk (fun e=>h1 (by simp [e])) (r.sz (la:=la) f3 h3) he fun σ' e'=>?_
     apply Ya1 e'
     refine q.to (o:=.push ⟨.many p,i,t,e,ks++us⟩ p e b) ?_ (.put2 (by simp) (by simp)) (by simp) (.push ⟨vs++us',Zw (by simp; exact (Zb.mp f1).1),?_,(f3.append h3).keep (.put2 (by simp) (by simp))⟩ r.bkP)
     · simp only [Yac,he,if_false,Fr.on]
     · rw [Zi r.lk,Zw (Zb.mp f2).1]
end
section
variable {w:World}{s:Shared}{d:Nat}{X:QX}{Q:QE}{σ:Hp}{rs:List (Str×Pt)}{g gb:Nat}
variable {cs:List Nat}{A:List Nat}{i t h l k m a b:Nat}{ks:List Kid}{mem:Mm}{an:Option (An Kid)}{av:V}
inductive Ygt (σ:Hp) (A:List Nat) (m a b:Nat) (mem:Mm):Prop where
 | mk (kvs:List ((Str×Int)×V)) (h1:σ[m]?=some (.inst "Memory" (mmF a b))) (h2:σ[a]?=some (.tdict kvs)) (h3:σ[b]?=some (.list (mem.order.map pV'))) (h4:Ycx σ A mem.kept kvs):Ygt σ A m a b mem
theorem Ygt.use {P:Prop}{σ:Hp}{A:List Nat}{m a b:Nat}{mem:Mm}(h:Ygt σ A m a b mem) (c:∀ (kvs:List ((Str×Int)×V)),σ[m]?=some (.inst "Memory" (mmF a b))→σ[a]?=some (.tdict kvs)→σ[b]?=some (.list (mem.order.map pV'))→Ycx σ A mem.kept kvs→P):P:=by
 obtain ⟨kvs,h1,h2,h3,h4⟩:=h
 exact c kvs h1 h2 h3 h4
theorem Ycx.got {P:Prop}{σ:Hp}{A:List Nat}{k:Kid}{e:Nat}{ks:List Kid}{xs:List (Kid×An Kid)}{kvs:List ((Str×Int)×V)}(h:Ycx σ A xs kvs) (hk:Ybp xs k=some (some e,ks)) (c:∀ la,(kvs.find? fun kv=>kv.1=(k.1,(k.2:Int))).map (·.2)=some (.tup [Yub (some e),.ref la])→la∉A→σ[la]?=some (.list (ks.map pV'))→P):P:=by
 rcases h.get (k:=k) with ⟨x1,zz⟩ | ⟨an2,v,x1,x2,la,vs,rfl,x3,x4,x5⟩
 · rw [hk] at x1; cases x1
 rw [hk] at x1; cases x1
 obtain rfl:=Yn7 x5
 exact c la x2 x3 x4
noncomputable def Ybc (m a b:Nat):Ymw Mm Kid where
 K:=Yg5
 own:=[m,a,b]
 is:=fun σ A mem=>Ygt σ A m a b mem
 keep:=fun h o e=>by
   obtain ⟨kvs,h1,h2,h3,h4⟩:=h
   exact ⟨kvs,(e m (by simp)).trans h1,(e a (by simp)).trans h2,(e b (by simp)).trans h3,h4.keep o⟩
theorem Yv3 (TO:Yaf (T11 w s)) {p:Pt}(hp:p.isLf=true) (hc:cs.length < 100000) (r:Rdy Ya0 (Ybc m a b) σ A l k ⟨p,i,t,h,ks⟩ mem an av) (q:Ydu Ya0 (Ybc m a b) (Yag rs) cs σ A l k ⟨p,i,t,h,ks⟩ mem an Q X) :
   Yaa (T11 w s) (d+3) X (.glob "of_sign") [.ref l,.str (S cs),.ref m] Q σ:=by
 obtain ⟨vs,f1,f2,f3⟩:=r.fr
 refine Ygt.use r.bk fun kvs h1 h2 h3 h4=>?_
 obtain ⟨M,hM⟩:=Ye2 (w:=w) (s:=s)
 exact Yob (ok:=True) (f:=.mth "Memory" "look") (σ₁:=σ) TO hp (fun k=>Yam.own h1 rfl hM.cls hM.look k) (fun q=>Yuh (d:=d+1) TO (q trivial)) (fun zz=>f1) hc (fun zz c hc' ht=>q.to (Ylf hp rfl hc' ht) .up (Zf▸Zy ..) (.pop r.fresh r.bkU)) fun zz hn=>q.to (Yn1 hp rfl hn) .up (Zf▸Zy ..) (.pop r.fresh r.bkU)
structure MmNe (σ:Hp) (A:List Nat) (l k m a b:Nat):Prop where
 ma:m≠a
 ab:a≠b
 bm:b≠m
 bA:b∈A
 aA:a∈A
 bl:b≠l
 bk:b≠k
theorem Rdy.ne {f:Fr Kid}(r:Rdy Ya0 (Ybc m a b) σ A l k f mem an av):MmNe σ A l k m a b:=Ygt.use r.bk fun kvs h1 h2 h3 h4 =>
 have bA:=r.own b (Zd _ (Zd _ (Zt ..)))
 ⟨(fun e=>by rw [e,h2] at h1; cases h1),(fun e=>by rw [e,h3] at h2; cases h2),(fun e=>by rw [e,h1] at h3; cases h3),bA,r.own a (Zd _ (Zt ..)),fun e=>r.hl (e▸bA),fun e=>r.hk (e▸bA)⟩
theorem Yyc:b∈l::k::(Ybc m a b).own:=Zd _ (Zd _ (Zd _ (Zd _ (Zt ..))))
theorem Yyf:a∈l::k::(Ybc m a b).own:=Zd _ (Zd _ (Zd _ (Zt ..)))
theorem Ytt {n:Str}(r:Rdy Ya0 (Ybc m a b) σ A l k ⟨.rule n,i,t,h,ks⟩ mem none av) (q:Ydu Ya0 (Ybc m a b) (Yag rs) cs σ A l k ⟨.rule n,i,t,h,ks⟩ mem none Q X) (hn:(rs.map (·.1)).Nodup) {x:Str×Pt}(hx:x∈rs) (hxn:x.1=n) (k0:Ybp mem.kept (n,i)=none):Q (.tup [.tup [x.2.v,.int i],.none]) (σ.set b (.list (mem.order.map pV'++[prV n i]))):=by
 subst hxn
 obtain ⟨vs,f1,f2,f3⟩:=r.fr
 refine Ygt.use r.bk fun kvs h1 h2 h3 h4=>?_
 have ne:=r.ne
 have o:On σ (l::k::A) (σ.set b (.list (mem.order.map pV'++[prV x.1 i]))) (l::k::A):=.put (Zd _ (Zd _ ne.bA))
 refine q.to (o:=.push ⟨.rule x.1,i,t,h,ks⟩ x.2 i ⟨mem.kept,mem.order++[(x.1,i)]⟩) ((Yqf (Option.map_eq_none_iff.mpr k0) rfl).trans (by rw [Ydj hn hx])) (.put Yyc) (Zr List.length_set.symm) ?_
 exact .push ⟨vs,by rw [Zi ne.bl]; exact f1,by rw [Zi ne.bk]; exact f2,f3.keep o⟩ ⟨kvs,by rw [Zi ne.bm]; exact h1,by rw [Zi (Ne.symm ne.ab)]; exact h2,by rw [Zw (Zb.mp h3).1,Zfc]; rfl,h4.keep o⟩
theorem Yqz (TO:Yaf (T11 w s)) (hn:(rs.map (·.1)).Nodup) {n:Str}(hG:GrT rs g gb σ) (hg:g∉A) (hgb:gb∉A) (hin:n∈rs.map (·.1)) (r:Rdy Ya0 (Ybc m a b) σ A l k ⟨.rule n,i,t,h,ks⟩ mem none av) (q:Ydu Ya0 (Ybc m a b) (Yag rs) cs σ A l k ⟨.rule n,i,t,h,ks⟩ mem none Q X) :
   Yaa (T11 w s) (d+4) X (.glob "of_rule") [.ref l,av,.ref g,.ref m] Q σ:=by
 obtain ⟨vs,f1,zz,zz⟩:=r.fr
 refine Ygt.use r.bk fun kvs h1 h2 h3 h4=>?_
 have ne:=r.ne
 have up:σ.length≤(σ++[Yas.list []]).length:=Zf▸Zy ..
 rw [show av=.none from r.ans]
 refine Yod TO hn f1 h1 h2 h3 (by rw [Zc]; exact szo (Za r.few.2.2.2 (by decide))) (hG.keep (A':=A) (.put ne.bA) hg hgb) ne.bl (fun hf x hx hxn=>?_) hin fun v hv=>?_
 · rcases h4.get (k:=(n,i)) with ⟨k0,zz⟩ | ⟨zz,zz,zz,k1,zz⟩
   · exact Ytt r q hn hx hxn k0
   · rw [hf] at k1; cases k1
 · rcases h4.get (k:=(n,i)) with ⟨zz,k0⟩ | ⟨x,u,k0,k1,la,us',rfl,k2,k3,k4⟩
   · rw [k0] at hv; cases hv
   · rw [k1] at hv
     have hv:=Zab hv
     have e:Yac (Yag rs) cs Ya0 ⟨.rule n,i,t,h,ks⟩ none mem=.pop (Yfd (n,i) x) mem:=Yl6 (congrArg (Option.map (Yfd (n,i))) k0)
     obtain ⟨x1,x2⟩:=x
     cases x1 with
     | none=>exact .inl ⟨la,hv.symm,q.to e .up up (.pop r.fresh r.bkU)⟩
     | some y=>exact .inr ⟨y,la,hv.symm,q.to e .up (Zf▸Zy ..) (.pop ⟨σ.length,_,rfl,fun hx=>Zub _ (r.hA _ hx),Yae,Ygs⟩ r.bkU)⟩
theorem Yra (TO:Yaf (T11 w s)) {n:Str}{x:An Kid}(r:Rdy Ya0 (Ybc m a b) σ A l k ⟨.rule n,i,t,h,ks⟩ mem (some x) av) (q:Ydu Ya0 (Ybc m a b) (Yag rs) cs σ A l k ⟨.rule n,i,t,h,ks⟩ mem (some x) Q X) :
   Yaa (T11 w s) (d+4) X (.glob "of_rule") [.ref l,av,.ref g,.ref m] Q σ:=by
 obtain ⟨vs,f1,zz,zz⟩:=r.fr
 refine Ygt.use r.bk fun kvs h1 h2 h3 h4=>?_
 have ne:=r.ne
 obtain ⟨la,us',e0,k1,k2,k3⟩:=r.ans
 have e:Yac (Yag rs) cs Ya0 ⟨.rule n,i,t,h,ks⟩ (some x) mem=.pop (Yfd (n,i) x) ⟨Ypp mem.kept (n,i) x,mem.order⟩:=rfl
 rw [e0]
 refine Yrh TO f1 h1 h2 k2 ne.ma (by rw [h4.length]; exact szo (Za r.few.2.2.1 (by decide))) (by rw [k3.length]; exact szo (Za (r.few.2.1 _ rfl) (by decide))) fun σ₁ e1=>?_
 have Ysn:σ₁.length=σ.length+1:=by rw [e1,List.length_set,Zf]; rfl
 have l0:σ.length≤σ₁.length:=Ysn▸Nat.le_succ _
 have o0:On σ (l::k::A) σ₁ A:=(show On σ (l::k::A) σ₁ (l::k::A) by rw [e1]; exact On.trans .up (.put (Zd _ (Zd _ ne.aA))) (Zf▸Zy ..)).trans Ybw l0
 have oq:On σ (l::k::(Ybc m a b).own) σ₁ (l::k::(Ybc m a b).own):=by rw [e1]; exact On.trans .up (.put Yyf) (Zf▸Zy ..)
 have la1:a≠σ.length:=fun e=>Zub _ (e▸r.hA _ ne.aA)
 have mm1:Ygt σ₁ A m a b ⟨Ypp mem.kept (n,i) x,mem.order⟩:=by
   refine ⟨_,?_,?_,?_,(h4.keep o0).set (k:=(n,i)) (v:=.tup [Yub x.1,.ref σ.length]) ⟨σ.length,us',rfl,fun hx=>Zub _ (r.hA _ hx),?_,k3.keep o0⟩⟩
   · rw [e1,Zi (Ne.symm ne.ma)]; exact Yab h1
   · rw [e1,Zw (by rw [Zf]; exact Nat.lt_succ_of_lt (r.hA _ ne.aA))]
   · rw [e1,Zi ne.ab]; exact Yab h3
   · rw [e1,Zi la1]; exact Yae
 have mm2:∀ {x:Yas},(Ybc m a b).is (σ₁++[x]) A _:=fun {x}=>(Ybc m a b).keep (b:=⟨Ypp mem.kept _ _,mem.order⟩) mm1 .up fun y hy=>Zbb (Zz (r.hA y (r.own y hy)) l0)
 have nf:σ₁.length∉A:=fun hx=>Zo.mpr l0 (r.hA _ hx)
 have up:∀ {x:Yas},σ.length≤(σ₁++[x]).length:=Za l0 (Zf▸Zy ..)
 obtain ⟨x1,x2⟩:=x
 cases x1 with
 | none=>exact .inl ⟨rfl,q.to e (oq.trans .up l0) up (.pop ⟨σ₁.length,[],rfl,nf,Yae,rfl⟩ mm2)⟩
 | some y=>exact .inr ⟨y,rfl,q.to e (oq.trans .up l0) up (.pop ⟨σ₁.length,_,rfl,nf,Yae,Ygs⟩ mm2)⟩
theorem Ywj (TO:Yaf (T11 w s)) (hn:(rs.map (·.1)).Nodup) {n:Str}(hG:GrT rs g gb σ) (hg:g∉A) (hgb:gb∉A) (hin:n∈rs.map (·.1)) (r:Rdy Ya0 (Ybc m a b) σ A l k ⟨.rule n,i,t,h,ks⟩ mem an av) (q:Ydu Ya0 (Ybc m a b) (Yag rs) cs σ A l k ⟨.rule n,i,t,h,ks⟩ mem an Q X) :
   Yaa (T11 w s) (d+4) X (.glob "of_rule") [.ref l,av,.ref g,.ref m] Q σ:=by
 cases an with
 | none=>exact Yqz TO hn hG hg hgb hin r q
 | some x=>exact Yra TO r q
end
section
variable {w:World}{s:Shared}{d:Nat}{X:QX}{Q:QE}{σ:Hp}{rs:List (Str×Pt)}{g gb m:Nat}{β κ:Type}{B:Bk β κ}{R:Ymw β κ}
variable {cs:List Nat}{A:List Nat}{l k:Nat}{b:β}{an:Option (An κ)}{av:V}{f:Fr κ}
structure Yk5 (T:Tp) (B:Bk β κ) (R:Ymw β κ) (rs:List (Str×Pt)) (g gb m:Nat):Prop where
 sgn:∀ {d X Q σ cs A p i t h l k ks b an av},p.isLf=true→cs.length < 100000→Rdy B R σ A l k ⟨p,i,t,h,ks⟩ b an av→Ydu B R (Yag rs) cs σ A l k ⟨p,i,t,h,ks⟩ b an Q X→Yaa T (d+3) X (.glob "of_sign") [.ref l,.str (S cs),.ref m] Q σ
 rul:∀ {d X Q σ cs A n i t h l k ks b an av},GrT rs g gb σ→g∉A→gb∉A→n∈rs.map (·.1)→Rdy B R σ A l k ⟨.rule n,i,t,h,ks⟩ b an av→Ydu B R (Yag rs) cs σ A l k ⟨.rule n,i,t,h,ks⟩ b an Q X→Yaa T (d+4) X (.glob "of_rule") [.ref l,av,.ref g,.ref m] Q σ
theorem Yn2 {x:Option (An κ)}{t n:Nat}(h:x≠none→t < n) (h0:x=none→t=0):t≤n:=by
 cases x with
 | none=>exact h0 rfl▸Zkb _
 | some y=>exact Zq (h fun e=>Yap e.symm)
theorem Yl8 (TO:Yaf (T11 w s)) (hB:Yk5 (T11 w s) B R rs g gb m) (hG:GrT rs g gb σ) (hg:g∉A) (hgb:gb∉A) (hc:cs.length < 100000) (hpc:Ynl (rs.map (·.1)) f.piece) (hw:an≠none→f.wait) (hw0:an=none→f.turn=0) (r:Rdy B R σ A l k f b an av) (q:Ydu B R (Yag rs) cs σ A l k f b an Q X) :
   Yaa (T11 w s) (d+5) X (.glob "stepped") [.ref l,av,.ref g,.str (S cs),.ref m] Q σ:=by
 refine (Yby (w:=w) (s:=s)).elim fun C hC=>?_
 obtain ⟨p,i,t,h,ks⟩:=f
 have few:=hpc.1.out.1
 have asks:=hpc.2
 have f1:∃ v,σ[l]?=some (.inst "Frame" (frF p.v i t h v)):=r.fr.rec fun vs f1 zz zz=>⟨_,f1⟩
 clear hpc
 revert hw hw0 r q few asks f1
 cases p with
 | row ps=>exact fun hw hw0 r q few asks f1=>f1.elim fun v f1=>Yaa.go TO rfl rfl<|Yad.of f1 rfl rfl hC.cls hC.piece<|Cal.mk<|Ywi (d:=d+2) TO r few hw (Yn2 hw hw0) q
 | alt ps=>exact fun hw hw0 r q few asks f1=>f1.elim fun v f1=>Yaa.go TO rfl rfl<|Yad.of f1 rfl rfl hC.cls hC.piece<|Cal.mk<|Yvk (d:=d+2) TO r few hw (Yn2 hw hw0) q
 | many p=>exact fun hw hw0 r q few asks f1=>f1.elim fun v f1=>Yaa.go TO rfl rfl<|Yad.of f1 rfl rfl hC.cls hC.piece<|Cal.mk<|Yuf (d:=d+2) TO r q
 | nt p=>exact fun hw hw0 r q few asks f1=>f1.elim fun v f1=>Yaa.go TO rfl rfl<|Yad.of f1 rfl rfl hC.cls hC.piece<|Cal.mk<|Yx8 (d:=d+2) TO r q
 | rule n=>exact fun hw hw0 r q few asks f1=>f1.elim fun v f1=>Yaa.go TO rfl rfl<|Yad.of f1 rfl rfl hC.cls hC.piece<|Cal.mk<|hB.rul (d:=d) hG hg hgb (asks n .here) r q
 | sign c=>exact fun hw hw0 r q few asks f1=>f1.elim fun v f1=>Yaa.go TO rfl rfl<|Yad.of f1 rfl rfl hC.cls hC.piece<|Cal.mk<|hB.sgn (d:=d+1) rfl hc r q
 | span c e=>exact fun hw hw0 r q few asks f1=>f1.elim fun v f1=>Yaa.go TO rfl rfl<|Yad.of f1 rfl rfl hC.cls hC.piece<|Cal.mk<|hB.sgn (d:=d+1) rfl hc r q
 | any=>exact fun hw hw0 r q few asks f1=>f1.elim fun v f1=>Yaa.go TO rfl rfl<|Yad.of f1 rfl rfl hC.cls hC.piece<|Cal.mk<|hB.sgn (d:=d+1) rfl hc r q
end
section
variable {w:World}{s:Shared}{d:Nat}{X:QX}{Q:QE}{σ:Hp}{rs:List (Str×Pt)}{g gb:Nat}{β κ:Type}{B:Bk β κ}{R:Ymw β κ}
noncomputable def Ye8 (K:Ysf κ) (σ:Hp) (A:List Nat):List (Nat×Nat)→List (Fr κ)→Prop
 | [],fs=>fs=[]
 | p::ls,fs=>∃ f r,fs=f::r∧Ypq K σ A f p.1 p.2∧Ye8 K σ A ls r
noncomputable def Yaq (ls:List (Nat×Nat)):List Nat:=ls.flatMap fun p=>[p.1,p.2]
noncomputable def Yys (an:Option (An κ)) (fr:List (Fr κ)):Prop:=match an with
 | some z1=>∀ f∈fr,f.wait
 | none=>match fr with
   | []=>True
   | f::r=>f.turn=0∧∀ f∈r,f.wait
theorem Ye8.length {K:Ysf κ}{σ:Hp}{A:List Nat}:∀ {ls:List (Nat×Nat)}{fs:List (Fr κ)},Ye8 K σ A ls fs→fs.length=ls.length
 | [],z1,h=>by cases h; rfl
 | z1::z2,z3,h=>by
   obtain ⟨f,r,rfl,zz,h2⟩:=h
   simp [Ye8.length h2]
theorem Ye8.keep {K:Ysf κ}{σ σ':Hp}{A A':List Nat}(o:On σ A σ' A'):∀ {ls:List (Nat×Nat)}{fs:List (Fr κ)},Ye8 K σ A ls fs→(∀ x∈Yaq ls,σ'[x]?=σ[x]?)→Ye8 K σ' A' ls fs
 | [],z1,h,z2=>h
 | p::ls,z1,h,e=>by
   obtain ⟨f,r,rfl,h1,h2⟩:=h
   exact ⟨f,r,rfl,h1.keep o (e _ (by simp [Yaq])) (e _ (by simp [Yaq])),Ye8.keep o h2 fun x hx=>e x (by simp only [Yaq,List.flatMap_cons]; exact Zyb _ hx)⟩
theorem Ye8.tl {K:Ysf κ}{σ:Hp}{A:List Nat}{p:Nat×Nat}{ls:List (Nat×Nat)}{f:Fr κ}{r:List (Fr κ)}(h:Ye8 K σ A (p::ls) (f::r)):Ye8 K σ A ls r:=h.elim fun f' h=>h.elim fun r' h=>(List.cons.inj h.1).2▸h.2.2
theorem Yq9 {n:Nat}:seqIndex? (-1) (n+[V.none].length)=some n:=by
 unfold seqIndex?
 simp
 lia
noncomputable def Ywu (ns:List Str) (q:Pt):Out β κ→Prop
 | .push f p z1 z2=>f.wait∧f.piece=q∧Ynl ns p
 | z1=>True
theorem Ype {cs:List Nat}{f:Fr κ}{an:Option (An κ)}{b:β}(hp:Ynl (rs.map (·.1)) f.piece) (hr:∀ n∈rs.map (·.1),Ynl (rs.map (·.1)) (Yag rs n)):Ywu (rs.map (·.1)) f.piece (Yac (Yag rs) cs B f an b):=by
 obtain ⟨q,j,t,e,ks⟩:=f
 have row:∀ {ps:List Pt}{F:Fr κ},F.piece=.row ps→Ynl (rs.map (·.1)) (.row ps)→Ywu (rs.map (·.1)) (.row ps) (Ybj ps F b):=fun {ps F} hF h=>by
   unfold Ybj
   cases hg:ps[F.turn]? with
   | some p=>exact ⟨by unfold Fr.wait; rw [hF]; exact (Zb.mp hg).1,hF,h.kid (Zn hg)⟩
   | none=>exact trivial
 have alt:∀ {ps:List Pt}{F:Fr κ},F.piece=.alt ps→Ynl (rs.map (·.1)) (.alt ps)→Ywu (rs.map (·.1)) (.alt ps) (Ybg ps F b):=fun {ps F} hF h=>by
   unfold Ybg
   cases hg:ps[F.turn]? with
   | some p=>exact ⟨by unfold Fr.wait; rw [hF]; exact (Zb.mp hg).1,hF,h.kid (Zn hg)⟩
   | none=>exact trivial
 have leaf:∀ {p q:Pt}{F:Fr κ},Ywu (rs.map (·.1)) p (Yau cs B q F b):=fun {p q F}=>by
   unfold Yau
   cases B.look b with
   | none=>exact trivial
   | some b' =>
     dsimp only
     cases cs[F.place]? with
     | none=>exact trivial
     | some c =>
       dsimp only
       cases q.takesC c with
       | false=>exact trivial
       | true=>exact trivial
 cases q with
 | row ps =>
   revert an
   exact @an3 κ _ (row rfl hp) (fun us=>trivial) fun e' us=>row rfl hp
 | alt ps =>
   revert an
   exact @an3 κ _ (alt rfl hp) (fun us=>alt rfl hp) fun e' us=>trivial
 | many x =>
   have hx:=hp.kid (Zj.mpr rfl)
   revert an
   refine @an3 κ _ ⟨trivial,rfl,hx⟩ (fun us=>trivial) fun e' us=>?_
   show Ywu _ _ (if e'=e then _ else _)
   by_cases he:e'=e
   · rw [if_pos he]; exact trivial
   · rw [if_neg he]; exact ⟨trivial,rfl,hx⟩
 | nt x =>
   revert an
   exact @an3 κ _ ⟨trivial,rfl,hp.kid (Zj.mpr rfl)⟩ (fun us=>trivial) fun e' us=>trivial
 | rule n =>
   cases an with
   | some x=>exact trivial
   | none =>
     simp only [Yac]
     cases B.known b n j with
     | some x=>exact trivial
     | none =>
       dsimp only
       cases B.begun b n j with
       | none=>exact trivial
       | some b'=>exact ⟨trivial,rfl,hr n (hp.2 n .here)⟩
 | sign c=>exact leaf
 | span c e=>exact leaf
 | any=>exact leaf
theorem Ycd {l k lf:Nat}{ls:List (Nat×Nat)}{o:List Nat}:Yaq ((l,k)::ls)++lf::o=l::k::(Yaq ls++lf::o):=by simp [Yaq]
structure Wk (R:Ymw β κ) (rs:List (Str×Pt)) (lf:Nat) (σ:Hp) (st:Ms β κ) (ls:List (Nat×Nat)) (av:V) (σ':Hp):Prop where
 fl:σ'[lf]?=some (.list (ls.map fun p=>V.ref p.1).reverse)
 frs:Ye8 R.K σ' (Yaq ls++lf::R.own) ls st.fr
 an:AnO R.K σ' (Yaq ls++lf::R.own) st.an av
 bk:R.is σ' (Yaq ls++lf::R.own) st.bk
 nd:(Yaq ls++lf::R.own).Nodup
 lt:∀ x∈Yaq ls++lf::R.own,x < σ'.length
 pc:∀ f∈st.fr,Ynl (rs.map (·.1)) f.piece
 wt:Yys st.an st.fr
 on:On σ R.own σ' (Yaq ls++lf::R.own)
 len:σ.length≤σ'.length
section
variable {lf l k:Nat}{f:Fr κ}{r:List (Fr κ)}{an:Option (An κ)}{b:β}{ls:List (Nat×Nat)}{av:V}{σ' σ₂:Hp}
theorem Wk.init {name:Str}{i:Nat}(hnd:R.own.Nodup) (hlt:∀ x∈R.own,x < σ.length) (hm:R.is σ R.own b) (hin:name∈rs.map (·.1)):Wk R rs (σ.length+2) σ ⟨[.new (.rule name) i],none,b⟩ [(σ.length,σ.length+1)] .none (σ++[.inst "Frame" (frF (Pt.rule name).v i 0 i (σ.length+1)),.list []]++[.list [.ref σ.length]]):=by
 have new2:∀ {k:Nat},σ.length+k∉R.own:=fun hx=>absurd (hlt _ hx) (Zo.mpr (Zy ..))
 have m3:∀ {P:Prop}{x:Nat},x∈Yaq [(σ.length,σ.length+1)]++(σ.length+2)::R.own→(∀ k,k < 3→x=σ.length+k→P)→(x∈R.own→P)→P:=fun hx c1 c2=>(Zg.mp hx).elim (c1 0 (by decide)) fun hx=>(Zg.mp hx).elim (c1 1 (by decide)) fun hx=>(Zg.mp hx).elim (c1 2 (by decide)) c2
 have on0:∀ {x y z:Yas},On σ R.own (σ++[x,y]++[z]) (Yaq [(σ.length,σ.length+1)]++(σ.length+2)::R.own):=⟨fun zz zz e zz=>Yab (Yab e),fun x hx hl=>m3 hx (fun k zz e=>absurd hl (e▸Zo.mpr (Zy ..))) id⟩
 have at_:∀ (k:Nat) {a b c o:Yas},[a,b,c][k]?=some o→(σ++[a,b]++[c])[σ.length+k]?=some o:=fun k {a b c o} h=>by rw [Ze,Ztc (Zy ..),Nat.add_sub_cancel_left]; exact h
 have ne:∀ {a b:Nat},a≠b→σ.length+a≠σ.length+b:=fun h e=>h (Nat.add_left_cancel e)
 have no:∀ {q:Pt},¬ q∈(Pt.rule name).kids:=fun hq=>by rw [Pt.kids8] at hq; exact absurd hq Zdc
 refine ⟨at_ 2 rfl,⟨_,_,rfl,⟨[],at_ 0 rfl,at_ 1 rfl,rfl⟩,rfl⟩,rfl,R.keep hm on0 fun x hx=>by rw [Ze]; exact Zbb (hlt x hx),?_,fun x hx=>?_,fun f hf=>?_,⟨rfl,fun f hf=>absurd hf Zdc⟩,on0,Ze σ _ _▸Zf▸Zy ..⟩
 · exact Zxc.mpr ⟨fun h=>(Zg.mp h).elim (ne (a:=0) (b:=1) (by decide)) fun h=>(Zg.mp h).elim (ne (a:=0) (b:=2) (by decide)) (new2 (k:=0)),Zxc.mpr ⟨fun h=>(Zg.mp h).elim (ne (a:=1) (b:=2) (by decide)) new2,Zxc.mpr ⟨new2,hnd⟩⟩⟩
 · rw [Ze,Zf]
   exact m3 hx (fun k hk e=>Zk (Zr e) (Nat.add_lt_add_left hk _)) fun hx=>Nat.lt_add_right _ (hlt x hx)
 · rw [Zj.mp hf]
   exact ⟨⟨show (Pt.rule name).kids.length < 1000 by rw [Pt.kids8]; decide,fun q hq=>absurd hq no⟩,fun n hn=>(Pt.asks_kids (show (Pt.rule name).Asks n from hn)).elim (fun e=>by cases e; exact hin) fun hh=>hh.elim fun q hq=>absurd hq.1 no⟩
theorem Wk.done {a:An κ}(W:Wk R rs lf σ ⟨[],some a,b⟩ [] av σ'):Yjn R.K σ' R.own a av∧R.is σ' R.own b∧On σ R.own σ' R.own:=by
 have lo:On σ' (Yaq []++lf::R.own) σ' R.own:=.less fun y hy=>Zd _ hy
 exact ⟨Yjn.keep lo W.an,R.keep W.bk lo fun zz zz=>rfl,W.on.trans lo W.len⟩
variable (W:Wk R rs lf σ ⟨f::r,an,b⟩ ((l,k)::ls) av σ')
include W
theorem Wk.rdy (few:Yeq B f an b):Rdy B R σ' (Yaq ls++lf::R.own) l k f b an av:=by
 have nd:=W.nd
 have lt:=W.lt
 obtain ⟨zz,zz,e,hf,zz⟩:=W.frs
 cases e
 have han:=W.an
 have bk:=W.bk
 rw [Ycd] at nd lt hf han bk
 have nd2:=Zxc.mp nd
 exact ⟨hf,bk,han,few,(Zxc.mp nd2.2).1,fun h=>nd2.1 (Zd _ h),fun x hx=>Zyb _ (Zd _ hx),fun x hx=>lt x (Zd _ (Zd _ hx))⟩
theorem Wk.out {g:Nat}(hg:g∉R.own) (hl:g < σ.length):g∉Yaq ls++lf::R.own:=fun h=>hg (W.on.live g (by rw [Ycd]; exact Zd _ (Zd _ h)) hl)
theorem Wk.waits:(an≠none→f.wait)∧(an=none→f.turn=0)∧∀ x∈r,x.wait:=by
 have wt:=W.wt
 cases an with
 | none=>exact ⟨fun e=>absurd rfl e,fun zz=>wt.1,wt.2⟩
 | some x=>exact ⟨fun zz=>wt f (Zt ..),(by intros; contradiction),fun y hy=>wt y (Zd _ hy)⟩
theorem Wk.kept (o:On σ' (l::k::R.own) σ₂ (l::k::R.own)):On σ' (l::k::(Yaq ls++lf::R.own)) σ₂ (l::k::(Yaq ls++lf::R.own))∧(∀ x∈Yaq ls,σ₂[x]?=σ'[x]?)∧σ₂[lf]?=σ'[lf]?∧(∀ x∈Yaq ls,lf≠x)∧(∀ x∈R.own,lf≠x)∧lf≠l∧lf≠k:=by
 have nd:=W.nd
 have lt:=W.lt
 rw [Ycd] at nd lt
 have nd2:=Zxc.mp nd
 have nd3:=Zxc.mp nd2.2
 have nd4:=List.nodup_append.mp nd3.2
 have hln:l∉Yaq ls++lf::R.own:=fun h=>nd2.1 (Zd _ h)
 have same:∀ x∈Yaq ls++[lf],σ₂[x]?=σ'[x]?:=fun x hx=>by
   have hA:x∈Yaq ls++lf::R.own:=by
     rcases Zm.mp hx with h | h
     · exact Zxb _ h
     · exact Zyb _ (Zj.mp h▸Zt ..)
   have hx':x∉l::k::R.own:=fun h=>by
     rcases Zg.mp h with h | h
     · exact hln (h▸hA)
     · rcases Zg.mp h with h | h
       · exact nd3.1 (h▸hA)
       · rcases Zm.mp hx with q | q
         · exact nd4.2.2 x q x (Zd _ h) rfl
         · exact (Zxc.mp nd4.2.1).1 (Zj.mp q▸h)
   have hl:=lt x (Zd _ (Zd _ hA))
   rw [Zp hl]
   exact o.keep _ _ (Zp hl) hx'
 refine ⟨⟨fun x y e h=>o.keep x y e fun hq=>h ?_,fun zz h zz=>h⟩,fun x hx=>same x (Zxb _ hx),same lf (Zyb _ (Zj.mpr rfl)),fun x hx e=>nd4.2.2 x hx lf (Zt ..) e.symm,fun x hx e=>(Zxc.mp nd4.2.1).1 (e▸hx),fun e=>hln (e▸Zyb _ (Zt ..)),fun e=>nd3.1 (e▸Zyb _ (Zt ..))⟩
 rcases Zg.mp hq with rfl | hq
 · exact Zt ..
 · rcases Zg.mp hq with rfl | hq
   · exact Zd _ (Zt ..)
   · exact Zd _ (Zd _ (Zyb _ (Zd _ hq)))
theorem Wk.pop {a':An κ}{b':β}{av':V}(o:On σ' (l::k::R.own) σ₂ (l::k::R.own)) (hl:σ'.length≤σ₂.length) (h1:Yjn R.K σ₂ (Yaq ls++lf::R.own) a' av') (h2:R.is σ₂ (Yaq ls++lf::R.own) b'):Wk R rs lf σ ⟨r,some a',b'⟩ ls av' (σ₂.set lf (.list (ls.map fun p=>V.ref p.1).reverse)):=by
 refine Yyk (W.kept o) fun k1 k2 k3 k4 k5 k6 k7=>?_
 have nd:=W.nd
 have lt:=W.lt
 have on:=W.on
 have hrs:=W.frs.tl
 rw [Ycd] at nd lt on hrs
 have hlA:lf∈Yaq ls++lf::R.own:=Zyb _ (Zt ..)
 have o2:On σ' (l::k::(Yaq ls++lf::R.own)) (σ₂.set lf (.list (ls.map fun p=>V.ref p.1).reverse)) (Yaq ls++lf::R.own):=(k1.trans Ybw hl).trans (.put hlA) hl
 refine ⟨Zw (Zz (lt lf (Zd _ (Zd _ hlA))) hl),hrs.keep o2 fun x hx=>?_,Yjn.keep (.put hlA) h1,R.keep h2 (.put hlA) fun x hx=>Zi (k5 x hx),(Zxc.mp (Zxc.mp nd).2).2,fun x hx=>?_,fun y hy=>W.pc y (Zd _ hy),W.waits.2.2,on.trans o2 W.len,by rw [List.length_set]; exact Za W.len hl⟩
 · rw [Zi (k4 x hx)]; exact k2 x hx
 · rw [List.length_set]; exact Zz (lt x (Zd _ (Zd _ hx))) hl
theorem Wk.push {f':Fr κ}{p:Pt}{i:Nat}{b':β}(o:On σ' (l::k::R.own) σ₂ (l::k::R.own)) (hl:σ'.length≤σ₂.length) (h1:Ypq R.K σ₂ (l::k::(Yaq ls++lf::R.own)) f' l k) (h2:R.is σ₂ (l::k::(Yaq ls++lf::R.own)) b') (sp1:f'.wait) (sp2:f'.piece=f.piece) (sp3:Ynl (rs.map (·.1)) p) :
   Wk R rs lf σ ⟨.new p i::f'::r,none,b'⟩ ((σ₂.length,σ₂.length+1)::(l,k)::ls) .none ((σ₂++[Yas.inst "Frame" (frF p.v i 0 i (σ₂.length+1)),.list []]).set lf (.list ((((l,k)::ls).map fun p=>V.ref p.1).reverse++[V.ref σ₂.length]))):=by
 refine Yyk (W.kept o) fun k1 k2 k3 k4 k5 k6 k7=>?_
 have nd:=W.nd
 have lt:=W.lt
 have on:=W.on
 have hrs:=W.frs.tl
 rw [Ycd] at nd lt on hrs
 have hlA:lf∈Yaq ls++lf::R.own:=Zyb _ (Zt ..)
 have lt2:∀ x∈l::k::(Yaq ls++lf::R.own),x < σ₂.length:=fun x hx=>Zz (lt x hx) hl
 have hlf:=lt2 lf (Zd _ (Zd _ hlA))
 have up:∀ {u v y:Yas} x,x < σ₂.length→lf≠x→((σ₂++[u,v]).set lf y)[x]?=σ₂[x]?:=fun {u v y} x hx hne=>by
   rw [Zi hne]; exact Zbb hx
 have o2:∀ {u v y:Yas},On σ₂ (l::k::(Yaq ls++lf::R.own)) ((σ₂++[u,v]).set lf y) (σ₂.length::(σ₂.length+1)::l::k::(Yaq ls++lf::R.own)):=fun {u v y}=>⟨fun x o e hx=>by
     rw [up x (Zb.mp e).1 (fun q=>hx (q▸Zd _ (Zd _ hlA)))]; exact e,fun x hx hl=>by
     exact (Zg.mp hx).elim (fun e=>absurd hl (e▸Zub _)) fun hx=>(Zg.mp hx).elim (fun e=>absurd hl (e▸Zo.mpr (Nat.le_succ _))) id⟩
 have e2:Yaq ((σ₂.length,σ₂.length+1)::(l,k)::ls)++lf::R.own=σ₂.length::(σ₂.length+1)::l::k::(Yaq ls++lf::R.own):=by rw [Ycd,Ycd]
 refine ⟨?_,?_,rfl,?_,?_,?_,fun y hy=>?_,⟨rfl,fun y hy=>?_⟩,?_,?_⟩
 · rw [Zw (by rw [Zf]; exact Nat.lt_add_right _ hlf),List.map_cons (l:=(l,k)::ls),List.reverse_cons]
 · rw [e2]
   refine ⟨_,_,rfl,⟨[],?_,?_,rfl⟩,⟨_,_,rfl,h1.keep o2 (up l (lt2 l (Zt ..)) k6) (up k (lt2 k (Zd _ (Zt ..))) k7),hrs.keep (k1.trans o2 hl) fun x hx=>?_⟩⟩
   · rw [Zi (Znc hlf)]; exact Ygj
   · rw [Zi (Znc (Nat.lt_succ_of_lt hlf))]; exact Yh3
   · rw [up x (lt2 x (Zd _ (Zd _ (Zxb _ hx)))) (k4 x hx)]; exact k2 x hx
 · rw [e2]
   exact R.keep h2 o2 fun x hx=>up x (lt2 x (Zd _ (Zd _ (Zyb _ (Zd _ hx))))) (k5 x hx)
 · rw [e2]
   refine Zxc.mpr ⟨fun hx=>?_,Zxc.mpr ⟨fun hx=>?_,nd⟩⟩
   · rcases Zg.mp hx with e | hx
     · exact absurd e (Znc (Zs _))
     · exact Zub _ (lt2 _ hx)
   · exact absurd (lt2 _ hx) (Zo.mpr (Nat.le_succ _))
 · rw [e2]
   intro x hx
   rw [List.length_set,Zf]
   exact (Zg.mp hx).elim (fun e=>Zk (Zr e) (Nat.lt_add_of_pos_right (show 0 < 2 by decide))) fun hx=>(Zg.mp hx).elim (fun e=>Zk (Zr e) (Nat.add_lt_add_left (show 1 < 2 by decide) _)) fun hx=>Nat.lt_add_right _ (lt2 x hx)
 · exact (Zg.mp hy).elim (fun e=>e▸sp3) fun hy=>(Zg.mp hy).elim (fun e=>e▸sp2.symm▸W.pc f (Zt ..)) fun hy=>W.pc y (Zd _ hy)
 · exact (Zg.mp hy).elim (fun e=>e▸sp1) (W.waits.2.2 y)
 · rw [e2]; exact on.trans (k1.trans o2 hl) W.len
 · rw [List.length_set,Zf]; exact Za W.len (Nat.le_add_right_of_le hl)
end
inductive Jw (B:Bk β κ) (R:Ymw β κ) (P:Option (An κ×β)→Prop) (rs:List (Str×Pt)) (cs:List Nat) (g m lf:Nat) (σ:Hp) (n:Nat) (ρ:Loc) (σ':Hp):Prop where
 | mk (st:Ms β κ) (ls:List (Nat×Nat)) (av:V) (fin:Fin (Yag rs) cs B P n st) (has:Has ρ [("grammar",.ref g),("text",.str (S cs)),("book",.ref m),("frames",.ref lf),("answer",av)]) (w:Wk R rs lf σ st ls av σ'):Jw B R P rs cs g m lf σ n ρ σ'
inductive Trn (B:Bk β κ) (R:Ymw β κ) (P:Option (An κ×β)→Prop) (rs:List (Str×Pt)) (cs:List Nat) (lf l:Nat) (σ:Hp) (n:Nat) (σ₂:Hp):V→Prop where
 | push (p:Pt) (i:Nat) (st:Ms β κ) (ls:List (Nat×Nat)) (us:List V) (m:Nat) (hm:m < n) (fin:Fin (Yag rs) cs B P m st) (hf:σ₂[lf]?=some (.list us)) (hz:us.length≤5000001) (w:Wk R rs lf σ st ls .none ((σ₂++[Yas.inst "Frame" (frF p.v i 0 i (σ₂.length+1)),.list []]).set lf (.list (us++[V.ref σ₂.length])))):Trn B R P rs cs lf l σ n σ₂ (.tup [.tup [p.v,.int i],.none])
 | pop (st:Ms β κ) (ls:List (Nat×Nat)) (us:List V) (m:Nat) (av:V) (hm:m < n) (fin:Fin (Yag rs) cs B P m st) (hf:σ₂[lf]?=some (.list (us++[.ref l]))) (hz:us.length≤5000000) (w:Wk R rs lf σ st ls av (σ₂.set lf (.list us))):Trn B R P rs cs lf l σ n σ₂ (.tup [.none,av])
theorem Wk.turn {cs:List Nat}{P:Option (An κ×β)→Prop}{lf l k n:Nat}{f:Fr κ}{r:List (Fr κ)}{an:Option (An κ)}{b:β}{ls:List (Nat×Nat)}{av v:V}{σ' σ₂:Hp}(hg:Yan rs) (W:Wk R rs lf σ ⟨f::r,an,b⟩ ((l,k)::ls) av σ') (fin:Fin (Yag rs) cs B P n ⟨f::r,an,b⟩) (o:On σ' (l::k::R.own) σ₂ (l::k::R.own)) (hl:σ'.length≤σ₂.length) (sr:Ym4 R σ₂ (Yaq ls++lf::R.own) l k (Yac (Yag rs) cs B f an b) v):Trn B R P rs cs lf l σ n σ₂ v:=by
 have hr:=fin.inv.1
 have hfin:=fin.inv.2.2
 have hz:ls.length≤5000000:=W.frs.tl.length▸hr
 have fl:σ₂[lf]?=some (.list ((ls.map fun p=>V.ref p.1).reverse++[.ref l])):=by rw [(W.kept o).2.2.1,W.fl,List.map_cons,List.reverse_cons]
 have sp:=Ype (B:=B) (cs:=cs) (an:=an) (b:=b) (W.pc f (Zt ..)) fun n hn=>by
   obtain ⟨y,hy,rfl⟩:=Zsb.mp hn
   rw [Ydj hg.nodup hy]
   exact ⟨(hg.all y hy).few,(hg.all y hy).asks⟩
 have hfin:Yyz (Yag rs) cs B P n r (Yac (Yag rs) cs B f an b):=hfin
 clear fin
 generalize Yac (Yag rs) cs B f an b=out at sr sp hfin
 cases sr with
 | push h1 h2 =>
   obtain ⟨m,hm,hf⟩:=hfin
   refine .push _ _ _ _ ((((l,k)::ls).map fun p=>V.ref p.1).reverse) m hm hf (fl.trans (by rw [List.map_cons,List.reverse_cons])) (by rw [Zec,Zc]; exact Zwb hz) (W.push o hl h1 h2 sp.1 sp.2.1 sp.2.2)
 | pop h1 h2 =>
   obtain ⟨m,hm,hf⟩:=hfin
   exact .pop _ _ _ m _ hm hf fl (by rw [Zec,Zc]; exact hz) (W.pop o hl h1 h2)
theorem Wk.split {P0:Prop}{cs:List Nat}{P:Option (An κ×β)→Prop}{lf n:Nat}{st:Ms β κ}{ls:List (Nat×Nat)}{av:V}{σ':Hp}(W:Wk R rs lf σ st ls av σ') (fin:Fin (Yag rs) cs B P n st)
   (c0:∀ a b',P (some (a,b'))→Yjn R.K σ' R.own a av→R.is σ' R.own b'→On σ R.own σ' R.own→σ'[lf]?=some (.list [])→P0)
   (c1:∀ l k f r an b ls',Wk R rs lf σ ⟨f::r,an,b⟩ ((l,k)::ls') av σ'→Fin (Yag rs) cs B P n ⟨f::r,an,b⟩→ls'.length≤5000000→σ'[lf]?=some (.list ((ls'.map fun p=>V.ref p.1).reverse++[.ref l]))→P0):P0:=by
 obtain ⟨fr,an,bk⟩:=st
 cases ls with
 | nil =>
   cases W.frs
   refine fin.inv.elim fun a h=>?_
   have ha:=h.1
   cases ha
   exact c0 a bk h.2 W.done.1 W.done.2.1 W.done.2.2 W.fl
 | cons p ls =>
   refine W.frs.elim fun f h=>h.elim fun r h'=>?_
   have e:=h'.1
   cases e
   exact c1 p.1 p.2 f r an bk ls W fin (h'.2.2.length▸fin.inv.1) (by rw [W.fl,List.map_cons,List.reverse_cons])
theorem Trn.use {P0:V→Prop}{cs:List Nat}{P:Option (An κ×β)→Prop}{lf l n:Nat}{σ₂:Hp}{v:V}(h:Trn B R P rs cs lf l σ n σ₂ v)
   (c1:∀ (p:Pt) (i:Nat) (st:Ms β κ) (ls:List (Nat×Nat)) (us:List V) (m:Nat),m < n→Fin (Yag rs) cs B P m st→σ₂[lf]?=some (.list us)→us.length≤5000001→Wk R rs lf σ st ls .none ((σ₂++[Yas.inst "Frame" (frF p.v i 0 i (σ₂.length+1)),.list []]).set lf (.list (us++[V.ref σ₂.length])))→P0 (.tup [.tup [p.v,.int i],.none]))
   (c2:∀ (st:Ms β κ) (ls:List (Nat×Nat)) (us:List V) (m:Nat) (av:V),m < n→Fin (Yag rs) cs B P m st→σ₂[lf]?=some (.list (us++[.ref l]))→us.length≤5000000→Wk R rs lf σ st ls av (σ₂.set lf (.list us))→P0 (.tup [.none,av])):P0 v :=
 h.rec (fun p i st ls us m a b c d e=>c1 p i st ls us m a b c d e) fun st ls us m av a b c d e=>c2 st ls us m av a b c d e
theorem Yid (TO:Yaf (T11 w s)) {cs:List Nat}{m i:Nat}{b:β}{name:Str}{P:Option (An κ×β)→Prop}(hB:Yk5 (T11 w s) B R rs g gb m) (hg:Yan rs) (hG:GrT rs g gb σ) (hga:g∉R.own) (hgb:gb∉R.own) (hnd:R.own.Nodup) (hlt:∀ x∈R.own,x < σ.length) (hc:cs.length < 100000) (hm:R.is σ R.own b) (hin:name∈rs.map (·.1))
   (hfin:∃ n,Fin (Yag rs) cs B P n ⟨[.new (.rule name) i],none,b⟩) (hX:∀ σ',P none→On σ R.own σ' R.own→σ.length≤σ'.length→X "TooLong" σ')
   (q:∀ an b' av σ',P (some (an,b'))→Yjn R.K σ' R.own an av→R.is σ' R.own b'→On σ R.own σ' R.own→σ.length≤σ'.length→Q av σ') :
   Yaa (T11 w s) (d+7) X (.glob "worked") [.ref g,.str (S cs),.ref m,.str name,.int i] Q σ:=by
 refine Yaa.go TO rfl rfl<|hfin.elim fun n hfin=>Cal.mk<|Ykq (d:=d+3) (pv:=(Pt.rule name).v) TO ?_
 refine Stx.mk<|Yba.while (Jw B R P rs cs g m (σ.length+2) σ) n ⟨_,_,_,hfin,⟨rfl,rfl,rfl,congrArg (fun n=>some (V.ref n)) (by rw [Zf]; rfl),rfl,trivial⟩,Wk.init hnd hlt hm hin⟩ ?_
 refine fun n ρ' σ' hJ=>hJ.rec fun st ls av fin has W=>?_
 apply Has.on has
 have gl:g < σ.length∧gb < σ.length:=hG.rec fun zz zz zz h1 h2=>⟨(Zb.mp h1).1,(Zb.mp h2).1⟩
 generalize σ.length+2=lf at W
 refine W.split fin (fun a b' hp ha hm' ho hfl=>Yej TO rfl 40 10 _ _ _<|tvc.of (b:=false) (Yb2 hfl (by decide))<|Yio (by decide)<|q _ _ _ _ hp ha hm' ho W.len) fun l k f r an bk ls' W fin ll fl'=>?_
 refine Yej TO rfl 40 10 _ _ _<|tvc.of (b:=true) (Yct fl' (by rw [Zf,Zec,Zc]; exact Zk (Zwb ll) (by decide)) (by simp)) ?_
 refine Yfr rfl ?_
 refine Ybd TO rfl 60 _ _ _ _ ?_
 refine Itm.list (j:=ls'.length) (v:=.ref l) fl' (by rw [Zf,Zec,Zc]; exact Yq9) (by rw [Ztc (by rw [Zec,Zc]; exact Zl _),Zec,Zc,Nat.sub_self]; rfl) ⟨by decide,by decide⟩ ?_
 refine Cal.mk<|Yl8 (d:=d+1) TO hB (hG.keep W.on hga hgb) (W.out hga gl.1) (W.out hgb gl.2) hc (W.pc f (Zt ..)) W.waits.1 W.waits.2.1 (W.rdy fin.inv.2.1) ⟨fun v σ₂ o hl₂ sr=>?_,fun σ₂ o hl₂ hs=>?_⟩
 · apply Trn.use (W.turn hg fin o hl₂ sr)
   · exact fun p i st ls us mm hmm fin' hf hz w'=>Cmp.isN (r:=false) rfl<|Yam.append hf<|Cal.mk<|Ykq (d:=d+3) TO<|Cal.mk<|Yaa.append (Yab hf) (szo (Za hz (by decide))) ⟨mm,hmm,⟨st,ls,.none,fin',⟨rfl,rfl,rfl,rfl,rfl,trivial⟩,w'⟩⟩
   · exact fun st ls us mm av' hmm fin' hf hz w'=>Cmp.isN (r:=true) rfl<|Yam.pop hf<|Cal.mk<|Yaa.pop hf (by rw [sizeLine_eq]; exact Zk hz (by decide)) ⟨mm,hmm,⟨st,ls,av',fin',⟨rfl,rfl,rfl,rfl,rfl,trivial⟩,w'⟩⟩
 · have on:=W.on
   rw [Ycd] at on
   have hq:=fin.inv.2.2
   rw [show Yac (Yag rs) cs B f an bk=.stop from hs] at hq
   exact hX _ hq (on.trans ((W.kept o).1.trans (.less fun x hx=>Zd _ (Zd _ (Zyb _ (Zd _ hx)))) hl₂) W.len) (Za W.len hl₂)
end
section
variable {w:World}{s:Shared}{d:Nat}{X:QX}{Q:QE}{σ:Hp}{rs:List (Str×Pt)}{g gb:Nat}
theorem Yef (TO:Yaf (T11 w s)) (hn:(rs.map (·.1)).Nodup) (hG:GrT rs g gb σ) {cs:List Nat}{x:Str}{i:Int}(hc:cs.length < 100000) (q:x∈rs.map (·.1)→0≤i→i≤cs.length→Q .none σ) (qx:x∉rs.map (·.1)→X "NoRule" σ) (qy:x∈rs.map (·.1)→(i < 0∨cs.length < i)→X "OutOfPlace" σ) :
   Yaa (T11 w s) (d+3) X (.glob "need_place") [.ref g,.str (S cs),.str x,.int i] Q σ:=by
 obtain ⟨C,hC⟩:=Yfq (w:=w) (s:=s)
 refine Yaa.go TO rfl rfl ?_
 have hG':=hG
 obtain ⟨a,c,e,h5,h7⟩:=hG
 refine Yam.own h5 rfl hC.cls hC.part<|Cal.mk<|Yg9 TO hn hG' (fun r hr hx=>?_) qx
 have hin:x∈rs.map (·.1):=Zsb.mpr ⟨r,hr,hx⟩
 have hS:(S cs).length=cs.length:=by simp [S,Str.length]
 refine Br.mk (fun h0=>Cal.len (n:=cs.length) (Yep hS) (by exact Za (by assumption) (by decide))<|Br.mk (fun h1=>?_) fun h1=>?_) fun h0=>?_
 · exact Stx.mk<|Yba.raise TO rfl rfl rfl rfl rfl (by kernel_rfl) (qy hin (.inr (by simpa using h1)))
 · exact q hin (by simpa using h0) (by simpa using h1)
 · exact Stx.mk<|Yba.raise TO rfl rfl rfl rfl rfl (by kernel_rfl) (qy hin (.inl (by simpa using h0)))
structure Yx7 (T:Tp) (C:Addr):Prop where
 cls:Yeo T "Reading" C
 grammar:Yc0 T C "grammar"
 signs:Yc0 T C "signs"
 memory:Yc0 T C "memory"
 read:Ydg T C "read"
 tree:Ydg T C "tree"
 begun:Ydg T C "begun"
theorem Ylc:∃ C,Yx7 (T11 w s) C:=⟨_,⟨rfl,rfl,rfl,rfl,rfl,rfl⟩,⟨rfl,rfl⟩,⟨rfl,rfl⟩,⟨rfl,rfl⟩,⟨_,rfl,rfl,rfl⟩,⟨_,rfl,rfl,rfl⟩,⟨_,rfl,rfl,rfl⟩⟩
noncomputable def rdF (g:Nat) (cs:List Nat) (m:Nat):List (Str×V):=[("grammar",.ref g),("signs",.str (S cs)),("memory",.ref m)]
theorem Ygz (TO:Yaf (T11 w s)) {cs:List Nat}(q:Q (.ref σ.length) (σ++[.inst "Reading" (rdF g cs (σ.length+1)),.inst "Memory" (mmF (σ.length+2) (σ.length+3)),.tdict [],.list []])):Yaa (T11 w s) (d+5) X (.glob "Reading") [.ref g,.str (S cs)] Q σ:=by
 obtain ⟨C,hC⟩:=Ylc (w:=w) (s:=s)
 refine Yaa.make TO rfl rfl rfl rfl<|Yb5.goM TO rfl rfl ?_
 refine Yaj.to [("grammar",.ref g)] Yae hC.cls hC.grammar (by decide) rfl Yci ?_
 refine Yaj.to [("grammar",.ref g),("signs",.str (S cs))] Yae hC.cls hC.signs (by simp) rfl Yci ?_
 refine Cal.mk<|Ypj TO ?_
 exact Yaj.to (rdF g cs (σ.length+1)) (gs:=[("grammar",.ref g),("signs",.str (S cs))]) (Yab Yae) hC.cls hC.memory (by simp) (by simp [Yca,rdF]; decide) (σ':=σ++[.inst "Reading" (rdF g cs (σ.length+1)),.inst "Memory" (mmF (σ.length+2) (σ.length+3)),.tdict [],.list []]) (by rw [Ze,Zf]; exact Yuz) ⟨rfl,q⟩
theorem Yrs (TO:Yaf (T11 w s)) (hn:(rs.map (·.1)).Nodup) {m a b:Nat}:Yk5 (T11 w s) Ya0 (Ybc m a b) rs g gb m where
 sgn:=fun hp hc r q=>Yv3 TO hp hc r q
 rul:=fun hG hg hgb hin r q=>Ywj TO hn hG hg hgb hin r q
theorem Ygt.nodup {A:List Nat}{m a b:Nat}{mem:Mm}(h:Ygt σ A m a b mem):(Ybc m a b).own.Nodup∧∀ x∈(Ybc m a b).own,x < σ.length:=by
 obtain ⟨kvs,h1,h2,h3,h4⟩:=h
 have n1:m≠a:=fun e=>by rw [e,h2] at h1; cases h1
 have n2:a≠b:=fun e=>by rw [e,h3] at h2; cases h2
 have n3:m≠b:=fun e=>by rw [e,h3] at h1; cases h1
 refine ⟨by simp [Ybc,n1,n2,n3],fun x hx=>?_⟩
 simp only [Ybc,Zg,Zdc,or_false] at hx
 rcases hx with rfl | rfl | rfl
 · exact (Zb.mp h1).1
 · exact (Zb.mp h2).1
 · exact (Zb.mp h3).1
theorem Yj2 (TO:Yaf (T11 w s)) {cs:List Nat}{l m a b:Nat}{i:Int}{mem:Mm}{name:Str}{P:Option (An Kid×Mm)→Prop}(hg:Yan rs) (hG:GrT rs g gb σ) (hga:g∉[m,a,b]) (hgb:gb∉[m,a,b]) (hc:cs.length < 100000) (h0:σ[l]?=some (.inst "Reading" (rdF g cs m))) (hm:Ygt σ [m,a,b] m a b mem)
   (qx:name∉rs.map (·.1)→X "NoRule" σ) (qy:name∈rs.map (·.1)→(i < 0∨cs.length < i)→X "OutOfPlace" σ)
   (hfin:name∈rs.map (·.1)→∀ j:Nat,i=j→j≤cs.length→∃ n,Fin (Yag rs) cs Ya0 P n ⟨[.new (.rule name) j],none,mem⟩) (hP:¬ P none)
   (q:∀ an mem' σ',P (some (an,mem'))→Ygt σ' [m,a,b] m a b mem'→On σ [m,a,b] σ' [m,a,b]→σ.length≤σ'.length→Q (Yub an.1) σ') :
   Yaa (T11 w s) (d+8) X (.mth "Reading" "read") [.ref l,.str name,.int i] Q σ:=by
 obtain ⟨C,hC⟩:=Ylc (w:=w) (s:=s)
 refine Yaa.goM TO rfl rfl ?_
 refine Yad.of h0 rfl rfl hC.cls hC.grammar<|Yad.of h0 rfl rfl hC.cls hC.signs<|Cal.mk<|Yef (d:=d+4) TO hg.nodup hG hc (fun hin hi0 hi1=>?_) qx qy
 obtain ⟨j,rfl⟩:=Int.eq_ofNat_of_zero_le hi0
 refine Yad.of h0 rfl rfl hC.cls hC.grammar<|Yad.of h0 rfl rfl hC.cls hC.signs<|Yad.of h0 rfl rfl hC.cls hC.memory<|Cal.mk<|Yid (d:=d) (P:=P) (R:=Ybc m a b) TO (Yrs TO hg.nodup) hg hG hga hgb hm.nodup.1 hm.nodup.2 hc hm hin (hfin hin j rfl (by lia)) (fun zz h=>absurd h hP) fun an mem' av σ' hp ha hm' ho hl=>?_
 obtain ⟨la,vs,rfl,zz⟩:=ha
 exact q an mem' σ' hp hm' ho hl
end
section
variable {w:World}{s:Shared}{d:Nat}{X:QX}{Q:QE}{σ:Hp}{rs:List (Str×Pt)}{g gb:Nat}
noncomputable def Yc9 (r:Row):V:=.tup [.int r.1,.str r.2.1.1,.int r.2.1.2,.int r.2.2]
noncomputable def wtV (x:Nat×Kid):V:=.tup [.int x.1,.str x.2.1,.int x.2.2]
inductive Jt (K:Kid→Option (An Kid)) (tot:List Row) (σ:Hp) (a l k:Nat) (n:Nat) (ρ:Loc) (σ':Hp):Prop where
 | mk (done t:List Row) (st:List (Nat×Kid)) (h1:Ypy K st t) (h2:done++t=tot) (h3:n=t.length) (h4:Has ρ [("kept",.ref a),("rows",.ref l),("waiting",.ref k)]) (h5:σ'=σ++[.list (done.map Yc9),.list ((st.map wtV).reverse)]):Jt K tot σ a l k n ρ σ'
inductive Ju (σ:Hp) (a l k d:Nat) (ts:List V) (st:List (Nat×Kid)) (ks:List Kid) (one:V) (i:Nat) (ρ:Loc) (σ':Hp):Prop where
 | mk (h4:Has ρ [("kept",.ref a),("rows",.ref l),("waiting",.ref k),("one",one)]) (h5:σ'=σ++[.list ts,.list ((st.map wtV).reverse++(ks.reverse.take i).map fun x=>wtV (d+1,x))]):Ju σ a l k d ts st ks one i ρ σ'
theorem Ym8 {x y z:Yas}:(σ++[x,y]).set (σ.length+1) z=σ++[x,z]:=Yu2
theorem Yqb {x y z:Yas}:(σ++[x,y]).set σ.length z=σ++[z,y]:=Yuz
theorem Ycg {x y:Yas}:(σ++[x,y])[σ.length+1]?=some y:=Yh3
theorem Yhk {x y:Yas}:(σ++[x,y])[σ.length]?=some x:=Ygj
theorem Cal.pop2 {T:Tp}{d:Nat}{X:QX}{Q:QE}{σ:Hp}{o:Yas}{L vs:List V}{v:V}(e:L=vs++[v]) (hn:vs.length≤5000000) (q:Q v (σ++[o,.list vs])):Cal T d X (.bi "list.pop") [.ref (σ.length+1)] Q (σ++[o,.list L]):=by
 subst e
 exact Cal.mk (Yaa.pop Ycg (by rw [sizeLine_eq]; exact Zk hn (by decide)) (by rw [Ym8]; exact q))
theorem Cal.app2 {T:Tp}{d:Nat}{X:QX}{Q:QE}{σ:Hp}{o:Yas}{vs:List V}{v:V}(hn:vs.length≤5000000) (q:Q .none (σ++[o,.list (vs++[v])])):Cal T d X (.bi "list.append") [.ref (σ.length+1),v] Q (σ++[o,.list vs]) :=
 Cal.mk (Yaa.append Ycg (szo (Za hn (by decide))) (by rw [Ym8]; exact q))
theorem Cal.app0 {T:Tp}{d:Nat}{X:QX}{Q:QE}{σ:Hp}{o:Yas}{vs:List V}{v:V}(hn:vs.length≤5000000) (q:Q .none (σ++[.list (vs++[v]),o])):Cal T d X (.bi "list.append") [.ref σ.length,v] Q (σ++[.list vs,o]) :=
 Cal.mk (Yaa.append Yhk (szo (Za hn (by decide))) (by rw [Yqb]; exact q))
theorem Yo0 {body:List Stmt}{test:Expr}{pos:Pos}{sc:Scope}{XX:XS}{QQ:QS}{ρ:Loc}{mem:Mm}{m a b:Nat}{t:List Row}{k0:Kid}(hm:Ygt σ [m,a,b] m a b mem) (ht:Tr (Ybp mem.kept) 0 [k0] t) (hz:t.length≤5000000)
   (h0:Has ρ [("kept",.ref a),("rows",.ref σ.length),("waiting",.ref (σ.length+1))])
   (turn:∀ n ρ σ',Jt (Ybp mem.kept) t σ a σ.length (σ.length+1) n ρ σ'→Ydx (T11 w s) d sc ρ XX test (fun b σ₁=>if b then Yeg (T11 w s) d sc ρ XX body (Ys7 QQ fun ρ₂ σ₂=>∃ m,m < n∧Jt (Ybp mem.kept) t σ a σ.length (σ.length+1) m ρ₂ σ₂) σ₁ else QQ .next ρ σ₁) σ') :
   Yba (T11 w s) d sc ρ XX (.While test body [] pos) QQ (σ++[.list [],.list [wtV (0,k0)]]) :=
 Yba.while (Jt (Ybp mem.kept) t σ a σ.length (σ.length+1)) t.length ⟨[],t,[(0,k0)],by simpa using ht.walk .nil,rfl,rfl,h0,rfl⟩ turn
theorem Yov (TO:Yaf (T11 w s)) {cs:List Nat}{l m a b:Nat}{i:Int}{mem:Mm}{name:Str}{P:Option (An Kid×Mm)→Prop}(hg:Yan rs) (hG:GrT rs g gb σ) (hga:g∉[m,a,b]) (hgb:gb∉[m,a,b]) (hc:cs.length < 100000) (h0:σ[l]?=some (.inst "Reading" (rdF g cs m))) (hl0:l∉[m,a,b]) (hm:Ygt σ [m,a,b] m a b mem)
   (qx:name∉rs.map (·.1)→X "NoRule" σ) (qy:name∈rs.map (·.1)→(i < 0∨cs.length < i)→X "OutOfPlace" σ)
   (hfin:name∈rs.map (·.1)→∀ j:Nat,i=j→j≤cs.length→∃ n,Fin (Yag rs) cs Ya0 P n ⟨[.new (.rule name) j],none,mem⟩) (hP:¬ P none)
   (htr:∀ an mem' e,P (some (an,mem'))→an.1=some e→∀ j:Nat,i=j→j≤cs.length→∃ t,Tr (Ybp mem'.kept) 0 [(name,j)] t∧t.length≤5000000)
   (q0:∀ an mem' σ',P (some (an,mem'))→an.1=none→Ygt σ' [m,a,b] m a b mem'→On σ [m,a,b] σ' [m,a,b]→σ.length≤σ'.length→Q .none σ')
   (q1:∀ an mem' e σ' t (j:Nat),P (some (an,mem'))→an.1=some e→i=j→Ygt σ' [m,a,b] m a b mem'→On σ [m,a,b] σ' [m,a,b]→σ.length≤σ'.length→Tr (Ybp mem'.kept) 0 [(name,j)] t→Q (.ref σ'.length) (σ'++[.list (t.map Yc9),.list []])) :
   Yaa (T11 w s) (d+9) X (.mth "Reading" "tree") [.ref l,.str name,.int i] Q σ:=by
 obtain ⟨C,hC⟩:=Ylc (w:=w) (s:=s)
 obtain ⟨M,hM⟩:=Ye2 (w:=w) (s:=s)
 refine Yaa.goM TO rfl rfl ?_
 refine Yam.own h0 rfl hC.cls hC.read<|Cal.mk<|Yj2 (d:=d) (P:=fun o=>P o∧∃ j:Nat,i=j∧j≤cs.length) TO hg hG hga hgb hc h0 hm qx qy (fun hin j hj hjl=>?_) (fun h=>hP h.1) fun an mem' σ' hp0 hm' ho hl=>?_
 · obtain ⟨n,hn⟩:=hfin hin j hj hjl
   exact ⟨n,hn.mono fun o ho=>⟨ho,j,hj,hjl⟩⟩
 refine hp0.elim fun hp h=>h.elim fun j h=>h.elim fun hj hjl=>?_
 clear hp0
 subst hj
 obtain ⟨x,us⟩:=an
 cases x with
 | none=>exact Cmp.isN (r:=true) rfl<|q0 _ mem' σ' hp rfl hm' ho hl
 | some e =>
   refine (htr _ mem' e hp rfl j rfl hjl).elim fun t h=>h.elim fun ht hz=>?_
   have h0':σ'[l]?=some (.inst "Reading" (rdF g cs m)):=ho.keep _ _ h0 hl0
   refine Ygt.use hm' fun kvs m1 m2 m3 m4=>?_
   refine Cmp.isN (r:=false) rfl<|Yad.of h0' rfl rfl hC.cls hC.memory<|Yad.of m1 rfl rfl hM.cls hM.kept ?_
   have e1:σ'++[Yas.list []]++[.list [.tup [.int 0,.str name,.int j]]]=σ'++[.list [],.list [wtV (0,(name,j))]]:=by simp [wtV]
   show Stx _ _ _ _ _ _ _ (σ'++[Yas.list []]++[.list [.tup [.int 0,.str name,.int j]]])
   rw [e1]
   refine Stx.mk<|Yo0 (t:=t) (k0:=(name,j)) hm' ht hz ⟨rfl,rfl,congrArg (fun n=>some (V.ref n)) (by simp),trivial⟩ ?_
   rintro n ρ' σ₂ ⟨done,t',st,k1,k2,k3,k4,rfl⟩
   rw [← Has.eq k4]
   have zt:t'.length≤5000000:=by rw [← k2,Zf] at hz; exact Za (Ztb _ _) hz
   have zs:st.length≤5000000:=Za k1.len zt
   have zd:done.length≤5000000:=by rw [← k2,Zf] at hz; exact Za (Zy _ _) hz
   cases k1 with
   | nil =>
     refine Yej TO rfl 40 10 _ _ _<|tvc.of (b:=false) (Yb2 Ycg (by decide)) ?_
     refine Yio (by simp) ?_
     rw [Zlc] at k2
     subst k2
     exact q1 _ mem' e σ' done j hp rfl rfl hm' ho hl ht
   | @cons dp e2 k ks r t2 hk hw =>
     refine Yej TO rfl 40 10 _ _ _<|tvc.of (b:=true) (Yct Ycg (by rw [Zec,Zc]; exact Zk zs (by decide)) (by simp)) ?_
     refine Yfr rfl ?_
     refine Ybd TO rfl 60 _ _ _ _ ?_
     have w1:(((dp,k)::r).map wtV).reverse=(r.map wtV).reverse++[wtV (dp,k)]:=by simp
     have zr:r.length≤5000000:=Zkc zs
     refine Yam.pop Ycg<|Cal.pop2 w1 (by rw [Zec,Zc]; exact zr) ?_
     refine m4.got hk fun la x2 x3 x4=>?_
     refine Itm.pair (k:=(k.1,(k.2:Int))) (Yab m2) x2<|Yam.append Yhk<|Cal.app0 (by rw [Zc]; exact zd) ?_
     have zk:ks.length+r.length≤5000000:=by have:=hw.len; simp at this zt; exact Za (Za (by assumption) (by assumption)) (by decide)
     refine gd.of (by rfl) ?_
     refine Ym5.mk la (ks.map pV') rfl (Yab x4) ?_
     refine Yc7.mk (ks.map pV').reverse (Ju σ' a σ'.length (σ'.length+1) dp (done.map Yc9++[.tup [.int dp,.str k.1,.int k.2,.int e2]]) r ks (wtV (dp,k))) ⟨⟨rfl,rfl,rfl,rfl,trivial⟩,by rw [List.take_zero,List.map_nil,Zlc]; rfl⟩ (fun n ρ₂ σ₂ hJ=>?_) (fun ρ₂ σ₂ hJ=>?_) fun n x ρ₂ σ₂ hJ hx=>?_
     · obtain ⟨zz,rfl⟩:=hJ
       exact Yk1 (Yab x4)
     · obtain ⟨h4,rfl⟩:=hJ
       rw [← Has.eq h4]
       refine ⟨t2.length,by simp [k3],done++[(dp,k,e2)],t2,ks.map (dp+1,·)++r,hw,by rw [← k2]; simp,rfl,⟨rfl,rfl,rfl,trivial⟩,?_⟩
       simp only [Zec,Zc,Zfc,List.map_cons,List.map_nil,Yc9,List.reverse_append]
       rw [show ks.reverse.take ks.length=ks.reverse from List.take_of_length_le (by simp)]
       simp only [List.map_map,List.map_reverse]; rfl
     · obtain ⟨h4,rfl⟩:=hJ
       rw [← Has.eq h4]
       rw [← List.map_reverse] at hx
       obtain ⟨kid,hkid,rfl⟩:=Ydz hx
       have hlt:=(Zb.mp hkid).1
       rw [Zec] at hlt
       refine ⟨_,rfl,Ybd TO rfl 60 _ _ _ _ ?_⟩
       refine Yam.append Ycg<|Cal.app2 (by rw [Zf,Zec,Zc,Zc,List.length_take,Zec,Nat.add_comm]; exact Za (Zac (Nat.min_le_right ..) _) zk) ?_
       refine ⟨⟨rfl,rfl,rfl,rfl,trivial⟩,?_⟩
       rw [Ya3 hkid]; simp [wtV]
end
section
variable {w:World}{s:Shared}{d:Nat}{X:QX}{Q:QE}{σ:Hp}{rs:List (Str×Pt)}{g gb:Nat}
variable {cs:List Nat}{A:List Nat}{i t h l k m most c:Nat}{ks:List Nd}{an:Option (An Nd)}{av:V}
structure Yxz (T:Tp) (C:Addr):Prop where
 cls:Yeo T "Counter" C
 most:Yc0 T C "most"
 steps:Yc0 T C "steps"
 look:Ydg T C "look"
 known:Ydg T C "known"
 begun:Ydg T C "begin"
 ended:Ydg T C "ended"
theorem Yic:∃ C,Yxz (T11 w s) C:=⟨_,⟨rfl,rfl,rfl,rfl,rfl,rfl⟩,⟨rfl,rfl⟩,⟨rfl,rfl⟩,⟨_,rfl,rfl,rfl⟩,⟨_,rfl,rfl,rfl⟩,⟨_,rfl,rfl,rfl⟩,⟨_,rfl,rfl,rfl⟩⟩
noncomputable def ctF (most c:Nat):List (Str×V):=[("most",.int most),("steps",.int c)]
noncomputable def ctO (most c:Nat):Yas:=.inst "Counter" (ctF most c)
theorem Yms (TO:Yaf (T11 w s)) (q:Q (.ref σ.length) (σ++[ctO most 0])):Yaa (T11 w s) (d+3) X (.glob "Counter") [.int most] Q σ:=by
 obtain ⟨C,hC⟩:=Yic (w:=w) (s:=s)
 refine Yaa.make TO rfl rfl rfl rfl<|Yb5.goM TO rfl rfl ?_
 refine Yaj.to [("most",.int most)] Yae hC.cls hC.most (by simp) rfl Yci ?_
 refine Yaj.to (ctF most 0) Yae hC.cls hC.steps (by simp) rfl Yci ?_
 exact ⟨rfl,q⟩
theorem Ylh (TO:Yaf (T11 w s)) (h1:σ[m]?=some (ctO most c)) (q:c+1≤most→Q .none (σ.set m (ctO most (c+1)))) (qx:most < c+1→X "TooLong" (σ.set m (ctO most (c+1)))):Yaa (T11 w s) (d+1) X (.mth "Counter" "look") [.ref m] Q σ:=by
 obtain ⟨C,hC⟩:=Yic (w:=w) (s:=s)
 refine Yaa.goM TO rfl rfl ?_
 refine Yad.of h1 rfl rfl hC.cls hC.steps<|Yaj.of (ctF most (c+1)) h1 hC.cls hC.steps (by simp [ctF]) rfl ?_
 have g1:(σ.set m (ctO most (c+1)))[m]?=some (ctO most (c+1)):=Zw (Zb.mp h1).1
 refine Yad.of g1 rfl rfl hC.cls hC.steps<|Yad.of g1 rfl rfl hC.cls hC.most<|Br.mk (fun h2=>?_) fun h2=>?_
 · exact Stx.mk<|Yba.raise TO rfl rfl rfl rfl rfl (by kernel_rfl) (qx (by have:=Zgb h2; lia))
 · exact q (by have:=of_decide_eq_false h2; lia)
theorem Yo2 (TO:Yaf (T11 w s)) {a b c:V}(q:Q .none σ):Yaa (T11 w s) (d+1) X (.mth "Counter" "known") [a,b,c] Q σ:=by
 refine Yaa.goM TO rfl rfl ?_
 exact q
theorem Yoe (TO:Yaf (T11 w s)) {a b:V}(h1:σ[m]?=some (ctO most c)) (q:c+1≤most→Q .none (σ.set m (ctO most (c+1)))) (qx:most < c+1→X "TooLong" (σ.set m (ctO most (c+1)))):Yaa (T11 w s) (d+2) X (.mth "Counter" "begin") [.ref m,a,b] Q σ:=by
 obtain ⟨C,hC⟩:=Yic (w:=w) (s:=s)
 refine Yaa.goM TO rfl rfl ?_
 exact Yam.own h1 rfl hC.cls hC.look<|Cal.mk<|Ylh TO h1 q qx
theorem Ymx (TO:Yaf (T11 w s)) {n:Str}{x:V}{e:Option Nat}{la:Nat}(q0:e=none→Q (.tup [.none,.ref σ.length]) (σ++[.list []])) (q1:∀ y,e=some y→Q (.tup [.int y,.ref σ.length]) (σ++[.list [.tup [.str n,.int i,.int y,.ref la]]])):Yaa (T11 w s) (d+1) X (.mth "Counter" "ended") [x,.str n,.int i,.tup [Yub e,.ref la]] Q σ:=by
 refine Yaa.goM TO rfl rfl ?_
 cases e with
 | none=>exact Cmp.isN (r:=true) rfl (q0 rfl)
 | some y=>exact Cmp.isN (r:=false) rfl (q1 y rfl)
noncomputable def Ydt (m most:Nat):Ymw Nat Nd where
 K:=Yvi
 own:=[m]
 is:=fun σ zz c=>σ[m]?=some (ctO most c)
 keep:=fun h zz e=>(e m (by simp)).trans h
theorem Yvd (TO:Yaf (T11 w s)) {p:Pt}(hp:p.isLf=true) (hc:cs.length < 100000) (r:Rdy (Yay most) (Ydt m most) σ A l k ⟨p,i,t,h,ks⟩ c an av) (q:Ydu (Yay most) (Ydt m most) (Yag rs) cs σ A l k ⟨p,i,t,h,ks⟩ c an Q X) :
   Yaa (T11 w s) (d+3) X (.glob "of_sign") [.ref l,.str (S cs),.ref m] Q σ:=by
 obtain ⟨M,hM⟩:=Yic (w:=w) (s:=s)
 obtain ⟨vs,f1,f2,f3⟩:=r.fr
 have hm:σ[m]?=some (ctO most c):=r.bk
 have hmA:m∈A:=r.own m (Zt ..)
 have hml:m≠l:=fun q=>r.hl (q▸hmA)
 have on:∀ {x:Yas},On σ (l::k::(Ydt m most).own) (σ.set m x) (l::k::(Ydt m most).own):=.put (Zd _ (Zd _ (Zt ..)))
 have Ysn:∀ {x:Yas},σ.length≤(σ.set m x).length:=Zr List.length_set.symm
 have fin:∀ {x:Option Nat},Yac (Yag rs) cs (Yay most) ⟨p,i,t,h,ks⟩ an c=.pop (x,[]) (c+1)→Q (.tup [.none,.tup [Yub x,.ref (σ.set m (ctO most (c+1))).length]]) (σ.set m (ctO most (c+1))++[.list []]):=fun hx =>
   q.to hx (on.trans .up Ysn) (Za Ysn (Zf▸Zy ..)) (.pop ⟨_,[],rfl,fun q=>absurd (r.hA _ q) (Zo.mpr Ysn),Yae,rfl⟩ (show (σ.set m (ctO most (c+1))++[.list []])[m]?=_ from Yab (Zw (Zb.mp hm).1)))
 exact Yob (ok:=c+1≤most) (f:=.mth "Counter" "look") TO hp (fun k=>Yam.own hm rfl hM.cls hM.look k) (fun q'=>Ylh (d:=d+1) TO hm q' fun hlt=>q.x _ on Ysn (Ynb hp (if_neg (Nat.not_le.mpr hlt)))) (fun zz=>by rw [Zi hml]; exact f1) hc (fun hle x hx ht=>fin (Ylf hp (if_pos hle) hx ht)) fun hle hn=>fin (Yn1 hp (if_pos hle) hn)
theorem Yv8 (TO:Yaf (T11 w s)) (hn:(rs.map (·.1)).Nodup) {n:Str}(hG:GrT rs g gb σ) (hg:g∉A) (hgb:gb∉A) (hin:n∈rs.map (·.1)) (r:Rdy (Yay most) (Ydt m most) σ A l k ⟨.rule n,i,t,h,ks⟩ c an av) (q:Ydu (Yay most) (Ydt m most) (Yag rs) cs σ A l k ⟨.rule n,i,t,h,ks⟩ c an Q X) :
   Yaa (T11 w s) (d+4) X (.glob "of_rule") [.ref l,av,.ref g,.ref m] Q σ:=by
 obtain ⟨C,hC⟩:=Yby (w:=w) (s:=s)
 obtain ⟨M,hM⟩:=Yic (w:=w) (s:=s)
 obtain ⟨G,hGc⟩:=Yfq (w:=w) (s:=s)
 obtain ⟨vs,f1,f2,f3⟩:=r.fr
 have hm:σ[m]?=some (ctO most c):=r.bk
 have hmA:m∈A:=r.own m (by simp [Ydt])
 have hml:m≠l:=fun q=>r.hl (q▸hmA)
 have hmk:m≠k:=fun q=>r.hk (q▸hmA)
 have on:∀ {x:Yas},On σ (l::k::(Ydt m most).own) (σ.set m x) (l::k::(Ydt m most).own):=.put (by simp [Ydt])
 refine Yaa.go TO rfl rfl ?_
 have han:=r.ans
 rcases an with zz | x
 · cases han
   refine Yad.of f1 rfl rfl hC.cls hC.piece<|Cmp.notN (r:=true) rfl<|Yam.own hm rfl hM.cls hM.known<|Yad.of f1 rfl rfl hC.cls hC.place<|Cal.mk<|Yo2 (d:=d+2) TO<|Cmp.notN (r:=true) rfl<|Yam.own hm rfl hM.cls hM.begun<|Yad.of f1 rfl rfl hC.cls hC.place<|Cal.mk<|Yoe (d:=d+1) TO hm (fun hle=>?_) fun hlt=>q.x _ on (by simp) (by simp [Yac,Yay,Yco,Nat.not_le.mpr hlt])
   have o:On σ (l::k::A) (σ.set m (ctO most (c+1))) (l::k::A):=.put (by simp [hmA])
   have hG2:GrT rs g gb (σ.set m (ctO most (c+1))):=hG.keep (A':=A) (.put hmA) hg hgb
   have hG3:=hG2
   obtain ⟨ga,gc,ge,h5,h7⟩:=hG3
   have g0:(σ.set m (ctO most (c+1)))[l]?=some (.inst "Frame" (frF (Pt.rule n).v i t h k)):=by rw [Zi hml]; exact f1
   refine Yam.own h5 rfl hGc.cls hGc.part<|Cal.mk<|Yg9 (d:=d+1) TO hn hG2 (fun x hx e=>?_) fun h=>absurd hin h
   subst e
   refine Yad.of g0 rfl rfl hC.cls hC.place<|q.to (o:=.push ⟨.rule x.1,i,t,h,ks⟩ x.2 i (c+1)) (by simp [Yac,Yay,Yco,hle,Ydj hn hx]) on (by simp) (.push ⟨vs,g0,by rw [Zi hmk]; exact f2,f3.keep o⟩ (show (σ.set m (ctO most (c+1)))[m]?=_ from Zw (Zb.mp hm).1))
 · obtain ⟨la,us',rfl,k1,k2,k3⟩:=han
   obtain ⟨x1,x2⟩:=x
   have e:Yac (Yag rs) cs (Yay most) ⟨.rule n,i,t,h,ks⟩ (some (x1,x2)) c=.pop (Yb7 n i (x1,x2)) c:=rfl
   refine Yad.of f1 rfl rfl hC.cls hC.piece<|Cmp.notN (r:=false) rfl<|Yam.own hm rfl hM.cls hM.ended<|Yad.of f1 rfl rfl hC.cls hC.place<|Cal.mk<|Ymx (d:=d+2) TO (fun hx=>?_) fun y hx=>?_
   · cases hx; exact q.to e .up (by simp) (.pop r.fresh r.bkU)
   · cases hx
     refine q.to e .up (by simp) (.pop ⟨σ.length,_,rfl,fun hx=>Zub _ (r.hA _ hx),Yae,_,_,rfl,?_,rfl⟩ r.bkU)
     show Yk4 _ _ _ _
     exact ⟨la,us',rfl,fun q=>k1 (Zd _ (Zd _ q)),Yab k2,(Yus k3).keep (On.trans .up Ybw (by simp))⟩
theorem Ys6 (TO:Yaf (T11 w s)) (hn:(rs.map (·.1)).Nodup):Yk5 (T11 w s) (Yay most) (Ydt m most) rs g gb m where
 sgn:=fun hp hc r q=>Yvd TO hp hc r q
 rul:=fun hG hg hgb hin r q=>Yv8 TO hn hG hg hgb hin r q
end
section
variable {w:World}{s:Shared}{d:Nat}{X:QX}{Q:QE}{σ:Hp}{rs:List (Str×Pt)}{g gb:Nat}
noncomputable def wnV (x:Wt):V:=.tup [.int x.1,x.2.2]
inductive Jp (tot:List Row) (σ:Hp) (l k:Nat) (n:Nat):Loc→Hp→Prop where
 | mk (done:List Row) (st:List Wt) (r:Loc) (h1:∀ x∈st,Yk4 σ [] x.2.1 x.2.2) (h2:done++Ybq st=tot) (h3:n=(Ybq st).length):Jp tot σ l k n (Yox r [("rows",.ref l),("waiting",.ref k)]) (σ++[.list (done.map Yc9),.list ((st.map wnV).reverse)])
theorem Jp.of {tot:List Row}{l k n:Nat}{ρ:Loc}{σ':Hp}{done:List Row}{st:List Wt}(h1:∀ x∈st,Yk4 σ [] x.2.1 x.2.2) (h2:done++Ybq st=tot) (h3:n=(Ybq st).length) (h4:Has ρ [("rows",.ref l),("waiting",.ref k)]) (h5:σ'=σ++[.list (done.map Yc9),.list ((st.map wnV).reverse)]):Jp tot σ l k n ρ σ':=by rw [h5,← h4.eq]; exact ⟨done,st,ρ,h1,h2,h3⟩
inductive Jq (σ:Hp) (l k d:Nat) (ts:List V) (st:List Wt) (vs:List V) (one:V) (i:Nat):Loc→Hp→Prop where
 | mk (r:Loc):Jq σ l k d ts st vs one i (Yox r [("rows",.ref l),("waiting",.ref k),("pair",.tup [.int d,one])]) (σ++[.list ts,.list ((st.map wnV).reverse++(vs.reverse.take i).map fun v=>.tup [.int (d+1:Nat),v])])
theorem Jq.of {l k d:Nat}{ts:List V}{st:List Wt}{vs:List V}{one:V}{i:Nat}{ρ:Loc}{σ':Hp}(h4:Has ρ [("rows",.ref l),("waiting",.ref k),("pair",.tup [.int d,one])]) (h5:σ'=σ++[.list ts,.list ((st.map wnV).reverse++(vs.reverse.take i).map fun v=>.tup [.int (d+1:Nat),v])]):Jq σ l k d ts st vs one i ρ σ':=by rw [h5,← h4.eq]; exact ⟨ρ⟩
theorem Ymr (TO:Yaf (T11 w s)) {cs:List Nat}{most:Nat}{i:Int}{name:Str}{P:Option (An Nd×Nat)→Prop}(hg:Yan rs) (hG:GrT rs g gb σ) (hc:cs.length < 100000)
   (qx:name∉rs.map (·.1)→X "NoRule" σ) (qy:name∈rs.map (·.1)→(i < 0∨cs.length < i)→X "OutOfPlace" σ)
   (hfin:name∈rs.map (·.1)→∀ j:Nat,i=j→j≤cs.length→∃ n,Fin (Yag rs) cs (Yay most) P n ⟨[.new (.rule name) j],none,0⟩)
   (hX:∀ σ',P none→On σ [] σ' []→σ.length≤σ'.length→X "TooLong" σ')
   (hk:∀ e us c,P (some ((some e,us),c))→∃ nd,us=[nd]∧(nd.rows 0).length≤5000000)
   (q0:∀ us c σ',P (some ((none,us),c))→On σ [] σ' []→σ.length≤σ'.length→Q .none σ')
   (q1:∀ e nd c σ',P (some ((some e,[nd]),c))→On σ [] σ' []→σ.length≤σ'.length→Q (.ref σ'.length) (σ'++[.list ((nd.rows 0).map Yc9),.list []])) :
   Yaa (T11 w s) (d+8) X (.glob "plainly") [.ref g,.str (S cs),.str name,.int i,.int most] Q σ:=by
 refine Yaa.go TO rfl rfl ?_
 refine Cal.mk<|Yef (d:=d+4) TO hg.nodup hG hc (fun hin hi0 hi1=>?_) qx qy
 obtain ⟨j,rfl⟩:=Int.eq_ofNat_of_zero_le hi0
 refine Cal.mk<|Yms (d:=d+4) TO ?_
 have gl:g < σ.length∧gb < σ.length:=by
   obtain ⟨zz,zz,zz,h1,h2⟩:=hG
   exact ⟨(Zb.mp h1).1,(Zb.mp h2).1⟩
 have back:∀ {σ':Hp},On (σ++[ctO most 0]) [σ.length] σ' [σ.length]→(σ++[ctO most 0]).length≤σ'.length→On σ [] σ' []∧σ.length≤σ'.length:=fun o hl=>⟨⟨fun x y e zz=>o.keep x y (Yab e) fun q=>by
   have:=(Zb.mp e).1; simp at q; lia,(by intros; contradiction)⟩,by simp at hl; lia⟩
 refine Cal.mk<|Yid (d:=d) (P:=P) (R:=Ydt σ.length most) TO (Ys6 TO hg.nodup) hg (hG.keep (A:=[]) (A':=[]) .up nofun nofun) (by simp [Ydt]; lia) (by simp [Ydt]; lia) (by simp [Ydt]) (fun x hx=>by simp [Ydt] at hx; simp [hx]) hc Yae hin (hfin hin j rfl (by lia)) (fun σ' h o hl=>hX σ' h (back o hl).1 (back o hl).2) fun an c av σ' hp ha hm' ho hl=>?_
 have b1:=(back ho hl).1
 have b2:=(back ho hl).2
 obtain ⟨x,us⟩:=an
 refine Zh ha fun la ha'=>ha'.elim fun vs ha''=>?_
 have ae:=ha''.1
 have a2:=ha''.2.2.1
 have a3:=ha''.2.2.2
 clear ha ha' ha''
 subst ae
 cases x with
 | none=>exact Cmp.isN (r:=true) rfl<|q0 us c σ' hp b1 b2
 | some e =>
   refine (hk e us c hp).elim fun nd hnd=>?_
   have hz:=hnd.2
   have e1:=hnd.1
   clear hnd
   subst e1
   refine Zh a3 fun v a4=>a4.elim fun r a5=>?_
   have e1:=a5.1
   have nd1:=a5.2.1
   have e2:=a5.2.2
   clear a3 a4 a5
   subst e1
   cases e2
   have nd1:Yk4 σ' [] nd v:=Yk4.keep (On.less (A':=[]) (by intros; contradiction)) nd1
   refine Cmp.isN (r:=false) rfl<|Itm.list (j:=0) (v:=v) (Yab a2) rfl rfl ⟨by decide,by decide⟩ ?_
   have e1:σ'++[Yas.list []]++[.list [.tup [.int 0,v]]]=σ'++[.list [],.list [wnV (0,nd,v)]]:=by simp [wnV]
   show Stx _ _ _ _ _ _ _ (σ'++[Yas.list []]++[.list [.tup [.int 0,v]]])
   rw [e1]
   refine Stx.mk<|Yba.while (Jp (nd.rows 0) σ' σ'.length (σ'.length+1)) (nd.rows 0).length (.of (done:=[]) (st:=[(0,nd,v)]) (fun x hx=>by cases Zj.mp hx; exact nd1) (by simp [Ybq]) (by simp [Ybq]) ⟨rfl,congrArg (fun n=>some (V.ref n)) (by simp),trivial⟩ rfl) ?_
   intro n ρ' σ₂ hJ
   induction hJ with | mk done st r₀ k1 k2 k3=>?_
   have zt:done.length+(Ybq st).length≤5000000:=by rw [← k2,Zf] at hz; exact hz
   have zs:st.length≤5000000:=Za Yet (Za (Ztb _ _) zt)
   cases st with
   | nil =>
     refine Yej TO rfl 40 10 _ _ _<|tvc.of (b:=false) (Yb2 Ycg (by decide)) ?_
     refine Yio (by simp) ?_
     rw [show Ybq []=[] from rfl,Zlc] at k2
     subst k2
     exact q1 e nd c σ' hp b1 b2
   | cons x r =>
     obtain ⟨dp,⟨n',i',e',ks⟩,v'⟩:=x
     have hv':Yk4 σ' [] (.mk n' i' e' ks) v':=k1 (dp,.mk n' i' e' ks,v') (by simp)
     refine ex2 hv' fun lk us hu=>?_
     have u0:=hu.1
     have u1:=hu.2.2.1
     have u3:=hu.2.2.2.zip.1
     have u4:=hu.2.2.2.zip.2
     clear hv' hu
     subst u0
     refine Yej TO rfl 40 10 _ _ _<|tvc.of (b:=true) (Yct Ycg (by rw [Zec,Zc]; exact Zk zs (by decide)) (by simp)) ?_
     refine Yfr rfl ?_
     refine Ybd TO rfl 60 _ _ _ _ ?_
     have w1:(((dp,Nd.mk n' i' e' ks,V.tup [.str n',.int i',.int e',.ref lk])::r).map wnV).reverse=(r.map wnV).reverse++[wnV (dp,Nd.mk n' i' e' ks,V.tup [.str n',.int i',.int e',.ref lk])]:=by simp
     have w2:Ybq ((dp,Nd.mk n' i' e' ks,V.tup [.str n',.int i',.int e',.ref lk])::r)=(dp,(n',i'),e')::Ybq (((ks.zip us).map fun x=>(dp+1,x.1,x.2))++r):=by
       have:=Ygb (d:=dp+1) ks us u3
       simp only [Ybq] at this ⊢
       simp [Nd.rows1,this]
     rw [w2] at k2 k3 zt
     have zr:r.length≤5000000:=Zkc zs
     have zk:ks.length+r.length+done.length≤5000000:=by
       have l:(((ks.zip us).map fun x=>(dp+1,x.1,x.2))++r).length=ks.length+r.length:=by rw [Zf,Zc,List.length_zip,u3,Nat.min_self]
       rw [← l,Nat.add_comm]
       exact Za (Zzb (Zeb Yet) _) zt
     refine Yam.pop Ycg<|Cal.pop2 w1 (by rw [Zec,Zc]; exact zr)<|Yam.append Yhk<|Cal.app0 (by rw [Zc]; exact Za (Ztb _ _) zk) ?_
     refine gd.of (by rfl) ?_
     refine Ym5.mk lk us rfl (Yab u1) ?_
     refine Yc7.mk us.reverse (Jq σ' σ'.length (σ'.length+1) dp (done.map Yc9++[.tup [.int dp,.str n',.int i',.int e']]) r us (V.tup [.str n',.int i',.int e',.ref lk])) (.of ⟨rfl,rfl,rfl,trivial⟩ (by rw [List.take_zero,List.map_nil,Zlc])) (fun n ρ₂ σ₂ hJ=>?_) (fun ρ₂ σ₂ hJ=>?_) fun n x ρ₂ σ₂ hJ hx=>?_
     · induction hJ with | mk=>exact Yk1 (Yab u1)
     · induction hJ with | mk r₂=>?_
       refine ⟨(Ybq (((ks.zip us).map fun x=>(dp+1,x.1,x.2))++r)).length,by simp [k3],.of (done:=done++[(dp,(n',i'),e')]) (st:=((ks.zip us).map fun x=>(dp+1,x.1,x.2))++r) (fun x hx=>?_) (by rw [← k2]; simp) rfl ⟨rfl,rfl,trivial⟩ ?_⟩
       · rcases Zm.mp hx with hx | hx
         · obtain ⟨y,hy,rfl⟩:=Zsb.mp hx
           exact u4 y hy
         · exact k1 x (Zd _ hx)
       · have e2:(((ks.zip us).map fun x=>((dp+1,x.1,x.2):Wt)).map wnV)=us.map fun v=>V.tup [.int (dp+1:Nat),v]:=by
           rw [List.map_map]
           have:((ks.zip us).map (·.2))=us:=List.map_snd_zip (Zr u3)
           conv=>rhs; rw [← this]
           rw [List.map_map]; rfl
         simp only [Zec,Zfc,List.map_cons,List.map_nil,Yc9,List.reverse_append,e2]
         rw [show us.reverse.take us.length=us.reverse from List.take_of_length_le (by simp)]
         simp only [List.map_reverse]
     · induction hJ with | mk r₂=>?_
       have hlt:=(Zb.mp hx).1
       rw [Zec] at hlt
       refine ⟨_,rfl,Ybd TO rfl 60 _ _ _ _ ?_⟩
       refine Yam.append Ycg<|Cal.app2 (by rw [Zf,Zec,Zc,Zc,List.length_take,Zec,u3,Nat.add_comm]; exact Za (Zac (Nat.min_le_right ..) _) (Za (Zy _ _) zk)) ?_
       exact .of ⟨rfl,rfl,rfl,trivial⟩ (by rw [Ya3 hx]; simp)
end
section
variable {w:World}{s:Shared}{d:Nat}{X:QX}{Q:QE}{σ:Hp}
noncomputable abbrev U11 (w:World) (s:Shared):Tp:=(T11 w s).at true
theorem Cal.isiX {T:Tp}{c x:Str}{C D:Addr}{b:Bool}(TO:Yaf T) (hc:T.c c=some C) (hx:T.g x=some (.ref D)) (ek:Yhi T.K C=true) (e:kitOne T.K (.ref C) (.ref D)=some b) (q:Q (.bool b) σ):Cal T d X (.bi "isinstance") [.exc c,.glob x] Q σ:=⟨Yaa.isiX TO hc hx ek e q⟩
noncomputable def Yhl (p:Nat):List Bool:=(List.range 8).map fun k=>decide (k=p) || decide (5 < k)
theorem Ygq (σ:Hp) (l:List Bool):Deeps σ (l.map PyData.bool) (l.map V.bool):=l.rec .nil fun b r ih=>.cons (.bool b) ih
theorem Ypt {p i:Nat}(h:i < 8):(Yhl p)[i]?=some (decide (i=p) || decide (5 < i)):=by simp [Yhl,h]
theorem Ynz (TO:Yaf (U11 w s)) (q:Q (.ref (σ.length+4)) (σ++[.list [.bool false,.bool false,.bool false],.list [.bool false,.bool true,.bool false],.list [.bool false,.bool false,.bool false,.bool false,.bool true,.bool false],.list [.bool true,.bool true],.list [.bool false,.bool false,.bool false,.bool false,.bool true,.bool false,.bool true,.bool true]])):Yaa (U11 w s) (d+1) X (.glob "_law_marks") [.exc "TooLong"] Q σ:=by
 refine Yaa.go TO rfl rfl ?_
 refine Cal.isiX (b:=false) TO rfl rfl rfl rfl<|Cal.isiX (b:=false) TO rfl rfl rfl rfl<|Cal.isiX (b:=false) TO rfl rfl rfl rfl<|Cal.isiX (b:=false) TO rfl rfl rfl rfl<|Cal.isiX (b:=true) TO rfl rfl rfl rfl<|Cal.isiX (b:=false) TO rfl rfl rfl rfl<|Bin.lists (Yab Yae) Yae (sz _ rfl)<|Cal.isiX (b:=true) TO rfl rfl rfl rfl<|Cal.mk<|Yaa.isiXT (b:=true) TO rfl rfl rfl<|Bin.lists (Yab Yae) Yae (sz _ rfl) ?_
 simp only [Ze,List.cons_append,List.nil_append,Zf,List.length_cons,List.length_nil]
 exact q
theorem Yo7 (TO:Yaf (U11 w s)) (q:∀ junk,Q (.bool true) (σ++junk)):Yaa (U11 w s) (d+2) X (.glob "_law_alone") [.exc "TooLong",.int 4] Q σ:=by
 refine Yaa.go TO rfl rfl ?_
 refine Cal.mk<|Ynz TO ?_
 generalize hσ:σ++[Yas.list [.bool false,.bool false,.bool false],.list [.bool false,.bool true,.bool false],.list [.bool false,.bool false,.bool false,.bool false,.bool true,.bool false],.list [.bool true,.bool true],.list [.bool false,.bool false,.bool false,.bool false,.bool true,.bool false,.bool true,.bool true]]=σ₁
 have h4:σ₁[σ.length+4]?=some (.list ((Yhl 4).map V.bool)):=by rw [← hσ,Ztc (by lia)]; simp; rfl
 refine Evx.mk<|Yal.compR rfl rfl rfl<|Ye0 TO rfl 40 _ _ _<|Cal.range ⟨.inr ⟨_,rfl⟩,_,fun i acc σ'=>acc=((Yhl 4).take i).map V.bool∧i≤8∧σ'=σ₁,⟨rfl,by lia,rfl⟩,fun i acc σ' hJ=>⟨Ycv (by decide) (by decide),?_⟩,fun acc σ' hJ=>?_,fun i y acc σ' hJ hy=>?_⟩
 · rw [hJ.1,Zc,List.length_take]; exact szo (by have:=hJ.2.1; clear h4 hJ; lia)
 · obtain ⟨rfl,zz,rfl⟩:=hJ
   refine Cmp.eqR (da:=.list ((Yhl 4).map PyData.bool)) (db:=.list ((Yhl 4).map PyData.bool)) ?_ ?_ (by decide) (r:=true) (by decide) ?_
   · exact .list (Yab h4) (Ygq _ _)
   · exact .list Yae (Ygq _ (Yhl 4))
   · rw [← hσ,Ze]
     exact q _
 · obtain ⟨rfl,hi,rfl⟩:=hJ
   obtain ⟨hi,rfl⟩:=Yf6 hy
   have hi:i < 8:=hi
   have next:∀ {b:Bool},b=(decide (i=4) || decide (5 < i))→((Yhl 4).take i).map V.bool++[.bool b]=((Yhl 4).take (i+1)).map V.bool∧i+1≤8∧σ'=σ':=fun {b} e=>by
     refine ⟨?_,hi,rfl⟩
     rw [Ya3 (Ypt hi),Zfc,e]; rfl
   refine Ye0 TO rfl 40 _ _ _<|Br.mk (fun h=>next ?_) fun h=>next ?_
   · rw [Bool.eq_iff_iff]; simp at h ⊢; lia
   · rw [Bool.eq_iff_iff]; simp at h ⊢; lia
end
section
variable {w:World}{s:Shared}{d:Nat}{X:QX}{Q:QE}{σ:Hp}
inductive Yyi (xs:List Int) (n sg:Nat) (σ:Hp) (i:Nat) (ρ':Loc) (σ':Hp):Prop where
 | mk (cs:List Nat) (q0:cs.length=i) (q1:∀ c∈cs,Yak c=true) (q2:Has ρ' [("_law_found",.str (S cs)),("_law_script",.scr xs),("_law_many",.int n),("_law_signs",.ref sg)]) (q3:σ'=σ):Yyi xs n sg σ i ρ' σ'
theorem Yfi {cs:List Nat}{c:Nat}(h:∀ c∈cs,Yak c=true) (hc:Yak c=true):∀ x∈cs++[c],Yak x=true:=fun x hx=>(Zm.mp hx).elim (h x) fun e=>Zj.mp e▸hc
theorem Yre {n i:Nat}(hn:n≤40) (hi:i≤12):0≤(3:Int)+n+i∧(3:Int)+n+i < 1000000:=⟨Zvc (3+n+i),Zfb.mpr (Zk (Zcb (Zzb hn 3) hi) (by decide))⟩
theorem Ymt (TO:Yaf (T11 w s)) {xs:List Int}(hx:xs.length < 2 ^ 62) {n sg x y z:Nat}(hn:n≤40) (hs:Sg x y z) (hsg:σ[sg]?=some (.list [.str (S [x]),.str (S [y]),.str (S [z])]))
   (q:∀ cs:List Nat,cs.length≤12→(n≠1→cs.length≤5)→(∀ c∈cs,Yak c=true)→Q (.str (S cs)) σ):Yaa (T11 w s) (d+2) X (.glob "_law_text_by") [.scr xs,.int n,.ref sg] Q σ:=by
 refine Yaa.go TO rfl rfl ?_
 refine Cal.mk<|Ya4 TO (by decide) (by decide) hx ?_
 refine Br.mk (fun h=>Cal.mk<|Ya4 TO (by decide) (by decide) hx ?_) fun h=>?_
 · obtain ⟨sz,hsz,hlt⟩:=Yc5 (n:=13) (Yah (a:=xs.getD (1:Int).toNat 0) (b:=13) (by decide))
   refine Cal.range ⟨_,Yyi xs n sg σ,⟨[],rfl,(by intros; contradiction),⟨rfl,rfl,rfl,rfl,trivial⟩,rfl⟩,fun i ρ' σ' zz=>Ycv (Yah (by decide)).1 (Int.lt_trans (Yah (by decide)).2 (by decide)),fun ρ' σ' hJ=>?_,fun i v ρ' σ' hJ hy=>?_⟩
   · obtain ⟨cs,k1,k2,k3,rfl⟩:=hJ
     obtain ⟨r,rfl⟩:=k3.use
     rw [hsz] at k1
     rw [Zc,List.length_range,Zzc] at k1
     exact q cs (by rw [k1]; exact Zjc hlt) (fun e=>absurd (Int.ofNat.inj (eq_of_beq h)) e) k2
   · obtain ⟨cs,k1,k2,k3,rfl⟩:=hJ
     obtain ⟨r,rfl⟩:=k3.use
     rw [hsz,Zzc] at hy
     obtain ⟨hi,rfl⟩:=Yf6 hy
     refine ⟨_,rfl,Ybd TO rfl 60 _ _ _ _ ?_⟩
     have i12:i≤12:=Zjc (Zz hi (Za (Zq hlt) (by decide)))
     have c5:cs.length≤500:=k1▸Za i12 (by decide)
     have len:∀ {c:Nat},(cs++[c]).length=i+1:=fun {c}=>Zf.trans (congrArg Nat.succ k1)
     refine Cal.mk<|Ya4 TO (Yre hn i12).1 (Int.lt_trans (Yre hn i12).2 (by decide)) hx<|Bin.mull rfl<|Br.mk (fun zz=>Yf0 hs hsg (Yah (by decide)).1 (Yah (by decide)).2 fun c hc zz=>Yi6 c5 (by decide:1≤500) ⟨_,len,Yfi k2 hc,⟨rfl,rfl,rfl,rfl,trivial⟩,rfl⟩) fun zz=>Cal.mk<|Ycp TO fun c hc=>Yi6 c5 (by decide:1≤500) ⟨_,len,Yfi k2 hc,⟨rfl,rfl,rfl,rfl,trivial⟩,rfl⟩
 · obtain ⟨sz,hsz,hlt⟩:=Yc5 (n:=6) (Yah (a:=xs.getD (1:Int).toNat 0) (b:=6) (by decide))
   refine Cal.range ⟨_,Yyi xs n sg σ,⟨[],rfl,(by intros; contradiction),⟨rfl,rfl,rfl,rfl,trivial⟩,rfl⟩,fun i ρ' σ' zz=>Ycv (Yah (by decide)).1 (Int.lt_trans (Yah (by decide)).2 (by decide)),fun ρ' σ' hJ=>?_,fun i v ρ' σ' hJ hy=>?_⟩
   · obtain ⟨cs,k1,k2,k3,rfl⟩:=hJ
     obtain ⟨r,rfl⟩:=k3.use
     rw [hsz] at k1
     rw [Zc,List.length_range,Zzc] at k1
     exact q cs (by rw [k1]; exact Za (Zjc hlt) (by decide)) (fun zz=>by rw [k1]; exact Zjc hlt) k2
   · obtain ⟨cs,k1,k2,k3,rfl⟩:=hJ
     obtain ⟨r,rfl⟩:=k3.use
     rw [hsz,Zzc] at hy
     obtain ⟨hi,rfl⟩:=Yf6 hy
     refine ⟨_,rfl,Ybd TO rfl 60 _ _ _ _ ?_⟩
     have i12:i≤12:=Zjc (Zz hi (Za (Zq hlt) (by decide)))
     have c5:cs.length≤500:=k1▸Za i12 (by decide)
     have len:∀ {c:Nat},(cs++[c]).length=i+1:=fun {c}=>Zf.trans (congrArg Nat.succ k1)
     refine Cal.mk<|Ya4 TO (Yre hn i12).1 (Int.lt_trans (Yre hn i12).2 (by decide)) hx<|Bin.mull rfl<|Br.mk (fun zz=>Yf0 hs hsg (Yah (by decide)).1 (Yah (by decide)).2 fun c hc zz=>Yi6 c5 (by decide:1≤500) ⟨_,len,Yfi k2 hc,⟨rfl,rfl,rfl,rfl,trivial⟩,rfl⟩) fun zz=>Cal.mk<|Ycp TO fun c hc=>Yi6 c5 (by decide:1≤500) ⟨_,len,Yfi k2 hc,⟨rfl,rfl,rfl,rfl,trivial⟩,rfl⟩
end
section
variable {w:World}{s:Shared}{d:Nat}{X:QX}{Q:QE}{σ:Hp}
noncomputable def stV (pd:Nat) (cs:List Nat) (most c:Nat):Yas:=.sdict [("parts",.ref pd),("text",.str (S cs)),("steps",.int c),("most",.int most)]
section
variable {st l:Nat}{a b:Yas}{jk jk':Hp}
theorem Ysr (h:st < σ.length):(σ.set st a++jk)[st]?=some a:=by rw [Zbb (by rw [List.length_set]; exact h),Zw h]
theorem Yyg {o:Yas}(hl:l≠st) (h:σ[l]?=some o):(σ.set st a++jk)[l]?=some o:=by rw [Zbb (by rw [List.length_set]; exact (Zb.mp h).1),Zi (Ne.symm hl)]; exact h
theorem Yve (h:st < σ.length):(σ.set st a++jk).set st b++jk'=σ.set st b++(jk++jk'):=by rw [List.set_append_left _ _ (by rw [List.length_set]; exact h),List.set_set,Ze]
theorem Yuj (h:σ[st]?=some a):σ.set st a=σ:=by
 obtain ⟨h1,h2⟩:=Zb.mp h
 subst h2; exact List.set_getElem_self h1
end
noncomputable def Rw (r:V):Prop:=∃ (a b e:Int) (n:Str),r=.tup [.int a,.str n,.int b,.int e]
theorem Yhy (ts:List Row):∀ r∈ts.map Yc9,Rw r:=fun r hr=>by
 obtain ⟨x,zz,rfl⟩:=Zsb.mp hr
 exact ⟨_,_,_,_,rfl⟩
inductive CmR (most c:Nat) (o:Option (An Nd×Nat)) (σ':Hp):V→Nat→Prop where
 | no {us:List Nd}{c':Nat}(h:o=some ((none,us),c')):CmR most c o σ' .none c'
 | yes {e c' l:Nat}{ts:List Nd}(h:o=some ((some e,ts),c')) (hl:σ'[l]?=some (.list ((Nd.rowsL 0 ts).map Yc9))):CmR most c o σ' (.tup [.int e,.ref l]) c'
 | ovN (h:o=none):CmR most c o σ' .none (most+1)
 | ov {e:Int}{l:Nat}{rows:List V}(h:o=none) (hl:σ'[l]?=some (.list rows)) (hr:∀ r∈rows,Rw r) (hn:rows.length+c≤most+1):CmR most c o σ' (.tup [.int e,.ref l]) (most+1)
structure Ygd (rs:List (Str×Pt)) (pd st:Nat) (cs:List Nat) (most c:Nat) (σ:Hp):Prop where
 at_:σ[st]?=some (stV pd cs most c)
 tab:σ[pd]?=some (.sdict (Yb3 rs))
 ne:pd≠st
section
variable {rs:List (Str×Pt)}{pd st:Nat}{cs:List Nat}{most c:Nat}
theorem Ygd.lt (h:Ygd rs pd st cs most c σ):st < σ.length:=(Zb.mp h.at_).1
theorem Ygd.on {c':Nat}{jk:Hp}(h:Ygd rs pd st cs most c σ):Ygd rs pd st cs most c' (σ.set st (stV pd cs most c')++jk):=⟨Ysr h.lt,Yyg h.ne h.tab,h.ne⟩
theorem Ygd.self {jk:Hp}(h:Ygd rs pd st cs most c σ):σ.set st (stV pd cs most c)++jk=σ++jk:=by rw [Yuj h.at_]
end
structure CmQ (pd st:Nat) (cs:List Nat) (most c:Nat) (o:Option (An Nd×Nat)) (Q:QE) (σ:Hp):Prop where
 no:∀ us c' jk,o=some ((none,us),c')→Q .none (σ.set st (stV pd cs most c')++jk)
 yes:∀ (e:Nat) ts c' l jk,o=some ((some e,ts),c')→(σ.set st (stV pd cs most c')++jk)[l]?=some (.list ((Nd.rowsL 0 ts).map Yc9))→Q (.tup [.int e,.ref l]) (σ.set st (stV pd cs most c')++jk)
 ovN:∀ jk,o=none→Q .none (σ.set st (stV pd cs most (most+1))++jk)
 ov:∀ (e:Int) l rows jk,o=none→(σ.set st (stV pd cs most (most+1))++jk)[l]?=some (.list rows)→(∀ r∈rows,Rw r)→rows.length+c≤most+1→Q (.tup [.int e,.ref l]) (σ.set st (stV pd cs most (most+1))++jk)
theorem CmQ.of {pd st:Nat}{cs:List Nat}{most c:Nat}{o:Option (An Nd×Nat)}{Q:QE}{σ:Hp}(k:∀ v c' jk,CmR most c o (σ.set st (stV pd cs most c')++jk) v c'→Q v (σ.set st (stV pd cs most c')++jk)):CmQ pd st cs most c o Q σ :=
 ⟨fun us c' jk h=>k _ c' jk (.no h),fun e ts c' l jk h hl=>k _ c' jk (.yes h hl),fun jk h=>k _ _ jk (.ovN h),fun e l rows jk h hl hr hn=>k _ _ jk (.ov h hl hr hn)⟩
noncomputable def Yed (w:World) (s:Shared) (rs:List (Str×Pt)) (pd st:Nat) (cs:List Nat) (most d D:Nat):Prop:=∀ (p:Pt) (L:List Kid) (i c:Nat) (o:Option (An Nd×Nat)) (X:QX) (Q:QE) (σ:Hp),
 Bs (Yag rs) cs (Yay most) D L (.new p i) none c o→p.ok (· ∈ rs.map (·.1))→i≤cs.length→c≤most→Ygd rs pd st cs most c σ→CmQ pd st cs most c o Q σ→Yaa (T11 w s) (d+2*D+4) X (.glob "_law_come") [p.v,.int i,.ref st] Q σ
section
variable {rs:List (Str×Pt)}{pd st:Nat}{cs:List Nat}{most c D:Nat}{L:List Kid}{o:Option (An Nd×Nat)}
theorem Yek (TO:Yaf (T11 w s)) {v:V}{i:Int}(h:Ygd rs pd st cs most (most+1) σ) (q:Q .none σ):Yaa (T11 w s) (d+1) X (.glob "_law_come") [v,.int i,.ref st] Q σ:=by
 refine Yaa.go TO rfl rfl ?_
 exact Itm.dict h.at_ rfl<|Itm.dict h.at_ rfl<|Br.t (Zmb (Zfb.mpr (Zs most))) q
theorem Yez {a:List (Str×V)}{b:Yas}{l:Nat}{vs:List V}{jk jk':Hp}(h:st < σ.length) (hl:(σ.set st (.sdict a)++jk)[l]?=some (.list vs)):(σ.set st b++(jk++jk'))[l]?=some (.list vs):=by
 have hn:l≠st:=fun e=>by subst e; rw [Ysr h] at hl; cases hl
 have hlt:=(Zb.mp hl).1
 rw [Zf,List.length_set] at hlt
 rw [← Ze,Zbb (by rw [Zf,List.length_set]; exact hlt),← hl]
 by_cases hl':l < σ.length
 · rw [Zbb (by rwa [List.length_set]),Zbb (by rwa [List.length_set]),Zi (Ne.symm hn),Zi (Ne.symm hn)]
 · rw [Ztc (by rw [List.length_set]; exact Nat.le_of_not_lt hl'),Ztc (by rw [List.length_set]; exact Nat.le_of_not_lt hl'),List.length_set,List.length_set]
theorem Ysd {a b c c1 m:Nat}(h1:a+c≤c1) (h2:b+c1≤m):a+b+c≤m:=Za (Zr (by rw [Nat.add_comm a b,Nat.add_assoc])) (Za (Zzb h1 b) h2)
theorem Yky {a b c m:Nat}(h:a+b+c≤m) (hm:m≤10001):a+b≤sizeLine:=szo (Za (Za (Zy ..) h) (Za hm (by decide)))
theorem Ysj {a b:List V}(ha:∀ r∈a,Rw r) (hb:∀ r∈b,Rw r):∀ r∈a++b,Rw r:=fun r hr=>(Zm.mp hr).elim (ha r) (hb r)
inductive Jr (rs:List (Str×Pt)) (pd st:Nat) (cs:List Nat) (most c D:Nat) (L:List Kid) (o:Option (An Nd×Nat)) (ps:List Pt) (i:Nat) (σ:Hp) (t:Nat) (ρ':Loc) (σ':Hp):Prop where
 | on (c1 h lr:Nat) (ts:List Nd) (jk:Hp) (e:σ'=σ.set st (stV pd cs most c1)++jk) (b:Bs (Yag rs) cs (Yay most) D L ⟨.row ps,i,t,h,ts⟩ none c1 o) (hc:c1≤most) (hh:h≤cs.length) (hl:σ'[lr]?=some (.list ((Nd.rowsL 0 ts).map Yc9))) (hn:(Nd.rowsL 0 ts).length+c≤c1) (has:Has ρ' [("_law_place",.int h),("_law_rows",.ref lr),("_law_state",.ref st)]):Jr rs pd st cs most c D L o ps i σ t ρ' σ'
 | ov (h:Int) (lr:Nat) (rows:List V) (jk:Hp) (e:σ'=σ.set st (stV pd cs most (most+1))++jk) (ho:o=none) (hl:σ'[lr]?=some (.list rows)) (hr:∀ r∈rows,Rw r) (hn:rows.length+c≤most+1) (has:Has ρ' [("_law_place",.int h),("_law_rows",.ref lr),("_law_state",.ref st)]):Jr rs pd st cs most c D L o ps i σ t ρ' σ'
theorem Ynt {ts us:List Nd}{c c1 c2:Nat}(h:(Nd.rowsL 0 ts).length+c≤c1) (g:Nd.cnts us+c1≤c2):(Nd.rowsL 0 (ts++us)).length+c≤c2:=by
 rw [Nd.rowsL_app,Zf,Nd.rowsL_len 0 us,Nat.add_right_comm]
 exact Za (Zac h _) (Za (Zr (Nat.add_comm ..)) g)
theorem Yih {D:Nat}{p:Pt}{i c c':Nat}{e:Option Nat}{ts:List Nd}(h:Bs (Yag rs) cs (Yay most) D L (.new p i) none c (some ((e,ts),c'))) (hc:c≤most):Nd.cnts ts+c≤c'∧c'≤most:=by
 obtain ⟨g1,g3⟩:=h.ct _ _ rfl (.inr rfl)
 rw [show Nd.cnts (Fr.new p i:Fr Nd).kids+Yu1 Nd.cnts none=0 by rw [Fr.new,Nd.cnts1]; rfl] at g1
 exact ⟨g1,g3.elim (fun e=>e▸hc) id⟩
theorem Ypz {ps:List Pt}{i t h e c2:Nat}{ts us:List Nd}(b:Bs (Yag rs) cs (Yay most) D L ⟨.row ps,i,t,h,ts⟩ (some (some e,us)) c2 o) (hn:ts.length+us.length≤5000000):Bs (Yag rs) cs (Yay most) D L ⟨.row ps,i,t+1,e,ts++us⟩ none c2 o :=
 b.next (f':=⟨.row ps,i,t+1,e,ts++us⟩) (a':=none) rfl rfl rfl ⟨by rw [Zf]; exact hn,(by intros; contradiction),trivial⟩
theorem Ylg:∀ ts:List Nd,ts.length≤Nd.cnts ts
 | []=>Zkb _
 | .mk z1 z2 z3 z4::r=>by rw [Nd.cnts2,Nd.cnt1,List.length_cons]; exact Nat.add_comm r.length 1▸Zcb (Ztb ..) (Ylg r)
theorem Yw1 {ts:List Nd}{c c1:Nat}(h:(Nd.rowsL 0 ts).length+c≤c1) (hm:c1≤10000):ts.length≤5000000 :=
 Za (Ylg ts) (Nd.rowsL_len 0 ts▸Za (Za (Zy ..) h) (Za hm (by decide)))
theorem Yf8 (ih:∀ D',D' < D→Yed w s rs pd st cs most d D') {p:Pt}{h c1:Nat}{jk:Hp}{a:Option (An Nd)}{f f':Fr Nd}{Q:QE}(hp:p.ok (· ∈ rs.map (·.1))) (hS:Ygd rs pd st cs most c σ) (hh:h≤cs.length) (hc1:c1≤most)
   (b:Bs (Yag rs) cs (Yay most) D L f a c1 o) (hs:Yac (Yag rs) cs (Yay most) f a c1=.push f' p h c1)
   (kN:∀ jk',o=none→Q .none (σ.set st (stV pd cs most (most+1))++(jk++jk')))
   (kO:∀ (e:Int) l rows jk',o=none→(σ.set st (stV pd cs most (most+1))++(jk++jk'))[l]?=some (.list rows)→(∀ r∈rows,Rw r)→rows.length+c1≤most+1→Q (.tup [.int e,.ref l]) (σ.set st (stV pd cs most (most+1))++(jk++jk')))
   (kF:∀ us c2 jk',Bs (Yag rs) cs (Yay most) D L f' (some (none,us)) c2 o→c1≤c2→c2≤most→Q .none (σ.set st (stV pd cs most c2)++(jk++jk')))
   (kY:∀ (e:Nat) us l c2 jk',Bs (Yag rs) cs (Yay most) D L f' (some (some e,us)) c2 o→Nd.cnts us+c1≤c2→c2≤most→h≤e→e≤cs.length→(σ.set st (stV pd cs most c2)++(jk++jk'))[l]?=some (.list ((Nd.rowsL 0 us).map Yc9))→Q (.tup [.int e,.ref l]) (σ.set st (stV pd cs most c2)++(jk++jk'))) :
   Yaa (T11 w s) (d+2*D+2) X (.glob "_law_come") [p.v,.int h,.ref st] Q (σ.set st (stV pd cs most c1)++jk):=by
 have hlt:=hS.lt
 have hb:=b.out
 rw [hs] at hb
 refine hb.elim fun D' hb=>?_
 have hD:=hb.1
 have go:∀ {o':Option (An Nd×Nat)},Bs (Yag rs) cs (Yay most) D' (lvl f L) (.new p h) none c1 o'→CmQ pd st cs most c1 o' Q (σ.set st (stV pd cs most c1)++jk)→Yaa (T11 w s) (d+2*D+2) X (.glob "_law_come") [p.v,.int h,.ref st] Q (σ.set st (stV pd cs most c1)++jk) :=
   fun hb k=>(ih D' (hD▸Zs D') p _ h c1 _ _ _ _ hb hp hh hc1 hS.on k).le (Zr (by rw [hD]; rfl))
 have up:∀ {c':Nat}{jk':Hp}{v:V},Q v (σ.set st (stV pd cs most c')++(jk++jk'))→Q v ((σ.set st (stV pd cs most c1)++jk).set st (stV pd cs most c')++jk'):=fun q=>(Yve hlt).symm▸q
 have dn:∀ {c' l:Nat}{jk':Hp}{x:Yas},((σ.set st (stV pd cs most c1)++jk).set st (stV pd cs most c')++jk')[l]?=some x→(σ.set st (stV pd cs most c')++(jk++jk'))[l]?=some x:=fun q=>Yve hlt▸q
 rcases hb.2.2 with hb | hb
 · exact go hb.1 ⟨fun us c' jk' g=>((by cases g)),fun e ts c' l jk' g=>((by cases g)),fun jk' zz=>up (kN jk' hb.2),fun e l rows jk' zz hl hr hn=>up (kO e l rows jk' hb.2 (dn hl) hr hn)⟩
 · refine ex2 hb fun a' c2 hb=>go hb.1 ⟨fun us c' jk' g=>?_,fun e ts c' l jk' g hl=>?_,fun jk' g=>((by cases g)),fun e l rows jk' g=>((by cases g))⟩
   · have g:=Prod.mk.inj (Zab g)
     rw [g.1,g.2] at hb
     exact up (kF us c' jk' (hD▸hb.2) (Za (Ztb ..) (Yih hb.1 hc1).1) (Yih hb.1 hc1).2)
   · have g:=Prod.mk.inj (Zab g)
     rw [g.1,g.2] at hb
     exact up (kY e ts l c' jk' (hD▸hb.2) (Yih hb.1 hc1).1 (Yih hb.1 hc1).2 (hb.1.new_ge hh).1 (hb.1.new_ge hh).2 (dn hl))
theorem Yum {κ β:Type}{B:Bk β κ}{G:Str→Pt}{txt:List Nat}{ps:List Pt}{p:Pt}{i t h:Nat}{ks:List κ}{b:β}(e:ps[t]?=some p):Yac G txt B ⟨.row ps,i,t,h,ks⟩ none b=.push ⟨.row ps,i,t,h,ks⟩ p h b:=by
 show Ybj ps _ b=_
 unfold Ybj
 rw [show ps[(⟨.row ps,i,t,h,ks⟩:Fr κ).turn]?=some p from e]
theorem Ysx {κ β:Type}{B:Bk β κ}{G:Str→Pt}{txt:List Nat}{ps:List Pt}{i t h:Nat}{ks:List κ}{b:β}(e:ps.length≤t):Yac G txt B ⟨.row ps,i,t,h,ks⟩ none b=.pop (some h,ks) b:=by
 show Ybj ps _ b=_
 unfold Ybj
 rw [show ps[(⟨.row ps,i,t,h,ks⟩:Fr κ).turn]?=none from Zrb e]
theorem Ymd (TO:Yaf (T11 w s)) (ih:∀ D',D' < D→Yed w s rs pd st cs most d D') {ps:List Pt}{i:Nat}(hm:most≤10000) (b:Bs (Yag rs) cs (Yay most) D L (.new (.row ps) i) none c o) (hp:(Pt.row ps).ok (· ∈ rs.map (·.1))) (hi:i≤cs.length) (hc:c≤most) (hS:Ygd rs pd st cs most c σ) (q:CmQ pd st cs most c o Q σ) :
   Yaa (T11 w s) (d+2*D+3) X (.glob "_law_row") [(Pt.row ps).v,.int i,.ref st] Q σ:=by
 refine Yaa.go TO rfl rfl ?_
 rw [Pt.ok5] at hp
 have hit:∀ {σ:Hp},Ye6 σ (.tup (Pt.vs ps))=some (Pt.vs ps):=rfl
 have hvl:(Pt.vs ps).length=ps.length:=by rw [Pt.vs_map,Zc]
 refine Yc7.mk (Pt.vs ps) (Jr rs pd st cs most c D L o ps i σ) (.on c i σ.length [] [.list []] hS.self.symm b hc hi (by rw [Nd.rowsL1]; exact Yae) (by rw [Nd.rowsL1]; exact Zr (Nat.zero_add c)) ⟨rfl,rfl,rfl,trivial⟩) (fun zz zz zz zz=>hit) (fun ρ' σ' hJ=>?_) fun t x ρ' σ' hJ hx=>?_
 · rcases hJ with ⟨c1,h,lr,ts,jk,e,b,hc,hh,hl,hn,has⟩ | ⟨h,lr,rows,jk,e,ho,hl,hr,hn,has⟩
   · rw [← has.eq,e]
     rw [e] at hl
     exact q.yes _ _ c1 _ jk (b.pops (Ysx (Zr hvl.symm))) hl
   · rw [← has.eq,e]
     rw [e] at hl
     exact q.ov _ _ _ jk ho hl hr hn
 · refine (Yql hx).elim fun p hpx=>?_
   have hpt:=hpx.1
   have hpo:=Pt.oks_mem hp.2 p (Zn hpt)
   rw [hpx.2]
   refine ⟨_,rfl,Ybd TO rfl 60 _ _ _ _ ?_⟩
   clear hpx hx
   rcases hJ with ⟨c1,h,lr,ts,jk,e,b,hc1,hh,hl,hn,has⟩ | ⟨h,lr,rows,jk,e,ho,hl,hr,hn,has⟩
   · rw [← has.eq,e]
     rw [e] at hl
     clear e has
     have hlt:=hS.lt
     refine Cal.mk<|Yf8 ih hpo hS hh hc1 b (Yum hpt) (fun jk' ho=>Cmp.isN (r:=true) rfl (q.ovN _ ho)) (fun e l rows' jk' ho hl' hr' hn'=>?_) (fun us c2 jk' hb2 zz zz=>Cmp.isN (r:=true) rfl (q.no _ _ _ (hb2.pops (a':=(none,[])) (b':=c2) rfl))) fun e ts' l c2 jk' hb2 hct hcm zz he hl'=>?_
     · have hk:=Ysd (a:=((Nd.rowsL 0 ts).map Yc9).length) (by rw [Zc]; exact hn) hn'
       refine Cmp.isN (r:=false) rfl<|Bin.lists (Yez hlt hl) hl' (Yky hk (Zwb hm)) ?_
       exact .ov _ _ _ (jk++jk'++[_]) (Ze ..) ho Yae (Ysj (Yhy _) hr') (by rw [Zf]; exact hk) ⟨rfl,rfl,rfl,trivial⟩
     · have hk:=Ynt hn hct
       have hk':((Nd.rowsL 0 ts).map Yc9).length+((Nd.rowsL 0 ts').map Yc9).length+c≤c2:=by
         rw [Zc,Zc,← Zf,← Nd.rowsL_app]; exact hk
       refine Cmp.isN (r:=false) rfl<|Bin.lists (Yez hlt hl) hl' (Yky hk' (Za hcm (Zeb hm))) ?_
       exact .on c2 e _ (ts++ts') (jk++jk'++[_]) (Ze ..) (Ypz hb2 (Zf▸Yw1 hk (Za hcm hm))) hcm he (by rw [Nd.rowsL_app,Zfc]; exact Yae) hk ⟨rfl,rfl,rfl,trivial⟩
   · rw [← has.eq,e]
     exact Cal.mk<|Yek TO hS.on<|Cmp.isN (r:=true) rfl (q.ovN _ ho)
end
end
section
variable {w:World}{s:Shared}{d:Nat}{X:QX}{Q:QE}{σ:Hp}
section
variable {rs:List (Str×Pt)}{pd st:Nat}{cs:List Nat}{most c D:Nat}{L:List Kid}{o:Option (An Nd×Nat)}
inductive Jf (rs:List (Str×Pt)) (pd st:Nat) (cs:List Nat) (most c D:Nat) (L:List Kid) (o:Option (An Nd×Nat)) (ps:List Pt) (i:Nat) (σ:Hp) (t:Nat) (ρ':Loc) (σ':Hp):Prop where
 | on (c1:Nat) (jk:Hp) (e:σ'=σ.set st (stV pd cs most c1)++jk) (b:Bs (Yag rs) cs (Yay most) D L ⟨.alt ps,i,t,i,[]⟩ none c1 o) (hc:c1≤most) (hn:c≤c1) (has:Has ρ' [("_law_at",.int i),("_law_state",.ref st)]):Jf rs pd st cs most c D L o ps i σ t ρ' σ'
 | ov (jk:Hp) (e:σ'=σ.set st (stV pd cs most (most+1))++jk) (ho:o=none) (has:Has ρ' [("_law_at",.int i),("_law_state",.ref st)]):Jf rs pd st cs most c D L o ps i σ t ρ' σ'
theorem Yun {κ β:Type}{B:Bk β κ}{G:Str→Pt}{txt:List Nat}{ps:List Pt}{p:Pt}{i t h:Nat}{ks:List κ}{b:β}(e:ps[t]?=some p):Yac G txt B ⟨.alt ps,i,t,h,ks⟩ none b=.push ⟨.alt ps,i,t,h,ks⟩ p i b:=by
 show Ybg ps _ b=_
 unfold Ybg
 rw [show ps[(⟨.alt ps,i,t,h,ks⟩:Fr κ).turn]?=some p from e]
theorem Ytw {κ β:Type}{B:Bk β κ}{G:Str→Pt}{txt:List Nat}{ps:List Pt}{i t h:Nat}{ks:List κ}{b:β}(e:ps.length≤t):Yac G txt B ⟨.alt ps,i,t,h,ks⟩ none b=.pop (none,[]) b:=by
 show Ybg ps _ b=_
 unfold Ybg
 rw [show ps[(⟨.alt ps,i,t,h,ks⟩:Fr κ).turn]?=none from Zrb e]
theorem Yjh (TO:Yaf (T11 w s)) (ih:∀ D',D' < D→Yed w s rs pd st cs most d D') {ps:List Pt}{i:Nat}(b:Bs (Yag rs) cs (Yay most) D L (.new (.alt ps) i) none c o) (hp:(Pt.alt ps).ok (· ∈ rs.map (·.1))) (hi:i≤cs.length) (hc:c≤most) (hS:Ygd rs pd st cs most c σ) (q:CmQ pd st cs most c o Q σ) :
   Yaa (T11 w s) (d+2*D+3) X (.glob "_law_first") [(Pt.alt ps).v,.int i,.ref st] Q σ:=by
 refine Yaa.go TO rfl rfl ?_
 rw [Pt.ok6] at hp
 have hit:∀ {σ:Hp},Ye6 σ (.tup (Pt.vs ps))=some (Pt.vs ps):=rfl
 have hvl:(Pt.vs ps).length=ps.length:=by rw [Pt.vs_map,Zc]
 have hlt:=hS.lt
 refine Yc7.mk (Pt.vs ps) (Jf rs pd st cs most c D L o ps i σ) (.on c [] (hS.self.trans (Zlc _)).symm b hc (Zl _) ⟨rfl,rfl,trivial⟩) (fun zz zz zz zz=>hit) (fun ρ' σ' hJ=>?_) fun t x ρ' σ' hJ hx=>?_
 · rcases hJ with ⟨c1,jk,e,b,hc,hn,has⟩ | ⟨jk,e,ho,has⟩
   · rw [← has.eq,e]
     exact q.no _ c1 jk (b.pops (Ytw (Zr hvl.symm)))
   · rw [← has.eq,e]
     exact q.ovN jk ho
 · refine (Yql hx).elim fun p hpx=>?_
   have hpt:=hpx.1
   have hpo:=Pt.oks_mem hp.2.2 p (Zn hpt)
   rw [hpx.2]
   refine ⟨_,rfl,Ybd TO rfl 60 _ _ _ _ ?_⟩
   clear hpx hx
   rcases hJ with ⟨c1,jk,e,b,hc1,hn,has⟩ | ⟨jk,e,ho,has⟩
   · rw [← has.eq,e]
     clear e has
     refine Cal.mk<|Yf8 ih hpo hS hi hc1 b (Yun hpt) (fun jk' ho=>Cmp.notN (r:=true) rfl (.ov _ rfl ho ⟨rfl,rfl,trivial⟩)) (fun e l rows jk' ho hl' hr' hn'=>Cmp.notN (r:=false) rfl (q.ov _ _ _ _ ho hl' hr' (Za (Zzb hn _) hn'))) (fun us c2 jk' hb2 hle hcm=>?_) fun e us l c2 jk' hb2 zz zz zz zz hl'=>Cmp.notN (r:=false) rfl (q.yes _ _ _ _ _ (hb2.pops rfl) hl')
     have hb3:=hb2.next (f':=⟨.alt ps,i,t+1,i,[]⟩) (a':=none) rfl rfl rfl ⟨Zkb _,(by intros; contradiction),trivial⟩
     exact Cmp.notN (r:=true) rfl (.on c2 _ rfl hb3 hcm (Za hn hle) ⟨rfl,rfl,trivial⟩)
   · rw [← has.eq,e]
     exact Cal.mk<|Yek TO hS.on<|Cmp.notN (r:=true) rfl (.ov _ rfl ho ⟨rfl,rfl,trivial⟩)
inductive FvR (c h:Nat) (ts:List Nd) (len c1:Nat) (σ':Hp):An Nd→V→Prop where
 | no {us:List Nd}:FvR c h ts len c1 σ' (none,us) .none
 | yes {e l:Nat}{us:List Nd}(h1:h≤e) (h2:e≤len) (hl:σ'[l]?=some (.list ((Nd.rowsL 0 us).map Yc9))) (hn:(Nd.rowsL 0 (ts++us)).length+c≤c1):FvR c h ts len c1 σ' (some e,us) (.tup [.int e,.ref l])
inductive FvO (c most:Nat) (n:Nat) (σ':Hp):Nat→V→Prop where
 | no:FvO c most n σ' 0 .none
 | yes {e:Int}{l:Nat}{us:List V}(hl:σ'[l]?=some (.list us)) (hr:∀ r∈us,Rw r) (hn:n+us.length+c≤most+1):FvO c most n σ' 1 (.tup [.int e,.ref l])
inductive Jm (rs:List (Str×Pt)) (pd st:Nat) (cs:List Nat) (most c D:Nat) (L:List Kid) (o:Option (An Nd×Nat)) (p:Pt) (i:Nat) (σ:Hp) (n:Nat) (ρ':Loc) (σ':Hp):Prop where
 | on (c1 h lr:Nat) (ts:List Nd) (a:An Nd) (fv:V) (jk:Hp) (e:σ'=σ.set st (stV pd cs most c1)++jk) (en:n=cs.length - h+2) (b:Bs (Yag rs) cs (Yay most) D L ⟨.many p,i,0,h,ts⟩ (some a) c1 o) (hc:c1≤most) (hh:h≤cs.length) (hl:σ'[lr]?=some (.list ((Nd.rowsL 0 ts).map Yc9))) (hf:FvR c h ts cs.length c1 σ' a fv)
     (has:Has ρ' [("_law_part",(Pt.many p).v),("_law_place",.int h),("_law_rows",.ref lr),("_law_found",fv),("_law_state",.ref st)]):Jm rs pd st cs most c D L o p i σ n ρ' σ'
 | ov (h:Int) (lr:Nat) (rows:List V) (fv:V) (jk:Hp) (e:σ'=σ.set st (stV pd cs most (most+1))++jk) (ho:o=none) (hl:σ'[lr]?=some (.list rows)) (hr:∀ r∈rows,Rw r) (hn:rows.length+c≤most+1) (hf:FvO c most rows.length σ' n fv)
     (has:Has ρ' [("_law_part",(Pt.many p).v),("_law_place",.int h),("_law_rows",.ref lr),("_law_found",fv),("_law_state",.ref st)]):Jm rs pd st cs most c D L o p i σ n ρ' σ'
theorem Ynr (ih:∀ D',D' < D→Yed w s rs pd st cs most d D') {p:Pt}{i h c1 lr:Nat}{ts:List Nd}{jk:Hp}{a:Option (An Nd)}{f:Fr Nd}{Q:QE}(hp:p.ok (· ∈ rs.map (·.1))) (hS:Ygd rs pd st cs most c σ) (hh:h≤cs.length) (hc1:c1≤most)
   (b:Bs (Yag rs) cs (Yay most) D L f a c1 o) (hs:Yac (Yag rs) cs (Yay most) f a c1=.push ⟨.many p,i,0,h,ts⟩ p h c1) (hl:(σ.set st (stV pd cs most c1)++jk)[lr]?=some (.list ((Nd.rowsL 0 ts).map Yc9))) (hn:(Nd.rowsL 0 ts).length+c≤c1)
   (q:∀ v n jk',n≤cs.length - h+2→(∀ ρ',Has ρ' [("_law_part",(Pt.many p).v),("_law_place",.int h),("_law_rows",.ref lr),("_law_found",v),("_law_state",.ref st)]→Jm rs pd st cs most c D L o p i σ n ρ' jk')→Q v jk') :
   Yaa (T11 w s) (d+2*D+2) X (.glob "_law_come") [p.v,.int h,.ref st] Q (σ.set st (stV pd cs most c1)++jk):=by
 have hlt:=hS.lt
 have l0:((Nd.rowsL 0 ts).map Yc9).length+c≤most+1:=by rw [Zc]; exact Za hn (Zeb hc1)
 exact Yf8 ih hp hS hh hc1 b hs (fun jk' ho=>q _ 0 _ (Zkb _) fun ρ' has=>.ov _ lr ((Nd.rowsL 0 ts).map Yc9) _ _ rfl ho (Yez hlt hl) (Yhy _) l0 .no has)
   (fun e l rows jk' ho hl' hr' hn'=>q _ 1 _ (Nat.le_add_left_of_le (by decide)) fun ρ' has=>.ov _ lr ((Nd.rowsL 0 ts).map Yc9) _ _ rfl ho (Yez hlt hl) (Yhy _) l0 (.yes hl' hr' (Ysd (by rw [Zc]; exact hn) hn')) has)
   (fun us c2 jk' hb2 hle hcm=>q _ _ _ (Zl _) fun ρ' has=>.on c2 h lr ts _ _ _ rfl rfl hb2 hcm hh (Yez hlt hl) .no has)
   fun e us l c2 jk' hb2 hct hcm h1 h2 hl'=>q _ _ _ (Zl _) fun ρ' has=>.on c2 h lr ts _ _ _ rfl rfl hb2 hcm hh (Yez hlt hl) (.yes h1 h2 hl' (Ynt hn hct)) has
end
end
section
variable {w:World}{s:Shared}{d:Nat}{X:QX}{Q:QE}{σ:Hp}
section
variable {rs:List (Str×Pt)}{pd st:Nat}{cs:List Nat}{most c D:Nat}{L:List Kid}{o:Option (An Nd×Nat)}
theorem Yr2 {T:Tp}{d n:Nat}{sc:Scope}{X:QX}{ρ:Loc}{A B:Hp→Prop}(h:A σ):gw T d sc X (tsQ fun b σ=>if b then A σ else B σ) (n+2) (.al .And [] [] ρ σ):=show (if true=true then A σ else B σ) by rw [if_pos rfl]; exact h
theorem Yiz (TO:Yaf (T11 w s)) (ih:∀ D',D' < D→Yed w s rs pd st cs most d D') {p:Pt}{i:Nat}(hm:most≤10000) (b:Bs (Yag rs) cs (Yay most) D L (.new (.many p) i) none c o) (hp:(Pt.many p).ok (· ∈ rs.map (·.1))) (hi:i≤cs.length) (hc:c≤most) (hS:Ygd rs pd st cs most c σ) (q:CmQ pd st cs most c o Q σ) :
   Yaa (T11 w s) (d+2*D+3) X (.glob "_law_turns") [(Pt.many p).v,.int i,.ref st] Q σ:=by
 refine Yaa.go TO rfl rfl ?_
 rw [Pt.ok7] at hp
 have hlt:=hS.lt
 refine Cal.mk ?_
 rw [← hS.self]
 refine Ynr (c:=c) (lr:=σ.length) (ts:=[]) ih hp hS hi hc b rfl (by rw [hS.self,Nd.rowsL1]; exact Yae) (by rw [Nd.rowsL1]; exact Zr (Nat.zero_add c)) fun v n σ'' zz hJ=>?_
 refine Stx.mk<|Yba.while (Jm rs pd st cs most c D L o p i σ) n (hJ _ ⟨rfl,rfl,rfl,rfl,rfl,trivial⟩) ?_
 clear hJ
 rintro n ρ' σ' (⟨c1,h,lr,ts,a,fv,jk,e,en,b,hc1,hh,hl,hf,has⟩ | ⟨h,lr,rows,fv,jk,e,ho,hl,hr,hn,hf,has⟩)
 · obtain ⟨r,rfl⟩:=has.use
   subst e en
   refine Yej TO rfl 40 10 _ _ _ ?_
   cases hf with
   | no=>exact Cmp.notN (r:=true) rfl (q.yes _ _ c1 _ jk (b.pops rfl) hl)
   | @yes e l us h1 h2 hl2 hn2 =>
     refine Cmp.notN (r:=false) rfl<|Br.mk (fun hgt=>?_) fun hle=>?_
     · have hgt:h < e:=Zfb.mp (Zgb hgt)
       have hk:((Nd.rowsL 0 ts).map Yc9).length+((Nd.rowsL 0 us).map Yc9).length+c≤c1:=by
         rw [Nd.rowsL_app,Zf] at hn2
         rw [Zc,Zc]; exact hn2
       refine Yr2 (Ybd TO rfl 60 _ _ _ _<|Bin.lists hl hl2 (Yky hk (Za hc1 (Zeb hm))) ?_)
       refine Cal.mk ?_
       rw [Ze]
       refine Ynr (c:=c) (lr:=(σ.set st (stV pd cs most c1)++jk).length) (ts:=ts++us) ih hp hS h2 hc1 b (if_neg (Zoc hgt)) (by rw [← Ze,Nd.rowsL_app,Zfc]; exact Yae) hn2 fun v n σ'' hn' hJ=>?_
       exact ⟨n,Zk hn' (Nat.add_lt_add_right (Zqc (Zz hgt h2) hgt) 2),hJ _ ⟨rfl,rfl,rfl,rfl,rfl,trivial⟩⟩
     · have he:e=h:=Zpc (Zo.mp fun g=>absurd (of_decide_eq_false hle) (fun k=>k (Zfb.mpr g))) h1
       exact q.yes _ _ c1 _ jk (b.pops (a':=(some h,ts)) (b':=c1) (if_pos he)) hl
 · obtain ⟨r,rfl⟩:=has.use
   subst e
   refine Yej TO rfl 40 10 _ _ _ ?_
   cases hf with
   | no=>exact Cmp.notN (r:=true) rfl (q.ov _ _ _ jk ho hl hr hn)
   | yes hl2 hr2 hn2 =>
     refine Cmp.notN (r:=false) rfl<|Br.mk (fun hgt=>?_) fun hle=>?_
     · refine Yr2 (Ybd TO rfl 60 _ _ _ _<|Bin.lists hl hl2 (Yky hn2 (Zwb hm)) ?_)
       refine Cal.mk ?_
       rw [Ze]
       refine Yek TO hS.on ?_
       exact ⟨0,Nat.zero_lt_one,.ov _ _ _ _ (jk++[_]) rfl ho (by rw [← Ze]; exact Yae) (Ysj hr hr2) (by rw [Zf]; exact hn2) .no ⟨rfl,rfl,rfl,rfl,rfl,trivial⟩⟩
     · exact q.ov _ _ _ jk ho hl hr hn
end
end
section
variable {w:World}{s:Shared}{d:Nat}{X:QX}{Q:QE}{σ:Hp}
set_option tactic.hygienic true in
theorem Yiw (TO:Yaf (T11 w s)) {p:Pt}{c:Nat}(hp:p.isLf=true) (q:Q (.bool (p.takesC c)) σ):Yaa (T11 w s) (d+1) X (.glob "_law_takes") [p.v,.str ⟨#[c]⟩] Q σ:=by
 refine Yaa.go TO rfl rfl ?_
 cases p <;> first | cases hp | skip
 · rename_i a
   simp only [Pt.takesC2] at q
   refine Cal.ord<|Cal.ord ?_
   show Q (.bool ((c:Int) == (a:Int))) σ
   rw [show ((c:Int) == (a:Int))=(a == c) by rw [Bool.eq_iff_iff,beq_iff_eq,beq_iff_eq,Int.ofNat_inj]; exact eq_comm]
   exact q
 · rename_i a b
   refine Cal.ord<|Cal.ord<|Br.mk (fun h1=>Cal.ord<|Cal.ord ?_) fun h1=>?_
   · simp only [Pt.takesC3] at q
     have:a≤c:=by simpa using h1
     rw [Zmb this,Bool.true_and] at q
     show Q (.bool (decide ((c:Int)≤(b:Int)))) σ
     rw [show decide ((c:Int)≤(b:Int))=decide (c≤b) by simp]; exact q
   · simp only [Pt.takesC3] at q
     have:¬ a≤c:=by simpa using h1
     rw [Zrc this] at q
     show Q (.bool (decide ((a:Int)≤(c:Int)))) σ
     rw [h1]
     exact q
 · exact q
noncomputable def upV:V→V
 | .tup [.int a,n,b,e]=>.tup [.int (a+1),n,b,e]
 | v=>v
theorem Yvc {r:V}(h:Rw r):Rw (upV r):=by
 obtain ⟨a,b,e,n,rfl⟩:=h
 exact ⟨a+1,b,e,n,rfl⟩
theorem rows_up {n:Str}{i e:Nat}{ts:List Nd}:(Nd.rowsL 0 [.mk n i e ts]).map Yc9=[.tup [.int 0,.str n,.int i,.int e]]++((Nd.rowsL 0 ts).map Yc9).map upV:=by
 rw [Nd.rowsL2,Nd.rows1,Nd.rowsL1,Zlc,Nd.rowsL_up,List.map_cons,List.map_map,List.map_map]
 rfl
section
variable {rs:List (Str×Pt)}{pd st:Nat}{cs:List Nat}{most c D:Nat}{L:List Kid}{o:Option (An Nd×Nat)}
noncomputable def Yuy (rs:List (Str×Pt)):Prop:=∀ n∈rs.map (·.1),(Yag rs n).ok (· ∈ rs.map (·.1))∧Yhq (Yb3 rs) n=some (Yag rs n).v
theorem Yi8 {ρ:Loc}{K:QS}(h:σ[st]?=some (stV pd cs most c)) (q:K .next ρ (σ.set st (stV pd cs most (c+1)))):Yat ρ K (.int ((c:Int)+1)) (.ref st) (.str "steps") σ :=
 .mk st "steps" _ rfl rfl h (sz _ rfl) q
theorem Ys4 {sc scope:Scope}{ρ:Loc}{x:Str}{elt:Expr}{l:Nat}{rows:List V}(hl:σ[l]?=some (.list rows)) (hr:∀ r∈rows,Rw r) (hn:rows.length≤sizeLine)
   (he:∀ r,Rw r→Yal (T11 w s) d (Yhz scope sc) (upd (Ybo scope ρ) x (some r)) X elt (fun v σ'=>v=upV r∧σ'=σ) σ) (q:Q (.ref σ.length) (σ++[.list (rows.map upV)])):Yc6 (T11 w s) d sc ρ X scope x [] elt Q (.ref l) σ:=by
 refine ⟨rows,fun i acc σ'=>acc=(rows.take i).map upV∧σ'=σ,⟨rfl,rfl⟩,fun i acc σ' hJ=>?_,fun acc σ' hJ=>?_,fun i y acc σ' hJ hy=>?_⟩
 · obtain ⟨rfl,rfl⟩:=hJ
   exact ⟨Ybe hl,by rw [Zc,List.length_take]; exact Za (Nat.min_le_right ..) hn⟩
 · obtain ⟨rfl,rfl⟩:=hJ
   rw [Zgc]; exact q
 · obtain ⟨rfl,rfl⟩:=hJ
   refine (he y (hr y (Zn hy))).mon fun v σ' h=>?_
   obtain ⟨rfl,rfl⟩:=h
   exact ⟨by rw [Ya3 hy,Zfc]; rfl,rfl⟩
theorem Yjw (TO:Yaf (T11 w s)) (hN:Yuy rs) {n:Str}{i:Int}(hn:n∈rs.map (·.1)) (hS:Ygd rs pd st cs most (most+1) σ) (q:Q .none σ):Yaa (T11 w s) (d+2) X (.glob "_law_called") [.str n,.int i,.ref st] Q σ:=by
 refine Yaa.go TO rfl rfl ?_
 exact Itm.dict hS.at_ rfl<|Itm.dict hS.tab (hN n hn).2<|Cal.mk<|Yek TO hS<|Cmp.isN (r:=true) rfl q
theorem Ym7 (TO:Yaf (T11 w s)) (ih:Yed w s rs pd st cs most d D) (hN:Yuy rs) {n:Str}{i:Nat}{o':Option (An Nd×Nat)}(hm:most≤10000) (hn:n∈rs.map (·.1)) (hi:i≤cs.length) (hc:c+1≤most) (hS:Ygd rs pd st cs most (c+1) σ)
   (b:Bs (Yag rs) cs (Yay most) D L (.new (Yag rs n) i) none (c+1) o') (q:CmQ pd st cs most c (o'.map fun x=>(Yb7 n i x.1,x.2)) Q σ):Yaa (T11 w s) (d+2*D+5) X (.glob "_law_called") [.str n,.int i,.ref st] Q σ:=by
 refine Yaa.go TO rfl rfl ?_
 refine Itm.dict hS.at_ rfl<|Itm.dict hS.tab (hN n hn).2<|Cal.mk<|ih _ _ i (c+1) o' _ _ _ b (hN n hn).1 hi hc hS<|.of fun v c' jk hv=>?_
 have key:(v=.none∧Q .none (σ.set st (stV pd cs most c')++jk))∨∃ (e:Int) (l:Nat) (rows:List V),v=.tup [.int e,.ref l]∧(σ.set st (stV pd cs most c')++jk)[l]?=some (.list rows)∧(∀ r∈rows,Rw r)∧rows.length≤10001 ∧
     ∀ l jk',(σ.set st (stV pd cs most c')++jk')[l]?=some (.list ([.tup [.int 0,.str n,.int i,.int e]]++rows.map upV))→Q (.tup [.int e,.ref l]) (σ.set st (stV pd cs most c')++jk'):=by
   cases hv with
   | no h=>subst h; exact .inl ⟨rfl,q.no _ _ _ rfl⟩
   | ovN h=>subst h; exact .inl ⟨rfl,q.ovN _ rfl⟩
   | @yes e c' l ts h hl =>
     subst h
     obtain ⟨hct,hcm⟩:=Yih b hc
     refine .inr ⟨e,l,_,rfl,hl,Yhy _,?_,fun l jk' hl'=>q.yes _ _ _ _ _ rfl ?_⟩
     · rw [Zc,Nd.rowsL_len]; exact Za (Za (Zy ..) hct) (Za hcm (Zeb hm))
     · rw [← rows_up] at hl'; exact hl'
   | @ov e l rows h hl hr hn' =>
     subst h
     refine .inr ⟨e,l,rows,rfl,hl,hr,Za (Za (Zy ..) hn') (Zwb hm),fun l jk' hl'=>q.ov _ _ _ _ rfl hl' (fun r h=>?_) ?_⟩
     · rcases Zm.mp h with h | h
       · cases Zj.mp h; exact ⟨_,_,_,_,rfl⟩
       · obtain ⟨x,hx,rfl⟩:=Zsb.mp h
         exact Yvc (hr x hx)
     · rw [Zf,Zc,List.length_singleton,Nat.add_comm 1,Nat.add_assoc,Nat.add_comm 1]; exact hn'
 clear hv q b ih
 rcases key with ⟨rfl,q⟩ | ⟨e,l,rows,rfl,hl,hr,hle,q⟩
 · exact Cmp.isN (r:=true) rfl q
 · refine Cmp.isN (r:=false) rfl ?_
   refine Ys4 (Yab hl) hr (szo (Za hle (by decide))) (fun r hr=>Ye0 TO rfl 0 _ _ _ ?_) ?_
   · obtain ⟨a,b,e,n,rfl⟩:=hr
     exact ⟨rfl,rfl⟩
   · refine Bin.lists (Yab Yae) Yae (szo ?_) ?_
     · rw [Zc]; exact Za (Zzb hle 1) (by decide)
     · have:=q (σ.set st (stV pd cs most c')++(jk++[Yas.list [.tup [.int 0,.str n,.int i,.int e]],Yas.list (rows.map upV)])).length (jk++[Yas.list [.tup [.int 0,.str n,.int i,.int e]],.list (rows.map upV)]++[.list ([.tup [.int 0,.str n,.int i,.int e]]++rows.map upV)]) (by rw [← Ze]; exact Yae)
       simp only [Ze,List.cons_append,List.nil_append] at this ⊢
       exact this
end
end
section
variable {w:World}{s:Shared}{d:Nat}{X:QX}{Q:QE}{σ:Hp}
section
variable {rs:List (Str×Pt)}{pd st:Nat}{cs:List Nat}{most c D:Nat}{L:List Kid}{o:Option (An Nd×Nat)}
theorem Yk9 {p:Pt}{i:Nat}(hp:p.isLf=true) (b:Bs (Yag rs) cs (Yay most) D L (.new p i) none c o):(c+1≤most∧o=some ((if (match cs[i]? with | some x=>p.takesC x | none=>false)=true then some (i+1) else none,[]),c+1))∨(¬ c+1≤most∧o=none):=by
 have hs:Yac (Yag rs) cs (Yay most) (.new p i:Fr Nd) none c=Yau cs (Yay most) p (.new p i) c:=by cases p <;> first | rfl | cases hp
 have h:=b.out
 rw [hs] at h
 unfold Yau at h
 by_cases hc:c+1≤most
 · refine .inl ⟨hc,?_⟩
   rw [show (Yay most).look c=some (c+1) from if_pos hc] at h
   dsimp only [Fr.new] at h
   cases hx:cs[i]? with
   | none=>rw [hx] at h; exact h
   | some x =>
     rw [hx] at h
     dsimp only at h ⊢
     by_cases ht:p.takesC x=true
     · rw [if_pos ht] at h ⊢; exact h
     · rw [if_neg ht] at h ⊢; exact h
 · refine .inr ⟨hc,?_⟩
   rw [show (Yay most).look c=none from if_neg hc] at h
   exact h
theorem Ygc (TO:Yaf (T11 w s)) {p:Pt}{i:Nat}(hlf:p.isLf=true) (hl:cs.length≤12) (b:Bs (Yag rs) cs (Yay most) D L (.new p i) none c o) (hi:i≤cs.length) (hc:c≤most) (hS:Ygd rs pd st cs most c σ) (q:CmQ pd st cs most c o Q σ) :
   Yaa (T11 w s) (d+4) X (.glob "_law_come") [p.v,.int i,.ref st] Q σ:=by
 refine Yaa.go TO rfl rfl ?_
 have hS1:Ygd rs pd st cs most (c+1) (σ.set st (stV pd cs most (c+1))):=by have:=hS.on (c':=c+1) (jk:=[]); rw [Zlc] at this; exact this
 have yes:∀ jk l,(match cs[i]? with | some x=>p.takesC x | none=>false)=true→(σ.set st (stV pd cs most (c+1))++jk)[l]?=some (.list [])→Q (.tup [.int ((i:Int)+1),.ref l]) (σ.set st (stV pd cs most (c+1))++jk):=fun jk l ht hl=>by
   rcases Yk9 hlf b with ⟨zz,ho⟩ | ⟨hm,ho⟩
   · rw [ht,if_pos rfl] at ho
     exact q.yes _ [] _ _ _ ho (by rw [Nd.rowsL1]; exact hl)
   · have e:c=most:=Zpc hc (Zjc (Nat.not_le.mp hm))
     subst e
     exact q.ov _ _ [] _ ho hl (by intros; contradiction) (Za (Zr (Nat.zero_add c)) (Nat.le_succ c))
 have no:(match cs[i]? with | some x=>p.takesC x | none=>false)=false→Q .none (σ.set st (stV pd cs most (c+1))):=fun ht=>by
   have ap:Q .none (σ.set st (stV pd cs most (c+1))++[])→Q .none (σ.set st (stV pd cs most (c+1))):=fun h=>Zlc (σ.set st (stV pd cs most (c+1)))▸h
   rcases Yk9 hlf b with ⟨zz,ho⟩ | ⟨hm,ho⟩
   · rw [ht,if_neg (by decide)] at ho
     exact ap (q.no _ _ [] ho)
   · have e:c=most:=Zpc hc (Zjc (Nat.not_le.mp hm))
     subst e
     exact ap (q.ovN [] ho)
 refine Itm.dict hS.at_ rfl<|Itm.dict hS.at_ rfl<|Br.f (Zrc (fun h=>absurd (Zfb.mp h) (Zo.mpr hc))) ?_
 cases p <;> first | cases hlf | skip
 all_goals
   refine Itm.dict hS.at_ rfl<|Yi8 hS.at_<|Itm.dict hS1.at_ rfl<|Cal.len (n:=cs.length) (Yep (Ya6 cs)) (Zk hl (by decide))<|Br.mk (fun h=>?_) fun h=>?_
   · have h:i < cs.length:=Zfb.mp (Zgb h)
     refine Itm.dict hS1.at_ rfl<|Itm.strN (c:=cs[i]) (Zp h) (Zk hl (by decide))<|Cal.mk<|Yiw TO rfl ?_
     generalize ht:Pt.takesC _ cs[i]=bb
     cases bb
     · exact no (by rw [Zp h]; exact ht)
     · exact yes [.list []] _ (by rw [Zp h]; exact ht) Yae
   · exact no (by rw [Zrb (Nat.le_of_not_lt fun g=>absurd (of_decide_eq_false h) fun k=>k (Zfb.mpr g))])
theorem Ytf (TO:Yaf (T11 w s)) (ih:∀ D',D' < D→Yed w s rs pd st cs most d D') {p:Pt}{i:Nat}(b:Bs (Yag rs) cs (Yay most) D L (.new (.nt p) i) none c o) (hp:(Pt.nt p).ok (· ∈ rs.map (·.1))) (hi:i≤cs.length) (hc:c≤most) (hS:Ygd rs pd st cs most c σ) (q:CmQ pd st cs most c o Q σ) :
   Yaa (T11 w s) (d+2*D+4) X (.glob "_law_come") [(Pt.nt p).v,.int i,.ref st] Q σ:=by
 refine Yaa.go TO rfl rfl ?_
 refine Itm.dict hS.at_ rfl<|Itm.dict hS.at_ rfl<|Br.f (Zrc (fun h=>absurd (Zfb.mp h) (Zo.mpr hc))) ?_
 rw [Pt.ok8] at hp
 have hlt:=hS.lt
 have hb:=b.out
 rw [show Yac (Yag rs) cs (Yay most) (.new (.nt p) i:Fr Nd) none c=.push (.new (.nt p) i) p i c from rfl] at hb
 refine hb.elim fun D' hb=>?_
 have hD:=hb.1
 have hb:=hb.2.2
 have hd:d+2*D'+4≤d+2*D+3:=by rw [hD]; exact Nat.le_succ _
 have up:∀ {c':Nat}{jk:Hp}{v:V},Q v (σ.set st (stV pd cs most c')++(jk++[.list []]))→Q v (σ.set st (stV pd cs most c')++jk++[.list []]):=fun h=>Ze .. ▸ h
 have gn:∀ {c':Nat}{jk:Hp},(σ.set st (stV pd cs most c')++(jk++[.list []]))[(σ.set st (stV pd cs most c')++jk).length]?=some (.list []):=fun {c' jk}=>by rw [← Ze]; exact Yae
 rcases hb with hb | hb
 · exact Cal.mk<|(ih D' (hD▸Zs D') p _ i c none _ _ _ hb.1 hp hi hc hS ⟨fun us c' jk g=>((by cases g)),fun e ts c' l jk g=>((by cases g)),fun jk zz=>by
     have this:=up (q.ov i _ [] _ hb.2 (gn (jk:=jk)) (by intros; contradiction) (Za (Zr (Nat.zero_add c)) (Zeb hc)))
     exact Cmp.isN (r:=true) rfl this,fun e l rows jk zz zz zz zz=>Cmp.isN (r:=false) rfl (q.ovN _ hb.2)⟩).le hd
 · refine ex2 hb fun a' c2 hb=>Cal.mk<|(ih D' (hD▸Zs D') p _ i c _ _ _ _ hb.1 hp hi hc hS ⟨fun us c' jk g=>?_,fun e ts c' l jk g hl=>Cmp.isN (r:=false) rfl (q.no [] c' _ ?_),fun jk g=>((by cases g)),fun e l rows jk g=>((by cases g))⟩).le hd
   · have g:=Prod.mk.inj (Zab g)
     rw [g.1,g.2] at hb
     have this:=up (q.yes i [] c' _ _ (hb.2.pops rfl) (by rw [Nd.rowsL1]; exact gn (jk:=jk)))
     exact Cmp.isN (r:=true) rfl this
   · have g:=Prod.mk.inj (Zab g)
     rw [g.1,g.2] at hb; exact hb.2.pops rfl
theorem CmQ.re {x:Yas}(q:CmQ pd st cs most c o Q σ):CmQ pd st cs most c o Q (σ.set st x) :=
 ⟨fun us c' jk g=>by rw [List.set_set]; exact q.no us c' jk g,fun e ts c' l jk g hl=>by rw [List.set_set] at hl ⊢; exact q.yes e ts c' l jk g hl,fun jk g=>by rw [List.set_set]; exact q.ovN jk g,fun e l rows jk g hl hr hn=>by rw [List.set_set] at hl ⊢; exact q.ov e l rows jk g hl hr hn⟩
theorem Yoz (TO:Yaf (T11 w s)) (hN:Yuy rs) (hm:most≤10000) (ih:∀ D',D' < D→Yed w s rs pd st cs most d D') {n:Str}{i:Nat}(b:Bs (Yag rs) cs (Yay most) D L (.new (.rule n) i) none c o) (hn:n∈rs.map (·.1)) (hi:i≤cs.length) (hc:c≤most) (hS:Ygd rs pd st cs most c σ) (q:CmQ pd st cs most c o Q σ) :
   Yaa (T11 w s) (d+2*D+4) X (.glob "_law_come") [(Pt.rule n).v,.int i,.ref st] Q σ:=by
 refine Yaa.go TO rfl rfl ?_
 refine Itm.dict hS.at_ rfl<|Itm.dict hS.at_ rfl<|Br.f (Zrc (fun h=>absurd (Zfb.mp h) (Zo.mpr hc))) ?_
 have hS1:Ygd rs pd st cs most (c+1) (σ.set st (stV pd cs most (c+1))):=by have:=hS.on (c':=c+1) (jk:=[]); rw [Zlc] at this; exact this
 refine Itm.dict hS.at_ rfl<|Yi8 hS.at_ ?_
 have hb:=b.out
 rcases Ybl (G:=Yag rs) (txt:=cs) (most:=most) (c:=c) (f:=.new (.rule n) i) rfl with ⟨h1,e⟩ | e <;> rw [e] at hb
 · obtain ⟨D',hD,zz,hb⟩:=hb
   have hd:d+2*D'+5≤d+2*D+3:=by rw [hD]; exact Zl _
   have ih:=ih D' (hD▸Zs D')
   have fin:∀ {L':List Kid}{o':Option (An Nd×Nat)},Bs (Yag rs) cs (Yay most) D' L' (.new (Yag rs n) i) none (c+1) o'→(o=o'.map fun x=>(Yb7 n i x.1,x.2))→Yaa (T11 w s) (d+2*D'+5) X (.glob "_law_called") [.str n,.int i,.ref st] Q (σ.set st (stV pd cs most (c+1))):=fun {L' o'} hb ho =>
     Ym7 TO ih hN hm hn hi h1 hS1 hb (ho▸q.re)
   refine Cal.mk (Yaa.le ?_ hd)
   rcases hb with ⟨hb,ho⟩ | ⟨a',c2,hb,hb2⟩
   · exact (fin hb ho).mono (fun zz zz h=>h) fun zz zz h=>h
   · exact (fin hb (hb2.pops rfl)).mono (fun zz zz h=>h) fun zz zz h=>h
 · have hb:o=none:=hb
   have hcm:c=most:=by
     refine Zpc hc (Zjc (Nat.not_le.mp fun h1=>?_))
     rcases Ybl (G:=Yag rs) (txt:=cs) (most:=most) (c:=c) (f:=.new (.rule n) i) rfl with ⟨zz,e'⟩ | e'
     · rw [e'] at e; cases e
     · simp only [Yac,Fr.new,Yay,Yco,if_pos h1] at e'; cases e'
   subst hcm
   refine Cal.mk<|(Yjw TO hN hn hS1 ?_).le (Nat.le_add_left_of_le (by decide:2≤3))
   have:=q.ovN [] hb
   rw [Zlc] at this; exact this
set_option tactic.hygienic true in
theorem Yq2 (TO:Yaf (T11 w s)) (hN:Yuy rs) (hm:most≤10000) (hl:cs.length≤12):∀ D,Yed w s rs pd st cs most d D:=fun D=>by
 induction D using Nat.strongRecOn with
 | _ D ih =>
   intro p L i c o X Q σ b hp hi hc hS q
   cases p with
   | sign _=>exact (Ygc (d:=d) TO rfl hl b hi hc hS q).le (by lia)
   | span _ _=>exact (Ygc (d:=d) TO rfl hl b hi hc hS q).le (by lia)
   | any=>exact (Ygc (d:=d) TO rfl hl b hi hc hS q).le (by lia)
   | nt p=>exact Ytf TO ih b hp hi hc hS q
   | rule n=>exact Yoz TO hN hm ih b (by rw [Pt.ok4] at hp; exact hp) hi hc hS q
   | row ps =>
     refine Yaa.go TO rfl rfl ?_
     exact Itm.dict hS.at_ rfl<|Itm.dict hS.at_ rfl<|Br.f (Zrc (fun h=>absurd (Zfb.mp h) (Zo.mpr hc)))<|Cal.mk<|Ymd TO ih hm b hp hi hc hS q
   | alt ps =>
     refine Yaa.go TO rfl rfl ?_
     exact Itm.dict hS.at_ rfl<|Itm.dict hS.at_ rfl<|Br.f (Zrc (fun h=>absurd (Zfb.mp h) (Zo.mpr hc)))<|Cal.mk<|Yjh TO ih b hp hi hc hS q
   | many p =>
     refine Yaa.go TO rfl rfl ?_
     exact Itm.dict hS.at_ rfl<|Itm.dict hS.at_ rfl<|Br.f (Zrc (fun h=>absurd (Zfb.mp h) (Zo.mpr hc)))<|Cal.mk<|Yiz TO ih hm b hp hi hc hS q
end
end
section
variable {w:World}{s:Shared}{d:Nat}{X:QX}{Q:QE}{σ:Hp}
theorem Yti {i n:Nat}(h:i < n):seqIndex? (i:Int) n=some i:=by
 unfold seqIndex?
 simp only [show ¬ ((i:Int) < 0) by lia,if_false]
 rw [if_pos (by simp only [Zob,decide_eq_true_eq]; lia)]
 simp
noncomputable def Yuw (r:Row):PyData:=.tuple [.int r.1,.str r.2.1.1,.int r.2.1.2,.int r.2.2]
theorem Yle {r:Row}(h:sOk r.2.1.1):Yer σ (Yuw r) (Yc9 r):=.tup (.cons (.int _)<|.cons (.str h)<|.cons (.int _)<|.cons (.int _) .nil)
theorem Yq7 (r:Row):PyData.eqv (Yuw r) (Yuw r)=true:=by
 simp [Yuw,PyData.eqv,PyData.eqvAll]
theorem Ytn (r:Row):(Yuw r).depth≤40:=by
 simp [Yuw,PyData.depth,PyData.depthAll]
theorem Yff (TO:Yaf (T11 w s)) {i:Int}(q:Q (.bool true) σ):Yaa (T11 w s) (d+1) X (.glob "_law_whole") [.int i] Q σ:=by
 refine Yaa.go TO rfl rfl ?_
 exact Cal.isiInt<|Cal.isiNo q
theorem Ykx (TO:Yaf (T11 w s)) (q:Q (.bool true) σ):Yaa (T11 w s) (d+2) X (.glob "_law_like") [.none,.none] Q σ:=by
 refine Yaa.go TO rfl rfl ?_
 exact Cmp.isN (r:=true) rfl<|Cmp.isN (r:=true) rfl q
theorem Ynf (TO:Yaf (T11 w s)) {lf lr:Nat}{e:Int}{R:List Row}(hs:∀ r∈R,sOk r.2.1.1) (hn:R.length≤10001) (h1:σ[lf]?=some (.list (R.map Yc9))) (h2:σ[lr]?=some (.list (R.map Yc9))) (q:Q (.bool true) σ):Yaa (T11 w s) (d+2) X (.glob "_law_like") [.ref lf,.tup [.int e,.ref lr]] Q σ:=by
 refine Yaa.go TO rfl rfl ?_
 have l1:Ypr σ (.ref lf)=some R.length:=Yfz h1 (Zc _)
 have l2:Ypr σ (.ref lr)=some R.length:=Yfz h2 (Zc _)
 have hb:R.length < 2 ^ 62:=Zk hn (by decide)
 refine Cmp.isN (r:=false) rfl<|Cal.isi (b:=true) (Yhu h1)<|Cal.len l1 hb<|Cal.len l2 hb<|Br.f (by simp)<|Cal.len l1 hb<|Cal.range ⟨_,fun i ρ' σ'=>Has ρ' [("_law_found",.ref lf),("_law_due",.tup [.int e,.ref lr])]∧σ'=σ,⟨⟨rfl,rfl,trivial⟩,rfl⟩,fun i ρ' σ' zz=>Ycv (Zvc _) (Zfb.mpr hb),fun ρ' σ' hJ=>?_,fun i v ρ' σ' hJ hy=>?_⟩
 · rw [hJ.2]; exact q
 · obtain ⟨has,rfl⟩:=hJ
   obtain ⟨r,rfl⟩:=has.use
   rw [Zzc] at hy
   obtain ⟨hi,rfl⟩:=Yf6 hy
   refine ⟨_,rfl,Ybd TO rfl 60 _ _ _ _ ?_⟩
   have hr:=hs R[i] (List.getElem_mem hi)
   have g1:(R.map Yc9)[i]?=some (Yc9 R[i]):=by rw [Zdb,Zp hi]; rfl
   have hk:seqIndex? (i:Int) (R.map Yc9).length=some i:=Yti (by rw [Zc]; exact hi)
   refine Itm.list h1 hk g1 ⟨by lia,by lia⟩<|Cal.isi (b:=true) rfl<|Cal.lenT rfl<|Cal.isi (b:=true) rfl<|Itm.list h2 hk g1 ⟨by lia,by lia⟩<|Cmp.neR (Yle hr) (Yle hr) (Ytn R[i]) (Yq7 R[i]) ?_
   exact Cal.mk<|Yff TO<|Cal.mk<|Yff TO<|Cal.mk<|Yff TO ⟨⟨rfl,rfl,trivial⟩,rfl⟩
end
section
variable {w:World}{s:Shared}{d:Nat}{X:QX}{Q:QE}{σ:Hp}
inductive PlR (o:Option (An Nd×Nat)) (n0:Nat) (σ':Hp) (l:Nat):Prop where
 | long (h:o=none) (hl:σ'[l]?=some (.list [.bool false,.bool true])):PlR o n0 σ' l
 | no {c:Nat}{us:List Nd}(h:o=some ((none,us),c)) (hl:σ'[l]?=some (.list [.bool true,.none])):PlR o n0 σ' l
 | yes {lr e c:Nat}{nd:Nd}(h:o=some ((some e,[nd]),c)) (hl:σ'[l]?=some (.list [.bool true,.ref lr])) (hr:σ'[lr]?=some (.list ((nd.rows 0).map Yc9))) (hlo:n0≤lr):PlR o n0 σ' l
section
variable {rs:List (Str×Pt)}{g gb:Nat}{cs:List Nat}{most j:Nat}{name:Str}{o:Option (An Nd×Nat)}
theorem Ybs (TO:Yaf (T11 w s)) (hg:Yan rs) (hG:GrT rs g gb σ) (hc:cs.length < 100000) (hin:name∈rs.map (·.1)) (hj:j≤cs.length) (hfin:∃ n,Fin (Yag rs) cs (Yay most) (· = o) n ⟨[.new (.rule name) j],none,0⟩)
   (hk:∀ e us c,o=some ((some e,us),c)→∃ nd,us=[nd]∧(nd.rows 0).length≤5000000)
   (q:∀ l σ',On σ [] σ' []→σ.length≤σ'.length→PlR o σ.length σ' l→Q (.ref l) σ'):Yaa (T11 w s) (d+9) X (.glob "_law_plainly") [.ref g,.str (S cs),.str name,.int j,.int most] Q σ:=by
 refine Yaa.go TO rfl rfl ?_
 have on:∀ {σ' jk:Hp},On σ [] σ' []→σ.length≤σ'.length→On σ [] (σ'++jk) []:=fun o l=>o.trans .up l
 have len:∀ {σ' jk:Hp},σ.length≤σ'.length→σ.length≤(σ'++jk).length:=fun l=>by rw [Zf]; exact Nat.le_add_right_of_le l
 refine Stx.mk<|Yba.try<|Ybd TO rfl 60 _ _ _ _<|Cal.mk<|Ymr (d:=d) (P:=(· = o)) TO hg hG hc (fun h=>absurd hin h) (fun zz h=>?_) (fun zz j' e zz=>?_) (fun σ' hp h1 h2=>?_) (fun e us c hp=>hk e us c hp.symm) (fun us c σ' hp h1 h2=>?_) fun e nd c σ' hp h1 h2=>?_
 · exact h.elim (fun h=>absurd h (Int.not_lt.mpr (Zvc j))) fun h=>absurd (Zfb.mp h) (Zo.mpr hj)
 · cases Int.ofNat_inj.mp e; exact hfin
 · exact Yix.hit TO rfl rfl rfl rfl rfl rfl rfl fun ρ=>Ybd TO.at rfl 60 _ _ _ _<|Cal.mk<|Yo7 (d:=d+6) TO.at fun jk ρ'=>q _ _ (on (on h1 h2) (len h2)) (len (len h2)) (.long hp.symm Yae)
 · exact q _ _ (on h1 h2) (len h2) (.no hp.symm Yae)
 · exact q _ _ (on (on h1 h2) (len h2)) (len (len h2)) (.yes hp.symm Yae (Yab Ygj) h2)
end
end
section
variable {w:World}{s:Shared}{d:Nat}{X:QX}{Q:QE}{σ:Hp}
theorem binR.sub {T:Tp}{sc:Scope}{Q:QS}{k:List Ko}{ρ:Loc}{n kk:Nat}{p:Pos}{x y z:Int}(e:x - y=z) (h:rtQ (gw T d sc X Q n) k ρ (.int z) σ):rtQ (gw T d sc X Q (n+3)) (.binR .Sub (.Constant (.int y) kk p)::k) ρ (.int x) σ:=by subst e; exact h
section
variable {rs:List (Str×Pt)}{g gb pd:Nat}{cs:List Nat}{most j:Nat}{name:Str}{o:Option (An Nd×Nat)}
theorem CmR.keep {c c':Nat}{σ₁ σ₂:Hp}{v:V}(k:∀ (l:Nat) (vs:List V),σ₁[l]?=some (Yas.list vs)→σ₂[l]?=some (Yas.list vs)) (h:CmR most c o σ₁ v c'):CmR most c o σ₂ v c' :=
 h.rec (fun h=>.no h) (fun h hl=>.yes h (k _ _ hl)) (fun h=>.ovN h) fun h hl hr hn=>.ov h (k _ _ hl) hr hn
theorem PlR.zero {n l:Nat}(h:PlR o n σ l):PlR o 0 σ l:=h.rec (fun h hl=>.long h hl) (fun h hl=>.no h hl) fun h hl hr zz=>.yes h hl hr (Zkb _)
theorem PlR.lg {n l:Nat}(h:PlR o n σ l) (e:o=none):σ[l]?=some (.list [.bool false,.bool true]):=h.rec (fun zz hl=>hl) (fun h zz=>nomatch e.symm.trans h) fun h zz zz zz=>nomatch e.symm.trans h
theorem PlR.nn {n l c:Nat}{us:List Nd}(h:PlR o n σ l) (e:o=some ((none,us),c)):σ[l]?=some (.list [.bool true,.none]):=h.rec (fun h zz=>nomatch e.symm.trans h) (fun zz hl=>hl) fun h zz zz zz=>nomatch e.symm.trans h
theorem PlR.yy {n l c e:Nat}{nd:Nd}(h:PlR o n σ l) (q:o=some ((some e,[nd]),c)):∃ lr,σ[l]?=some (.list [.bool true,.ref lr])∧σ[lr]?=some (.list ((nd.rows 0).map Yc9)):=h.rec (fun h zz=>nomatch q.symm.trans h) (fun h zz=>nomatch q.symm.trans h) fun {lr e' c' nd'} h hl hr zz=>⟨lr,hl,(by cases q.symm.trans h; exact hr)⟩
inductive C11 (pd g:Nat) (cs:List Nat) (most j:Nat) (name:Str) (o:Option (An Nd×Nat)) (σ:Hp) (ρ:Loc) (σ':Hp):Prop where
 | mk (c':Nat) (v:V) (lf:Nat) (keep:∀ (l:Nat) (x:Yas),σ[l]?=some x→σ'[l]?=some x) (hst:σ'[σ.length]?=some (stV pd cs most c')) (hv:CmR most 0 o σ' v c') (hf:PlR o 0 σ' lf)
     (has:Has ρ [("_law_grammar",.ref g),("_law_signs",.str (S cs)),("_law_name",.str name),("_law_place",.int j),("_law_most",.int most),("_law_state",.ref σ.length),("_law_due",v),("_law_found",.ref lf)]):C11 pd g cs most j name o σ ρ σ'
theorem GrT.kp {σ':Hp}(h:GrT rs g gb σ) (k:∀ (l:Nat) (x:Yas),σ[l]?=some x→σ'[l]?=some x):GrT rs g gb σ':=by
 obtain ⟨a,c,e,h1,h2⟩:=h
 exact ⟨a,c,e,k _ _ h1,k _ _ h2⟩
noncomputable def Yjj (g:Nat) (cs:List Nat) (n:Nat):Hp:=[.inst "Reading" (rdF g cs (n+1)),.inst "Memory" (mmF (n+2) (n+3)),.tdict [],.list []]
theorem Ye7 {l n:Nat}(h:l < n):l∉[n+1,n+2,n+3]:=fun q=>by
 simp only [Zg,Zdc,or_false] at q
 rcases q with rfl | rfl | rfl
 · exact absurd h (Zo.mpr (Zy ..))
 · exact absurd h (Zo.mpr (Zy ..))
 · exact absurd h (Zo.mpr (Zy ..))
theorem Yh0 {j n:Nat}(h:j≤n):¬ ((j:Int) < 0∨(n:Int) < j):=fun q=>q.elim (fun h=>absurd h (Int.not_lt.mpr (Zvc j))) fun g=>absurd (Zfb.mp g) (Zo.mpr h)
theorem Ysb {g:Nat}{cs:List Nat}:Ygt (σ++Yjj g cs σ.length) [σ.length+1,σ.length+2,σ.length+3] (σ.length+1) (σ.length+2) (σ.length+3) ⟨[],[]⟩:=⟨[],by simp [Yjj],by simp [Yjj],by simp [Yjj],rfl⟩
theorem GrT.lts (h:GrT rs g gb σ):g < σ.length∧gb < σ.length:=by
 obtain ⟨a,c,e,h1,h2⟩:=h
 exact ⟨(Zb.mp h1).1,(Zb.mp h2).1⟩
theorem Ywh {an:An Kid}{mem b:Mm}{k:Kid}{x:An Kid}{e:Nat}{P:Prop}(h1:some (an,mem)=some (Yfd k x,b)) (h2:an.1=some e) (h3:x.1=none):P :=
 nomatch h2.symm.trans ((congrArg Prod.fst (Prod.mk.inj (Zab h1)).1).trans (Ydm.trans h3))
theorem Yw0 {an:An Kid}{mem b:Mm}{k:Kid}{x:An Kid}{e:Nat}{P:Prop}(h1:some (an,mem)=some (Yfd k x,b)) (h2:an.1=none) (h3:x.1=some e):P :=
 nomatch h2.symm.trans ((congrArg Prod.fst (Prod.mk.inj (Zab h1)).1).trans (Ydm.trans h3))
theorem Yie (TO:Yaf (T11 w s)) (hg:Yan rs) (hN:Yuy rs) (hG:GrT rs g gb σ) (hpd:σ[pd]?=some (.sdict (Yb3 rs))) (hcs:cs.length≤12) (hmo:most≤10000) (hin:name∈rs.map (·.1)) (hj:j≤cs.length) (hsok:∀ n∈rs.map (·.1),sOk n) {D:Nat}(hD:D≤253) (hb:Bs (Yag rs) cs (Yay most) D [] (.new (.rule name) j) none 0 o)
   (hfin:∃ n,Fin (Yag rs) cs (Yay most) (· = o) n ⟨[.new (.rule name) j],none,0⟩) (hdue:∀ y c,o=some (y,c)→∃ k,c=k+1∧Yu7 (Yag rs) cs (rs.map (·.1)) most name j y k)
   (q:∀ σ',(∀ (l:Nat) (x:Yas),σ[l]?=some x→σ'[l]?=some x)→Q (.bool true) σ'):Yaa (T11 w s) (d+516) X (.glob "_law_as_due") [.ref g,.ref pd,.str (S cs),.str name,.int j,.int most] Q σ:=by
 refine Yaa.goX TO rfl rfl ?_
 have hc:cs.length < 100000:=Zk hcs (by decide)
 have hk:∀ e us c,o=some ((some e,us),c)→∃ nd,us=[nd]∧(nd.rows 0).length≤5000000:=fun e us c h=>by
   obtain ⟨k,zz,x,b1,b2,zz,zz,zz,zz,zz,ht⟩:=hdue _ _ h
   obtain ⟨nd,e1,e2⟩:=ht e rfl
   exact ⟨nd,e1,Za e2.few (Za hmo (by decide))⟩
 refine Yeg.cutAt 4 (C11 pd g cs most j name o σ) (Ybd TO rfl 60 _ _ _ _ ?_) fun ρ' σ' hC=>Ybd TO rfl 60 _ _ _ _ ?_
 · refine Evx.mk<|Yal.dictS (kvs:=[("parts",.ref pd),("text",.str (S cs)),("steps",.int 0),("most",.int most)]) (.cons (Yal.nm rfl rfl rfl ⟨rfl,rfl⟩)<|.cons (Yal.nm rfl rfl rfl ⟨rfl,rfl⟩)<|.cons (Yal.int ⟨rfl,rfl⟩)<|.cons (Yal.nm rfl rfl rfl ⟨rfl,rfl⟩) .nil) (show ([("parts" : Str), "text", "steps", "most"]:List Str).Nodup by decide) nofun (by decide) ?_
   have hS:Ygd rs pd σ.length cs most 0 (σ++[stV pd cs most 0]):=⟨Yae,Yab hpd,Znc (Zb.mp hpd).1⟩
   refine Cal.mk<|(Yq2 (d:=0) TO hN hmo hcs D (.rule name) [] j 0 o _ _ _ hb (by rw [Pt.ok4]; exact hin) hj (Zkb _) hS<|.of fun v c' jk hv=>?_).le (by clear hk hS; lia)
   rw [Yci] at hv ⊢
   have hG1:GrT rs g gb (σ++[stV pd cs most c']++jk):=hG.kp fun l x h=>Yab (Yab h)
   refine Cal.mk<|Ybs TO hg hG1 hc hin hj hfin hk fun v2 σ2 on2 Ymu pl2=>?_
   have kp2:∀ (l:Nat) (x:Yas),σ[l]?=some x→σ2[l]?=some x:=fun l x h=>on2.keep _ _ (Yab (Yab h)) nofun
   have st2:σ2[σ.length]?=some (stV pd cs most c'):=on2.keep _ _ (Yab Yae) nofun
   have cm2:CmR most 0 o σ2 v c':=hv.keep fun l vs h=>on2.keep _ _ h nofun
   cases pl2 with
   | long h hl=>exact Itm.list hl rfl rfl ⟨by decide,by decide⟩ ⟨c',v,_,kp2,st2,cm2,.long h hl,⟨rfl,rfl,rfl,rfl,rfl,rfl,rfl,rfl,trivial⟩⟩
   | no h hl=>exact Itm.list hl rfl rfl ⟨by decide,by decide⟩<|Itm.list hl rfl rfl ⟨by decide,by decide⟩<|Cal.isi (b:=false) rfl ⟨c',v,_,kp2,st2,cm2,.no h hl,⟨rfl,rfl,rfl,rfl,rfl,rfl,rfl,rfl,trivial⟩⟩
   | @yes lr e c nd h hl hr hlo =>
     have kp3:∀ (l:Nat) (x:Yas),(σ++[stV pd cs most c']++jk)[l]?=some x→(σ2.set lr (.list []))[l]?=some x:=fun l x h=>by
       rw [Zi (Zoc (Zz (Zb.mp h).1 hlo))]
       exact on2.keep _ _ h nofun
     have hrl:((nd.rows 0).map Yc9).length≤sizeLine:=by
       obtain ⟨nd',e1,e2⟩:=hk _ _ _ h
       cases e1
       rw [Zc]; exact szo (Za e2 (by decide))
     refine Itm.list hl rfl rfl ⟨by decide,by decide⟩<|Itm.list hl rfl rfl ⟨by decide,by decide⟩<|Cal.isi (b:=true) (Yhu hr)<|Itm.list hl rfl rfl ⟨by decide,by decide⟩<|Yam.clear hr<|Cal.mk<|Yaa.clear hr hrl ?_
     refine Cal.mk<|Ybs TO hg (hG1.kp kp3) hc hin hj hfin hk fun v4 σ4 on4 Yzg pl4=>?_
     have kp4:∀ (l:Nat) (x:Yas),(σ++[stV pd cs most c']++jk)[l]?=some x→σ4[l]?=some x:=fun l x h=>on4.keep _ _ (kp3 l x h) nofun
     exact ⟨c',v,_,fun l x h=>kp4 l x (Yab (Yab h)),kp4 _ _ (Yab Yae),hv.keep fun l vs h=>kp4 _ _ h,pl4.zero,⟨rfl,rfl,rfl,rfl,rfl,rfl,rfl,rfl,trivial⟩⟩
 · obtain ⟨c',v,lf,keep,hst,hv,hf,has⟩:=hC
   rw [← has.eq]
   clear has hb hfin hk
   have hG':=hG.kp keep
   obtain ⟨C,hC⟩:=Ylc (w:=w) (s:=s)
   have gt:decide ((most:Int) < ((most+1:Nat):Int))=true:=Zmb (Zfb.mpr (Zs most))
   have over:∀ {P:Prop},o=none→(σ'[lf]?=some (.list [.bool false,.bool true])→P)→P:=fun h k=>k (hf.lg h)
   cases hv with
   | ovN h=>exact over h fun hl=>Itm.dict hst rfl<|Br.t gt<|Itm.list hl rfl rfl ⟨by decide,by decide⟩<|Cmp.mk ⟨true,.isB _ _ _ rfl,Itm.list hl rfl rfl ⟨by decide,by decide⟩ (q σ' keep)⟩
   | ov h=>exact over h fun hl=>Itm.dict hst rfl<|Br.t gt<|Itm.list hl rfl rfl ⟨by decide,by decide⟩<|Cmp.mk ⟨true,.isB _ _ _ rfl,Itm.list hl rfl rfl ⟨by decide,by decide⟩ (q σ' keep)⟩
   | no h =>
     obtain ⟨k,rfl,x,b1,b2,le,less,f1,f2,same,tree⟩:=hdue _ _ h
     clear tree hdue
     have lt:decide ((most:Int) < ((k+1:Nat):Int))=false:=Zrc fun h=>absurd (Zfb.mp h) (Zo.mpr le)
     have hlf:=hf.nn h
     clear hf h
     refine Itm.dict hst rfl<|Br.f lt<|Itm.dict hst rfl<|binR.sub (z:=(k:Int)) (Int.add_sub_cancel (k:Int) 1)<|Cal.mk<|Ybs (o:=none) TO hg hG' hc hin hj less (by intros; contradiction) fun l2 σ2 on2 Ymu pl2=>?_
     have hl2:=pl2.lg rfl
     have kp2:∀ (l:Nat) (x:Yas),σ'[l]?=some x→(σ2++Yjj g cs σ2.length)[l]?=some x:=fun l x h=>Yab (on2.keep _ _ h nofun)
     refine Itm.list hl2 rfl rfl ⟨by decide,by decide⟩<|Itm.list hl2 rfl rfl ⟨by decide,by decide⟩<|Cal.mk<|Ygz TO ?_
     have gl:g < σ2.length∧gb < σ2.length:=(hG'.lts).imp (fun h=>Zz h Ymu) fun h=>Zz h Ymu
     refine Yam.own Ygj rfl hC.cls hC.read<|Cal.mk<|Yj2 (m:=σ2.length+1) (a:=σ2.length+2) (b:=σ2.length+3) (mem:=⟨[],[]⟩) (P:=(· = some (Yfd (name,j) x,b1))) TO hg (hG'.kp kp2) (Ye7 gl.1) (Ye7 gl.2) hc Ygj Ysb (fun h=>absurd hin h) (fun zz h=>absurd h (Yh0 hj)) (fun zz j' e zz=>Int.ofNat_inj.mp e▸f1) nofun fun an mem' σ5 hp hm5 on5 Yy3=>?_
     have kp5:∀ (l:Nat) (x:Yas),l < σ2.length→(σ2++Yjj g cs σ2.length)[l]?=some x→σ5[l]?=some x:=fun l x hl h=>on5.keep _ _ h (Ye7 hl)
     have kp:∀ (l:Nat) (x:Yas),σ'[l]?=some x→σ5[l]?=some x:=fun l x h=>kp5 l x (Zz (Zb.mp h).1 Ymu) (kp2 l x h)
     have h0:σ5[σ2.length]?=some (.inst "Reading" (rdF g cs (σ2.length+1))):=on5.keep _ _ Ygj (by simp)
     rw [show an.1=none from (congrArg Prod.fst (Prod.mk.inj (Zab hp)).1).trans (Ydm.trans same)]
     have hm5:=(Prod.mk.inj (Zab hp)).2▸hm5
     refine Cmp.isN (r:=true) rfl<|Cmp.notN (r:=true) rfl<|Cmp.notN (r:=true) rfl ?_
     refine Itm.list (kp _ _ hlf) rfl rfl ⟨by decide,by decide⟩<|Itm.list (kp _ _ hlf) rfl rfl ⟨by decide,by decide⟩<|Cal.mk<|Ykx TO ?_
     refine Yam.own h0 rfl hC.cls hC.tree<|Cal.mk<|Yov (m:=σ2.length+1) (a:=σ2.length+2) (b:=σ2.length+3) (mem:=b1) (P:=(· = some (Yfd (name,j) x,b2))) TO hg (hG'.kp kp) (Ye7 gl.1) (Ye7 gl.2) hc h0 (by simp) hm5 (fun h=>absurd hin h) (fun zz h=>absurd h (Yh0 hj)) (fun zz j' e zz=>Int.ofNat_inj.mp e▸f2) nofun (fun an mem' e h1 h2=>Ywh h1 h2 same) (fun an mem' σ7 h1 zz zz on7 len7=>?_) fun an mem' e σ7 t j' h1 h2=>Ywh h1 h2 same
     exact Cal.mk<|Ykx TO<|q σ7 fun l x h=>on7.keep _ _ (kp _ _ (keep _ _ h)) (Ye7 (Zz (Zb.mp (keep _ _ h)).1 Ymu))
   | @yes e c' l' ts h hl' =>
     obtain ⟨k,rfl,x,b1,b2,le,less,f1,f2,same,tree⟩:=hdue _ _ h
     clear hdue
     have lt:decide ((most:Int) < ((k+1:Nat):Int))=false:=Zrc fun h=>absurd (Zfb.mp h) (Zo.mpr le)
     refine (tree e rfl).elim fun nd dt=>?_
     have e1:ts=[nd]:=dt.1
     have dt:=dt.2
     rw [e1] at h hl'
     rw [Nd.rowsL2,Nd.rowsL1,Zlc] at hl'
     refine (hf.yy h).elim fun lr hlf=>?_
     have hrf:=hlf.2
     have hlf:=hlf.1
     clear hf h tree e1
     refine Itm.dict hst rfl<|Br.f lt<|Itm.dict hst rfl<|binR.sub (z:=(k:Int)) (Int.add_sub_cancel (k:Int) 1)<|Cal.mk<|Ybs (o:=none) TO hg hG' hc hin hj less (by intros; contradiction) fun l2 σ2 on2 Ymu pl2=>?_
     have hl2:=pl2.lg rfl
     have kp2:∀ (l:Nat) (x:Yas),σ'[l]?=some x→(σ2++Yjj g cs σ2.length)[l]?=some x:=fun l x h=>Yab (on2.keep _ _ h nofun)
     refine Itm.list hl2 rfl rfl ⟨by decide,by decide⟩<|Itm.list hl2 rfl rfl ⟨by decide,by decide⟩<|Cal.mk<|Ygz TO ?_
     have gl:g < σ2.length∧gb < σ2.length:=(hG'.lts).imp (fun h=>Zz h Ymu) fun h=>Zz h Ymu
     refine Yam.own Ygj rfl hC.cls hC.read<|Cal.mk<|Yj2 (m:=σ2.length+1) (a:=σ2.length+2) (b:=σ2.length+3) (mem:=⟨[],[]⟩) (P:=(· = some (Yfd (name,j) x,b1))) TO hg (hG'.kp kp2) (Ye7 gl.1) (Ye7 gl.2) hc Ygj Ysb (fun h=>absurd hin h) (fun zz h=>absurd h (Yh0 hj)) (fun zz j' e zz=>Int.ofNat_inj.mp e▸f1) nofun fun an mem' σ5 hp hm5 on5 Yy3=>?_
     have kp5:∀ (l:Nat) (x:Yas),l < σ2.length→(σ2++Yjj g cs σ2.length)[l]?=some x→σ5[l]?=some x:=fun l x hl h=>on5.keep _ _ h (Ye7 hl)
     have kp:∀ (l:Nat) (x:Yas),σ'[l]?=some x→σ5[l]?=some x:=fun l x h=>kp5 l x (Zz (Zb.mp h).1 Ymu) (kp2 l x h)
     have h0:σ5[σ2.length]?=some (.inst "Reading" (rdF g cs (σ2.length+1))):=on5.keep _ _ Ygj (by simp)
     rw [show an.1=some e from (congrArg Prod.fst (Prod.mk.inj (Zab hp)).1).trans (Ydm.trans same)]
     have hm5:=(Prod.mk.inj (Zab hp)).2▸hm5
     have hs:∀ r∈nd.rows 0,sOk r.2.1.1:=fun r hr=>hsok _ (dt.all r hr)
     have hn:(nd.rows 0).length≤10001:=Za dt.few (Zeb hmo)
     refine Cmp.isN (r:=false) rfl<|Cmp.notN (r:=false) rfl<|Cal.mk<|Yff TO<|Br.f (by simp) ?_
     refine Itm.list (kp _ _ hlf) rfl rfl ⟨by decide,by decide⟩<|Itm.list (kp _ _ hlf) rfl rfl ⟨by decide,by decide⟩<|Cal.mk<|Ynf TO hs hn (kp _ _ hrf) (kp _ _ hl') ?_
     refine Yam.own h0 rfl hC.cls hC.tree<|Cal.mk<|Yov (m:=σ2.length+1) (a:=σ2.length+2) (b:=σ2.length+3) (mem:=b1) (P:=(· = some (Yfd (name,j) x,b2))) TO hg (hG'.kp kp) (Ye7 gl.1) (Ye7 gl.2) hc h0 (by simp) hm5 (fun h=>absurd hin h) (fun zz h=>absurd h (Yh0 hj)) (fun zz j' e zz=>Int.ofNat_inj.mp e▸f2) nofun (fun an mem' e' h1 zz j' hj' zz=>(Prod.mk.inj (Zab h1)).2▸Int.ofNat_inj.mp hj'▸⟨_,dt.tr,Za hn (by decide)⟩) (fun an mem' σ7 h1 h2=>Yw0 h1 h2 same) fun an mem' e' σ7 t j' h1 zz hj' zz on7 len7 htr=>?_
     have ht:nd.rows 0=t:=dt.tr.det (Int.ofNat_inj.mp hj'▸(Prod.mk.inj (Zab h1)).2▸htr)
     rw [← ht]
     have kp7:∀ (l:Nat) (x:Yas),σ'[l]?=some x→(σ7++[Yas.list ((nd.rows 0).map Yc9),.list []])[l]?=some x:=fun l x h=>Yab (on7.keep _ _ (kp _ _ h) (Ye7 (Zz (Zb.mp h).1 Ymu)))
     exact Cal.mk<|Ynf TO hs hn Ygj (kp7 _ _ hl')<|q _ fun l x h=>kp7 _ _ (keep _ _ h)
end
end
section
variable {w:World}{s:Shared}{d:Nat}{X:QX}{Q:QE}{σ:Hp}
section
variable {rs:List (Str×Pt)}{cs:List Nat}
theorem Yy9 (hg:Yan rs) (hl:Yey rs) (hw:∀ r∈rs,r.2.wt≤20000):Ysi (Yag rs) (rs.map (·.1)) (inB (Ybi rs rs.length)) (Yxb rs) rs.length 20000:=Ytc (fun zz hr=>Ydj hg.nodup hr) hg hl hw
theorem Yy5 (hg:Yan rs) (hl:Yey rs) (hw:∀ r∈rs,r.2.wt≤20000):Yuy rs:=fun n hn=>⟨(Yy9 hg hl hw).part n hn,by
 obtain ⟨r,hr,rfl⟩:=Zsb.mp hn
 rw [Yh6 hg.nodup hr,Ydj hg.nodup hr]⟩
theorem Yzb (hg:Yan rs):∀ n∈rs.map (·.1),sOk n:=fun n hn=>by
 obtain ⟨r,hr,rfl⟩:=Zsb.mp hn
 exact Yp5 (hg.all r hr).name
theorem dp11 (h3:rs.length≤3) (h12:cs.length≤12) (h5:rs.length≠1→cs.length≤5):(cs.length+1)*rs.length*14+1≤253:=by
 by_cases h:rs.length=1
 · rw [h,Nat.mul_one]; exact Zwb (Za (Zvb 14 (Zwb h12)) (by decide))
 · exact Zwb (Zvb 14 (Nat.mul_le_mul (Zwb (h5 h)) h3))
theorem Yvl (hg:Yan rs) (hl:Yey rs) (hw:∀ r∈rs,r.2.wt≤20000) (h3:rs.length≤3) (h12:cs.length≤12) (h5:rs.length≠1→cs.length≤5) (most:Nat) {name:Str}{j:Nat}(hn:name∈rs.map (·.1)) (hj:j≤cs.length) :
   ∃ o D,D≤253∧Bs (Yag rs) cs (Yay most) D [] (.new (.rule name) j) none 0 o∧(∃ n,Fin (Yag rs) cs (Yay most) (· = o) n ⟨[.new (.rule name) j],none,0⟩)∧∀ y c,o=some (y,c)→∃ k,c=k+1∧Yu7 (Yag rs) cs (rs.map (·.1)) most name j y k:=by
 have hd:=dp11 h3 h12 h5
 obtain ⟨o,D,h,r⟩:=Yxq (Yy9 hg hl hw) (Za (Znb _ (Zwb h12)) (by decide)) (by rw [Zc]; exact Za (Nat.mul_le_mul h3 (Zwb h12)) (by decide)) (Za (Zkc hd) (by decide)) most hn hj
 exact ⟨o,D,Za h hd,r⟩
end
inductive Yy2 (xs:List Int) (ρ:Loc) (σ:Hp):Prop where
 | mk (rs:List (Str×Pt)) (l mo:Nat) (cs:List Nat) (hg:Yan rs) (hlat:Yey rs) (hw:∀ r∈rs,r.2.wt≤20000) (h3:rs.length≤3) (hl:σ[l]?=some (.list (rs.map Ybn))) (h12:cs.length≤12) (h5:rs.length≠1→cs.length≤5) (hmo:mo≤10000) (has:Has ρ [("_law_script",.scr xs),("_law_rules",.ref l),("_law_signs",.str (S cs)),("_law_most",.int mo)]):Yy2 xs ρ σ
inductive Yzf (xs:List Int) (rs:List (Str×Pt)) (l mo:Nat) (cs:List Nat) (σ:Hp) (i:Nat) (ρ:Loc) (σ':Hp):Prop where
 | mk (has:Has ρ [("_law_script",.scr xs),("_law_rules",.ref l),("_law_signs",.str (S cs)),("_law_most",.int mo),("_law_parts",.ref σ.length)]) (e:σ'=σ++[.sdict (Yb3 (rs.take i))]):Yzf xs rs l mo cs σ i ρ σ'
theorem ne0 {n:Nat}(h:1≤n):((n:Int) != 0)=true:=bne_iff_ne.mpr (by lia)
theorem ne1 (n:Nat):((n:Int)+1 != 0)=true:=bne_iff_ne.mpr (by lia)
theorem Yx9 (cs:List Nat):(⟨(S cs).cps.toList.reverse.toArray⟩:Str)=S cs.reverse:=by simp [S]
theorem law11 (TO:Yaf (T11 w s)) (xs:List Int) (hx:xs.length≤63):Yaa (T11 w s) 690 (fun zz zz=>False) (.glob "law") [.scr xs] (fun v zz=>v=.bool true) []:=by
 refine Yaa.goX (d:=689) TO rfl rfl ?_
 have hx62:xs.length < 2 ^ 62:=Zk hx (by decide)
 have cell:∀ {k:Int}{K:QE}{τ:Hp},decide (0≤k∧k < 2 ^ 62)=true→K (.int (xs.getD k.toNat 0)) τ→Cal (T11 w s) 689 (fun zz zz=>False) (.glob "_law_cell_at") [.scr xs,.int k] K τ:=fun hk h=>⟨Ya4 (d:=688) TO (Zgb hk).1 (Zgb hk).2 hx62 h⟩
 refine Yeg.cutAt 5 (Yy2 xs) (Ybd TO rfl 60 _ _ _ _ ?_) fun ρ₁ σ₁ hJ=>Ybd TO rfl 60 _ _ _ _ ?_
 · refine Cal.mk<|Yj3 (d:=685) TO hx62 fun rs l junk hg hlat hw hdr h3 zz hl=>?_
   refine Cal.len (n:=rs.length) (Yfz hl (Zc _)) (Zk h3 (by decide))<|cell rfl<|Cal.mk<|Yfo (d:=687) TO fun x y z ob hs=>Cal.mk<|Ymt (d:=687) TO hx62 (Za h3 (by decide)) hs Yh3 fun cs h12 h5 zz=>?_
   refine cell rfl ?_
   obtain ⟨m1,e1,l1⟩:=Yc5 (n:=401) (Yah (a:=(xs.getD (1:Int).toNat 0).fdiv 6) (b:=401) (by decide))
   obtain ⟨m2,e2,l2⟩:=Yc5 (n:=3001) (Yah (a:=((xs.getD (1:Int).toNat 0).fdiv 6).fdiv 8) (b:=3001) (by decide))
   refine Br.mk (fun zz=>?_) fun zz=>?_
   · exact ⟨rs,l,m2,cs,hg,hlat,hw,h3,Yab hl,h12,h5,Za (Zq l2) (by decide),⟨rfl,rfl,rfl,congrArg (fun x=>some (V.int x)) e2,trivial⟩⟩
   · exact ⟨rs,l,m1,cs,hg,hlat,hw,h3,Yab hl,h12,h5,Za (Zq l1) (by decide),⟨rfl,rfl,rfl,congrArg (fun x=>some (V.int x)) e1,trivial⟩⟩
 · obtain ⟨rs,l,mo,cs,hg,hlat,hw,h3,hl,h12,h5,hmo,has⟩:=hJ
   obtain ⟨r,rfl⟩:=has.use
   have h1:=hg.one
   refine Yc7.mk (rs.map Ybn) (Yzf xs rs l mo cs σ₁) ⟨⟨rfl,rfl,rfl,rfl,rfl,trivial⟩,by rw [List.take_zero]; rfl⟩ (fun i ρ' σ' hJ=>?_) (fun ρ' σ' hJ=>?_) fun i x ρ' σ' hJ hx=>?_
   · obtain ⟨zz,rfl⟩:=hJ
     exact Ybe (Yab hl)
   · obtain ⟨has,e⟩:=hJ
     obtain ⟨r,rfl⟩:=has.use
     rw [Zc,Zgc] at e
     subst e
     have hl':(σ₁++[Yas.sdict (Yb3 rs)])[l]?=some (.list (rs.map Ybn)):=Yab hl
     have hpd:(σ₁++[Yas.sdict (Yb3 rs)])[σ₁.length]?=some (.sdict (Yb3 rs)):=Yae
     generalize σ₁++[Yas.sdict (Yb3 rs)]=σ₂ at hl' hpd
     generalize σ₁.length=pd at hpd
     obtain ⟨k,e1,lk⟩:=Yc5 (n:=rs.length) (Yah (a:=(xs.getD (0:Int).toNat 0).fdiv 3+xs.getD (1:Int).toNat 0) (b:=(rs.length:Int)) (by lia))
     obtain ⟨p2,e2,l2⟩:=Yc5 (n:=cs.length+1) (Yah (a:=xs.getD (2:Int).toNat 0) (b:=(cs.length:Int)+1) (by lia))
     obtain ⟨i3,e3,l3⟩:=Yc5 (n:=3) (Yah (a:=xs.getD (0:Int).toNat 0) (b:=3) (by decide))
     have g1:(rs.map Ybn)[k]?=some (Ybn rs[k]):=by rw [Zdb,Zp lk]; rfl
     refine cell rfl<|cell rfl<|Cal.len (n:=rs.length) (Yfz hl' (Zc _)) (Zk h3 (by decide))<|gd.of (ne0 h1)<|Itm.mk<|Yd6 (j:=k) hl' e1 g1 (by rw [Zc]; exact Zk h3 (by decide)) ?_
     refine cell rfl<|Cal.len (n:=cs.length) (Yep (Ya6 cs)) (Zk h12 (by decide))<|gd.of (ne1 cs.length)<|cell rfl ?_
     obtain ⟨j,hj,ej⟩:∃ j:Nat,j≤cs.length∧[V.int 0,.int 0,.int ((xs.getD (2:Int).toNat 0).fmod ((cs.length:Int)+1))][i3]?=some (.int j):=by
       rw [e2]
       match i3,l3 with
       | 0,z1=>exact ⟨0,Zkb _,rfl⟩
       | 1,z1=>exact ⟨0,Zkb _,rfl⟩
       | 2,z1=>exact ⟨p2,Zjc l2,rfl⟩
     refine Itm.mk<|Yd6 (j:=i3) Yae e3 ej (show 3 < 2 ^ 62 by decide) ?_
     have hin:rs[k].1∈rs.map (·.1):=Zsb.mpr ⟨_,List.getElem_mem lk,rfl⟩
     have fw:∀ {τ:Hp},(∀ (l:Nat) (x:Yas),σ₂[l]?=some x→τ[l]?=some x)→τ[pd]?=some (.sdict (Yb3 rs)):=fun h=>h _ _ hpd
     refine Cal.list (vs:=rs.map Ybn) (Yfg (Yab hl')) (by rw [Zc]; exact szo (Za h3 (by decide)))<|Cal.mk<|Yt4 (d:=671) (rs:=rs) TO Yae hg (fun bs junk zz zz hG=>?_) fun bs junk _ hh1=>by obtain ⟨r,hr,h⟩:=hh1; exact absurd h (hlat.no hg.nodup hr)
     refine hG.t.elim fun gb hGT=>?_
     obtain ⟨o,D,hD,hb,hf,hdue⟩:=Yvl hg hlat hw h3 h12 h5 mo hin hj
     obtain ⟨o',D',hD',hb',hf',hdue'⟩:=Yvl (cs:=cs.reverse) hg hlat hw h3 (by rw [Zec]; exact h12) (by rw [Zec]; exact h5) mo hin (by rw [Zec]; exact hj)
     refine Cal.mk<|Yie (d:=173) TO hg (Yy5 hg hlat hw) hGT (fw fun l x h=>Yab (Yab (Yab h))) h12 hmo hin hj (Yzb hg) hD hb hf hdue fun σ₅ kp=>?_
     refine Evx.mk<|Yal.revStr (fun zz zz=>rfl) (Yal.nm rfl rfl rfl (Yal.neg (Yal.int ⟨1,rfl,rfl,_,rfl,by rw [Ya6]; exact szo (Za h12 (by decide)),?_⟩)))
     rw [Yx9]
     exact Cal.mk<|Yie (d:=173) TO hg (Yy5 hg hlat hw) (hGT.kp kp) (kp _ _ (Yab (Yab (Yab hpd)))) (by rw [Zec]; exact h12) hmo hin (by rw [Zec]; exact hj) (Yzb hg) hD' hb' hf' hdue' fun σ₆ zz=>rfl
   · obtain ⟨has,rfl⟩:=hJ
     obtain ⟨r,rfl⟩:=has.use
     rw [Zdb] at hx
     obtain ⟨p,hp,rfl⟩:=Zpb.mp hx
     refine ⟨_,rfl,Ybd TO rfl 60 _ _ _ _ ?_⟩
     refine Yat.of Yae (by rw [Yb3,Zc,List.length_take]; exact Za (Nat.min_le_right ..) (Za h3 (by decide))) ?_
     rw [Yci,Yij (Ydn hg.nodup hp),← Ya3 hp]
     exact ⟨⟨rfl,rfl,rfl,rfl,rfl,trivial⟩,rfl⟩
end
end Mine
open PySem PySem.W PyProof.Rows in
set_option tactic.hygienic true in
theorem PySem.Challenge.cw_uf010010_11_holds : PySem.Challenge.rw_uf010010_11.Holds := by
 refine Mine.hd11 ?_
 intro w s₀ s₁ mg mb G Y fa o pm cd doc dV kV ho hd hcd hD hmg hg args vals as hpre hlay hrd hwl hlo
 have KX:=kIn_of Y
 refine Ground.open G ?_
 intro T B D TE TW
 have TR:=topRead_of T
 clear hd hcd hD
 wrow_args hpre hlay hrd hwl hlo
 rename_i xs _ _ _ _ _ _ _ la vs _ hL _ _ _ hI _ hn _
 refine @Exists.elim _ _ _ (Mine.ints_pairs hI) fun l hh=>@Exists.elim _ _ _ hL fun ol hq=>@Exists.elim _ _ _ hq.2.2 fun n h3=>?_
 exact Mine.finish (fun _=>rfl) (by wrow_post) (Mine.start TR KX hg ⟨56,_,rfl,by decide⟩ hmg (by rfl) hq.1 hq.2.1 h3 (by simpa using hh.1) hh.2 (Mine.law11 (Mine.topOk_of TR KX) xs (by omega)))
