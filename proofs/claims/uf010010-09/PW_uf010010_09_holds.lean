import PyProof.Rows.All
import Wide.All
import OpenK.AllK
import Wide.FinOn
import PySem.Challenge.RW_uf010010_09
section
open PySem.W.S
name_quick tw5977472884343070639 for modZ by modZ_eq
name_quick tw12965166381606757569 for modZ by modZ_eq
name_quick tw17950464697010677914 for modZ by modZ_eq
name_quick tw6698463362677807953 for modZ by modZ_eq
name_quick tw7303637537060199943 for modZ by modZ_eq
name_quick tw8410553398790366268 for modZ by modZ_eq
name_quick tw5557762184388949195 for modZ by modZ_eq
name_quick tw18446669811780926424 for modZ by modZ_eq
name_quick tw7645428213705827770 for modZ by modZ_eq
name_quick tw14624035474745466228 for modZ by modZ_eq
name_quick tw3086696647162470330 for modZ by modZ_eq
name_quick tw10622848152059108979 for modZ by modZ_eq
name_quick tw8893637803444771914 for modZ by modZ_eq
name_quick tw6958708494281135105 for modZ by modZ_eq
name_quick tw15178718204343848202 for modZ by modZ_eq
name_quick tw4518492457785433919 for modZ by modZ_eq
name_quick tw16456338131115287773 for modZ by modZ_eq
name_quick tw9873137908206851922 for modZ by modZ_eq
name_quick tw8462793413088298544 for modZ by modZ_eq
name_quick tw9728875878235251945 for modZ by modZ_eq
name_quick tw1783001795211993503 for modZ by modZ_eq
name_quick tw4735464938399864807 for modZ by modZ_eq
name_quick tw12171700332156318272 for modZ by modZ_eq
name_quick tw13203820784095855606 for modZ by modZ_eq
name_quick tw6725890909504500330 for modZ by modZ_eq
name_quick tw16516162540847390070 for modZ by modZ_eq
name_quick tw1762889585235111293 for modZ by modZ_eq
name_quick tw12817743154012270629 for modZ by modZ_eq
name_quick tw3012916421359342359 for modZ by modZ_eq
name_quick tw14144895397088189453 for modZ by modZ_eq
name_quick tw4813929968318526970 for modZ by modZ_eq
name_quick tw4337954200550040266 for modZ by modZ_eq
name_quick tw9791881895186668419 for modZ by modZ_eq
name_quick tw17816424810457163770 for modZ by modZ_eq
name_quick tw11839676048714699273 for modZ by modZ_eq
name_quick tw2024536871620539 for modZ by modZ_eq
name_quick tw7366529677413657969 for modZ by modZ_eq
name_quick tw17740131475673723119 for modZ by modZ_eq
name_quick tw17951831622528145952 for modZ by modZ_eq
name_quick tw707339448730356601 for modZ by modZ_eq
name_quick tw8578362660883682596 for modZ by modZ_eq
name_quick tw16801242026230202168 for modZ by modZ_eq
name_quick tw11333747883634626317 for modZ by modZ_eq
name_quick tw11231485449905508691 for modZ by modZ_eq
name_quick tw6594592916943711469 for modZ by modZ_eq
name_quick tw7975548669281675641 for modZ by modZ_eq
name_quick tw606305365816635316 for modZ by modZ_eq
name_quick tw5562874220134156024 for modZ by modZ_eq
name_quick tw2572660456037563683 for modZ by modZ_eq
name_quick tw3668318448837287419 for modZ by modZ_eq
name_quick tw2270746675756952421 for modZ by modZ_eq
name_quick tw10427581286869499004 for modZ by modZ_eq
name_quick tw2945619989950166663 for modZ by modZ_eq
name_quick tw4515164750813498957 for modZ by modZ_eq
name_quick tw16938324990475827925 for modZ by modZ_eq
name_quick tw8711979074087420763 for modZ by modZ_eq
name_quick tw5055492222659541827 for modZ by modZ_eq
name_quick tw4582658190740865857 for modZ by modZ_eq
name_quick tw9183838845372270128 for modZ by modZ_eq
name_quick tw9860561256585328353 for modZ by modZ_eq
name_quick tw7302468452177696022 for modZ by modZ_eq
name_quick tw11558321247461722669 for modZ by modZ_eq
name_quick tw8130604787312095447 for modZ by modZ_eq
name_quick tw10098466059795801683 for modZ by modZ_eq
name_quick tw12972375554345452487 for modZ by modZ_eq
name_quick tw12258581437005401333 for modZ by modZ_eq
name_quick tw18310588790622451297 for modZ by modZ_eq
name_quick tw8304371880598019879 for modZ by modZ_eq
name_quick tw17102273346517971380 for modZ by modZ_eq
name_quick tw3327674806555692117 for modZ by modZ_eq
name_quick tw7013365650135902206 for modZ by modZ_eq
name_quick tw9970368187663600882 for modZ by modZ_eq
name_quick tw8557610048253847709 for modZ by modZ_eq
name_quick tw35946766784353441 for modZ by modZ_eq
name_quick tw3705064124502104724 for modZ by modZ_eq
name_quick tw14871857642530979500 for modZ by modZ_eq
name_quick tw9612875687716972963 for modZ by modZ_eq
name_quick tw13193395425931216065 for modZ by modZ_eq
name_quick tw8923958853162898960 for modZ by modZ_eq
name_quick tw1672829196761254835 for modZ by modZ_eq
name_quick tw1195164540019322747 for modZ by modZ_eq
name_quick tw5723225717230504785 for modZ by modZ_eq
name_quick tw6821486883733946744 for modZ by modZ_eq
name_quick tw16072071338134947821 for modZ by modZ_eq
name_quick tw8995319697724538681 for modZ by modZ_eq
name_quick tw9332567999008739716 for modZ by modZ_eq
name_quick tw13979843728931641976 for modZ by modZ_eq
name_quick tw10892024298883894424 for modZ by modZ_eq
name_quick tw7842029494655215639 for modZ by modZ_eq
name_quick tw418618352723433105 for modZ by modZ_eq
name_quick tw16989488445700064486 for modZ by modZ_eq
name_quick tw3065533795685505794 for modZ by modZ_eq
name_quick tw8757806727194854427 for modZ by modZ_eq
name_quick tw8727437411903237996 for modZ by modZ_eq
name_quick tw6613416888036316993 for modZ by modZ_eq
name_quick tw17383640447106126474 for modZ by modZ_eq
name_quick tw7213062290434699590 for modZ by modZ_eq
name_quick tw13515267147718915485 for modZ by modZ_eq
name_quick tw6198595407559560167 for modZ by modZ_eq
name_quick tw17534542970807913292 for modZ by modZ_eq
name_quick tw10617750596093337387 for modZ by modZ_eq
name_quick tw8091268279901480148 for modZ by modZ_eq
name_quick tw8602269441769970096 for modZ by modZ_eq
name_quick tw2535328478561805719 for modZ by modZ_eq
name_quick tw3629523055176888872 for modZ by modZ_eq
name_quick tw16887387596456671432 for modZ by modZ_eq
name_quick tw2512200505306949039 for modZ by modZ_eq
name_quick tw12358644803757484119 for modZ by modZ_eq
name_quick tw1464658398884385911 for modZ by modZ_eq
name_quick tw15384436333802538538 for modZ by modZ_eq
name_quick tw14755907853707181039 for modZ by modZ_eq
name_quick tw17162496514598522140 for modZ by modZ_eq
name_quick tw12555915175413639048 for modZ by modZ_eq
name_quick tw15469013159217176498 for modZ by modZ_eq
name_quick tw1607827103520248467 for modZ by modZ_eq
name_quick tw11634225184394824156 for modZ by modZ_eq
name_quick tw13517454192218466850 for modZ by modZ_eq
name_quick tw10014230161759696264 for modZ by modZ_eq
name_quick tw393946895583078311 for modZ by modZ_eq
name_quick tw116382860573803694 for modZ by modZ_eq
name_quick tw8891741187416647085 for modZ by modZ_eq
name_quick tw4002011774517603526 for modZ by modZ_eq
name_quick tw14787823278533573164 for modZ by modZ_eq
name_quick tw7424140092618019793 for modZ by modZ_eq
name_quick tw5293753887771864022 for modZ by modZ_eq
name_quick tw16112062456548003261 for modZ by modZ_eq
name_quick tw17610064339979665468 for modZ by modZ_eq
name_quick tw4755654632922827249 for modZ by modZ_eq
name_quick tw13511438394957385772 for modZ by modZ_eq
name_quick tw1126965708583846202 for modZ by modZ_eq
name_quick tw4911842549111496349 for modZ by modZ_eq
name_quick tw6891403982749983013 for modZ by modZ_eq
name_quick tw8855908625452130907 for modZ by modZ_eq
name_quick tw16679512354634668187 for modZ by modZ_eq
name_quick tw7162426804772810366 for modZ by modZ_eq
name_quick tw2052305142049249595 for modZ by modZ_eq
name_quick tw9697307712920561747 for modZ by modZ_eq
name_quick tw3600447481086038733 for modZ by modZ_eq
name_quick tw17781983819170628258 for modZ by modZ_eq
name_quick tw12201821866423500553 for modZ by modZ_eq
name_quick tw13392808692669428613 for modZ by modZ_eq
name_quick tw12989714135687836413 for modZ by modZ_eq
name_quick tw13038420036479215659 for modZ by modZ_eq
name_quick tw3022213205304943841 for modZ by modZ_eq
name_quick tw5584488028716637479 for modZ by modZ_eq
name_quick tw9357776199079553324 for modZ by modZ_eq
name_quick tw15783363056203323673 for modZ by modZ_eq
name_quick tw4321741255634865019 for modZ by modZ_eq
name_quick tw519326374887930490 for modZ by modZ_eq
name_quick tw16642989977517503286 for modZ by modZ_eq
name_quick tw9823062180207122404 for modZ by modZ_eq
name_quick tw17308226522269036468 for modZ by modZ_eq
name_quick tw8509736815040481115 for modZ by modZ_eq
name_quick tw1810828141231587475 for modZ by modZ_eq
name_quick tw15040143823091761217 for modZ by modZ_eq
name_quick tw11235208904694792813 for modZ by modZ_eq
name_quick tw799415270299728748 for modZ by modZ_eq
name_quick tw14058278640722169872 for modZ by modZ_eq
name_quick tw8475836527217561886 for modZ by modZ_eq
name_quick tw6548325304565015468 for modZ by modZ_eq
name_quick tw3222458539546738748 for modZ by modZ_eq
name_quick tw17228064524391970474 for modZ by modZ_eq
name_quick tw9443401587734328918 for modZ by modZ_eq
name_quick tw18039827260242785090 for modZ by modZ_eq
name_quick tw2576215147469580469 for modZ by modZ_eq
name_quick tw15821158662443973881 for modZ by modZ_eq
name_quick tw276521307388990079 for modZ by modZ_eq
name_quick tw15738629881870125543 for modZ by modZ_eq
name_quick tw1711489654687729421 for modZ by modZ_eq
name_quick tw14560119257300930303 for modZ by modZ_eq
name_quick tw13279579737059199516 for modZ by modZ_eq
name_quick tw11398964281251367901 for modZ by modZ_eq
name_quick tw502553031449809233 for modZ by modZ_eq
name_quick tw10041064698200465668 for modZ by modZ_eq
name_quick tw12370538683787276487 for modZ by modZ_eq
name_quick tw4543880475269912384 for modZ by modZ_eq
name_quick tw6840987586471364345 for modZ by modZ_eq
name_quick tw1647094195080358792 for modZ by modZ_eq
name_quick tw8760767974857747416 for modZ by modZ_eq
name_quick tw9062268761570793410 for modZ by modZ_eq
name_quick tw8244905696879219164 for modZ by modZ_eq
name_quick tw6829073803461287564 for modZ by modZ_eq
name_quick tw14863984745348849800 for modZ by modZ_eq
name_quick tw13016208541354750078 for modZ by modZ_eq
name_quick tw8402194204837414149 for modZ by modZ_eq
name_quick tw13891048572263904497 for modZ by modZ_eq
name_quick tw7866320169008382267 for modZ by modZ_eq
name_quick tw12139159900859569876 for modZ by modZ_eq
name_quick tw3678002464296747235 for modZ by modZ_eq
name_quick tw3132150848487276116 for modZ by modZ_eq
name_quick tw13320321517183454305 for modZ by modZ_eq
name_quick tw6493385893892569498 for modZ by modZ_eq
name_quick tw4855256204976248308 for modZ by modZ_eq
name_quick tw405932760250839108 for modZ by modZ_eq
name_quick tw12479337685630672482 for modZ by modZ_eq
name_quick tw730713531896689365 for modZ by modZ_eq
name_quick tw17862229871476402382 for modZ by modZ_eq
name_quick tw2965850158323189088 for modZ by modZ_eq
name_quick tw14146848785693377497 for modZ by modZ_eq
name_quick tw16970974390169241610 for modZ by modZ_eq
name_quick tw12958546095149724259 for modZ by modZ_eq
name_quick tw12621025868111791852 for modZ by modZ_eq
name_quick tw10041227806001162499 for modZ by modZ_eq
name_quick tw4423748160409419885 for modZ by modZ_eq
name_quick tw12069852424795151335 for modZ by modZ_eq
name_quick tw117489733658553357 for modZ by modZ_eq
name_quick tw2807574187357356722 for modZ by modZ_eq
name_quick tw12909348525460597645 for modZ by modZ_eq
name_quick tw1973548084124570014 for modZ by modZ_eq
name_quick tw27680236467212830 for modZ by modZ_eq
name_quick tw5599213047030563444 for modZ by modZ_eq
name_quick tw15218146096963145755 for modZ by modZ_eq
name_quick tw13566038861012449454 for modZ by modZ_eq
name_quick tw8198597706340908530 for modZ by modZ_eq
name_quick tw13311859708196601627 for modZ by modZ_eq
name_quick tw9765911249832893183 for modZ by modZ_eq
name_quick tw15953964892562213656 for modZ by modZ_eq
name_quick tw14759964428548991549 for modZ by modZ_eq
name_quick tw7451725155777638846 for modZ by modZ_eq
name_quick tw18180220228423230698 for modZ by modZ_eq
name_quick tw7517881726652791778 for modZ by modZ_eq
name_quick tw1403729773346940204 for modZ by modZ_eq
name_quick tw3878903008936391521 for modZ by modZ_eq
name_quick tw14718694770553284376 for modZ by modZ_eq
name_quick tw10944499535671273652 for modZ by modZ_eq
name_quick tw5459499500660615333 for modZ by modZ_eq
name_quick tw9517661338214961377 for modZ by modZ_eq
name_quick tw8898391031030351373 for modZ by modZ_eq
name_quick tw7592695641042937564 for modZ by modZ_eq
name_quick tw6022896587589699736 for modZ by modZ_eq
name_quick tw10615729865762147766 for modZ by modZ_eq
name_quick tw911880292882801460 for modZ by modZ_eq
name_quick tw808133046955058148 for modZ by modZ_eq
name_quick tw5501147104980839022 for modZ by modZ_eq
name_quick tw8735683126745113755 for modZ by modZ_eq
name_quick tw10761280287040350813 for modZ by modZ_eq
name_quick tw7442293703352099744 for modZ by modZ_eq
name_quick tw14997921696386832780 for modZ by modZ_eq
name_quick tw1514753142226432705 for modZ by modZ_eq
name_quick tw16489992203716063055 for modZ by modZ_eq
name_quick tw3168003865918206114 for modZ by modZ_eq
name_quick tw10530012062483479195 for modZ by modZ_eq
name_quick tw8414278339888435518 for modZ by modZ_eq
name_quick tw566907710384220957 for modZ by modZ_eq
name_quick tw12995120144429668534 for modZ by modZ_eq
name_quick tw12884159323003982063 for modZ by modZ_eq
name_quick tw5334601210824265466 for modZ by modZ_eq
name_quick tw14529411973271140161 for modZ by modZ_eq
name_quick tw13252599351316415537 for modZ by modZ_eq
name_quick tw4845863363995814949 for modZ by modZ_eq
name_quick tw13151508500932945652 for modZ by modZ_eq
name_quick tw12980084246350191916 for modZ by modZ_eq
name_quick tw10467493452989251517 for modZ by modZ_eq
name_quick tw10030558792083444639 for modZ by modZ_eq
name_quick tw13587502875615620618 for modZ by modZ_eq
name_quick tw6014102876805430116 for modZ by modZ_eq
name_quick tw2898346468271352812 for modZ by modZ_eq
name_quick tw216792062759529102 for modZ by modZ_eq
name_quick tw16813775471429526360 for modZ by modZ_eq
name_quick tw17000589312166347959 for modZ by modZ_eq
name_quick tw825072949727981876 for modZ by modZ_eq
name_quick tw17497403754496622495 for modZ by modZ_eq
name_quick tw4883487053196984748 for modZ by modZ_eq
name_quick tw13459032710441801822 for modZ by modZ_eq
name_quick tw12576650114199891020 for modZ by modZ_eq
name_quick tw7648744992959559027 for modZ by modZ_eq
name_quick tw16673758954869046064 for modZ by modZ_eq
name_quick tw15384454809716695588 for modZ by modZ_eq
name_quick tw8347444297391294171 for modZ by modZ_eq
name_quick tw1759122315860212789 for modZ by modZ_eq
name_quick tw12871511770015921069 for modZ by modZ_eq
name_quick tw6134789899553736273 for modZ by modZ_eq
name_quick tw2065869557848701314 for modZ by modZ_eq
name_quick tw7412888638243702145 for modZ by modZ_eq
name_quick tw7122484707507931806 for modZ by modZ_eq
name_quick tw18403854828815752219 for modZ by modZ_eq
name_quick tw18297736415562356672 for modZ by modZ_eq
name_quick tw17906699616599297904 for modZ by modZ_eq
name_quick tw17005996886311804236 for modZ by modZ_eq
name_quick tw13614558649880129984 for modZ by modZ_eq
name_quick tw12248198893980983206 for modZ by modZ_eq
name_quick tw11938070017920205139 for modZ by modZ_eq
name_quick tw11808019020342388535 for modZ by modZ_eq
name_quick tw18289213160068368550 for modZ by modZ_eq
name_quick tw2263204241389399637 for modZ by modZ_eq
name_quick tw1433925355238703166 for modZ by modZ_eq
name_quick tw14378517066233762757 for modZ by modZ_eq
name_quick tw13403455364144635355 for modZ by modZ_eq
name_quick tw6271804782355303765 for modZ by modZ_eq
name_quick tw9680329896941751813 for modZ by modZ_eq
name_quick tw865513745864827625 for modZ by modZ_eq
name_quick tw16059679104549186622 for modZ by modZ_eq
name_quick tw1597919837448009651 for modZ by modZ_eq
name_quick tw11191321404745953844 for modZ by modZ_eq
name_quick tw16555972622453118834 for modZ by modZ_eq
name_quick tw15876622106460335317 for modZ by modZ_eq
name_quick tw16726479475436395870 for modZ by modZ_eq
name_quick tw13151920842609367281 for modZ by modZ_eq
name_quick tw5500328281679433732 for modZ by modZ_eq
name_quick tw9764624896384240396 for modZ by modZ_eq
name_quick tw4966150881704166458 for modZ by modZ_eq
name_quick tw2090114473631577747 for modZ by modZ_eq
name_quick tw4008420858352223500 for modZ by modZ_eq
name_quick tw1670119733562445883 for modZ by modZ_eq
name_quick tw668127407280329559 for modZ by modZ_eq
name_quick tw6100742675740087069 for modZ by modZ_eq
end
set_option Elab.async false
set_option tactic.hygienic false
set_option linter.unusedVariables false
set_option maxRecDepth 100000
set_option maxHeartbeats 8000000
namespace Mine
open PySem PySem.W PyProof.Rows
open_top hd09 for PySem.Challenge.rw_uf010010_09
end Mine
namespace Mine
open PySem PySem.Calls PyProof.Rows PySem.SeqAt
theorem Za:type_of% @Nat.le_trans:=@Nat.le_trans
theorem Zb:type_of% @List.getElem?_eq_some_iff:=@List.getElem?_eq_some_iff
theorem Zc:type_of% @List.length_map:=@List.length_map
theorem Zd:type_of% @List.mem_cons_of_mem:=@List.mem_cons_of_mem
theorem Ze:type_of% @List.append_assoc:=@List.append_assoc
theorem Zf:type_of% @List.length_append:=@List.length_append
theorem Zg:type_of% @List.mem_cons:=@List.mem_cons
theorem Zh:type_of% @Exists.elim:=@Exists.elim
theorem Zi:type_of% @List.getElem?_set_ne:=@List.getElem?_set_ne
theorem Zj:type_of% @List.mem_singleton:=@List.mem_singleton
theorem Zk:type_of% @Nat.lt_of_le_of_lt:=@Nat.lt_of_le_of_lt
theorem Zl:type_of% @Nat.le_refl:=@Nat.le_refl
theorem Zm:type_of% @List.mem_append:=@List.mem_append
theorem Zn:type_of% @List.mem_of_getElem?:=@List.mem_of_getElem?
theorem Zo:type_of% @Nat.not_lt:=@Nat.not_lt
theorem Zp:type_of% @List.getElem?_eq_getElem:=@List.getElem?_eq_getElem
theorem Zq:type_of% @Nat.le_of_lt:=@Nat.le_of_lt
theorem Zr:type_of% @Nat.le_of_eq:=@Nat.le_of_eq
theorem Zs:type_of% @Nat.lt_succ_self:=@Nat.lt_succ_self
theorem Zt:type_of% @List.mem_cons_self:=@List.mem_cons_self
theorem Zu:type_of% @Heap.lt_size:=@Heap.lt_size
theorem Zv:type_of% @Bool.false_ne_true:=@Bool.false_ne_true
theorem Zw:type_of% @List.getElem?_set_self:=@List.getElem?_set_self
theorem Zx:type_of% @Heap.get?_push_of_some:=@Heap.get?_push_of_some
theorem Zy:type_of% @Nat.le_add_right:=@Nat.le_add_right
theorem Zz:type_of% @Nat.lt_of_lt_of_le:=@Nat.lt_of_lt_of_le
theorem Zab:type_of% @Option.some.inj:=@Option.some.inj
theorem Zbb:type_of% @List.getElem?_append_left:=@List.getElem?_append_left
theorem Zcb:type_of% @Nat.add_le_add:=@Nat.add_le_add
theorem Zdb:type_of% @List.getElem?_map:=@List.getElem?_map
theorem Zeb:type_of% @Nat.le_succ_of_le:=@Nat.le_succ_of_le
theorem Zfb:type_of% @Int.ofNat_lt:=@Int.ofNat_lt
theorem Zgb:type_of% @of_decide_eq_true:=@of_decide_eq_true
theorem Zhb:type_of% @wpAny_bind:=@wpAny_bind
theorem Zib:type_of% @wpAny_mono:=@wpAny_mono
theorem Zjb:type_of% @wpAny_pure:=@wpAny_pure
theorem Zkb:type_of% @Nat.zero_le:=@Nat.zero_le
theorem Zlb:type_of% @Nat.not_lt_zero:=@Nat.not_lt_zero
theorem Zmb:type_of% @decide_eq_true:=@decide_eq_true
theorem Znb:type_of% @Nat.mul_le_mul_left:=@Nat.mul_le_mul_left
theorem Zob:type_of% @Bool.and_eq_true:=@Bool.and_eq_true
theorem Zpb:type_of% @Option.map_eq_some_iff:=@Option.map_eq_some_iff
theorem Zqb:type_of% @Heap.size_push:=@Heap.size_push
theorem Zrb:type_of% @List.getElem?_eq_none:=@List.getElem?_eq_none
theorem Zsb:type_of% @List.mem_map:=@List.mem_map
theorem Ztb:type_of% @Nat.le_add_left:=@Nat.le_add_left
theorem Zub:type_of% @Nat.lt_irrefl:=@Nat.lt_irrefl
theorem Zvb:type_of% @Nat.mul_le_mul_right:=@Nat.mul_le_mul_right
theorem Zwb:type_of% @Nat.succ_le_succ:=@Nat.succ_le_succ
theorem Zxb:type_of% @List.mem_append_left:=@List.mem_append_left
theorem Zyb:type_of% @List.mem_append_right:=@List.mem_append_right
theorem Zzb:type_of% @Nat.add_le_add_left:=@Nat.add_le_add_left
theorem Zac:type_of% @Nat.add_le_add_right:=@Nat.add_le_add_right
theorem Zbc:type_of% @Nat.sub_le_sub_left:=@Nat.sub_le_sub_left
theorem Zcc:type_of% @Nat.le_of_succ_le_succ:=@Nat.le_of_succ_le_succ
theorem Zdc:type_of% @List.not_mem_nil:=@List.not_mem_nil
theorem Zec:type_of% @List.length_reverse:=@List.length_reverse
theorem Zfc:type_of% @List.map_append:=@List.map_append
theorem Zgc:type_of% @List.take_length:=@List.take_length
theorem Zhc:type_of% @Int.ofNat_le:=@Int.ofNat_le
theorem Zic:type_of% @List.length_take_le':=@List.length_take_le'
theorem Zjc:type_of% @Nat.le_of_lt_succ:=@Nat.le_of_lt_succ
theorem Zkc:type_of% @Nat.le_of_succ_le:=@Nat.le_of_succ_le
theorem Zlc:type_of% @List.append_nil:=@List.append_nil
theorem Zmc:type_of% @beq_eq_false_iff_ne:=@beq_eq_false_iff_ne
theorem Znc:type_of% @Nat.ne_of_lt:=@Nat.ne_of_lt
theorem Zoc:type_of% @Nat.ne_of_gt:=@Nat.ne_of_gt
theorem Zpc:type_of% @Nat.le_antisymm:=@Nat.le_antisymm
theorem Zqc:type_of% @Nat.sub_lt_sub_left:=@Nat.sub_lt_sub_left
theorem Zrc:type_of% @decide_eq_false:=@decide_eq_false
theorem Zsc:type_of% @Heap.get?_push_size:=@Heap.get?_push_size
theorem Ztc:type_of% @List.getElem?_append_right:=@List.getElem?_append_right
theorem Zuc:type_of% @Nat.add_sub_cancel_left:=@Nat.add_sub_cancel_left
theorem Zvc:type_of% @Int.natCast_nonneg:=@Int.natCast_nonneg
theorem Zwc:type_of% @Nat.add_add_add_comm:=@Nat.add_add_add_comm
theorem Zxc:type_of% @List.nodup_cons:=@List.nodup_cons
theorem Zzc:type_of% @Int.toNat_natCast:=@Int.toNat_natCast
set_option genSizeOf false
section
inductive V where
 | none
 | bool (b:Bool)
 | int (i:Int)
 | str (s:Str)
 | tup (vs:List V)
 | ref (l:Nat)
 | glob (x:Str)
 | mth (c x:Str)
 | type (n:String)
 | bi (id:String)
 | rng (n:Int)
 | exc (c:Str)
 | scr (xs:List Int)
 | rev (l n:Nat)
inductive Yaq where
 | list (vs:List V)
 | sdict (kvs:List (Str×V))
 | tdict (kvs:List ((Str×Int)×V))
 | inst (c:Str) (fs:List (Str×V))
theorem ex2 {α:Sort _}{β:Sort _}{p:α→β→Prop}{P:Prop}(h:∃ a b,p a b) (k:∀ a b,p a b→P):P:=by
 obtain ⟨a,b,h⟩:=h
 exact k _ _ h
theorem ex3 {α:Sort _}{β:Sort _}{γ:Sort _}{p:α→β→γ→Prop}{P:Prop}(h:∃ a b c,p a b c) (k:∀ a b c,p a b c→P):P:=by
 obtain ⟨a,b,c,h⟩:=h
 exact k _ _ _ h
theorem ex4 {α:Sort _}{β:Sort _}{γ:Sort _}{δ:Sort _}{p:α→β→γ→δ→Prop}{P:Prop}(h:∃ a b c d,p a b c d) (k:∀ a b c d,p a b c d→P):P:=by
 obtain ⟨a,b,c,d,h⟩:=h
 exact k _ _ _ _ h
theorem ex5 {α:Sort _}{β:Sort _}{γ:Sort _}{δ:Sort _}{ε:Sort _}{p:α→β→γ→δ→ε→Prop}{P:Prop}(h:∃ a b c d e,p a b c d e) (k:∀ a b c d e,p a b c d e→P):P:=by
 obtain ⟨a,b,c,d,e,h⟩:=h
 exact k _ _ _ _ _ h
theorem ex7 {α:Sort _}{β:Sort _}{γ:Sort _}{δ:Sort _}{ε:Sort _}{ζ:Sort _}{η:Sort _}{p:α→β→γ→δ→ε→ζ→η→Prop}{P:Prop}(h:∃ a b c d e f g,p a b c d e f g) (k:∀ a b c d e f g,p a b c d e f g→P):P:=by
 obtain ⟨a,b,c,d,e,f,g,h⟩:=h
 exact k _ _ _ _ _ _ _ h
theorem Ygi {a1 a2 a3 P:Prop}(h:a1∧a2∧a3) (k:a1→a2→a3→P):P:=by
 obtain ⟨h0,h1,h2⟩:=h
 exact k h0 h1 h2
theorem Yqg {a1 a2 a3 a4 P:Prop}(h:a1∧a2∧a3∧a4) (k:a1→a2→a3→a4→P):P:=by
 obtain ⟨h0,h1,h2,h3⟩:=h
 exact k h0 h1 h2 h3
theorem Yzk {a1 a2 a3 a4 a5 P:Prop}(h:a1∧a2∧a3∧a4∧a5) (k:a1→a2→a3→a4→a5→P):P:=by
 obtain ⟨h0,h1,h2,h3,h4⟩:=h
 exact k h0 h1 h2 h3 h4
theorem Yz9 {a1 a2 a3 a4 a5 a6 a7 P:Prop}(h:a1∧a2∧a3∧a4∧a5∧a6∧a7) (k:a1→a2→a3→a4→a5→a6→a7→P):P:=by
 obtain ⟨h0,h1,h2,h3,h4,h5,h6⟩:=h
 exact k h0 h1 h2 h3 h4 h5 h6
theorem Y0u {a1 a2 a3 a4 a5 a6 a7 a8 a9 a10 a11 P:Prop}(h:a1∧a2∧a3∧a4∧a5∧a6∧a7∧a8∧a9∧a10∧a11) (k:a1→a2→a3→a4→a5→a6→a7→a8→a9→a10→a11→P):P:=by
 obtain ⟨h0,h1,h2,h3,h4,h5,h6,h7,h8,h9,h10⟩:=h
 exact k h0 h1 h2 h3 h4 h5 h6 h7 h8 h9 h10
class inductive All2 {α β:Type}(R:α→β→Prop):List α→List β→Prop where
 | nil:All2 R [] []
 | cons {a:α}{b:β}{as:List α}{bs:List β}(h:R a b) (t:All2 R as bs):All2 R (a::as) (b::bs)
section
variable {α β:Type}{R R':α→β→Prop}{as cs:List α}{bs ds:List β}
theorem All2.imp (k:∀ a b,R a b→R' a b) (h:All2 R as bs):All2 R' as bs:=h.rec .nil fun h zz ih=>.cons (k _ _ h) ih
theorem All2.length (h:All2 R as bs):bs.length=as.length:=h.rec rfl fun zz zz ih=>congrArg Nat.succ ih
theorem All2.append (h:All2 R as bs) (g:All2 R cs ds):All2 R (as++cs) (bs++ds):=h.rec g fun h zz ih=>.cons h ih
theorem All2.get (h:All2 R as bs):∀ (i:Nat) (v:α),as[i]?=some v→∃ x,bs[i]?=some x∧R v x:=h.rec (fun zz zz e=>(by cases e)) fun h zz ih i=>i.rec (fun v e=>⟨_,rfl,Zab e▸h⟩) fun i zz=>ih i
theorem All2.take (h:All2 R as bs):∀ n:Nat,All2 R (as.take n) (bs.take n):=h.rec (fun n=>n.rec .nil fun zz zz=>.nil) fun h zz ih n=>n.rec .nil fun n zz=>.cons h (ih n)
theorem All2.drop (h:All2 R as bs):∀ n:Nat,All2 R (as.drop n) (bs.drop n):=h.rec (fun n=>n.rec .nil fun zz zz=>.nil) fun h t ih n=>n.rec (.cons h t) fun n zz=>ih n
end
theorem Yaf {α:Type}{a:α}(h:(none:Option α)=some a):False:=(by cases h)
noncomputable def atL {α:Type}(f:List V→Option α):Option Yaq→Option α
 | some (.list vs)=>f vs
 | z1=>none
theorem Ydo {α:Type}{f:List V→Option α}{o:Option Yaq}{x:α}(h:atL f o=some x):∃ vs,o=some (.list vs)∧f vs=some x:=by
 rcases o with zz | o
 · exact (Yaf h).elim
 · cases o <;> first | exact ⟨_,rfl,h⟩ | exact (Yaf h).elim
theorem Yim {α:Type}{f:List V→Option α}{o:Option Yaq}{vs:List V}(h:o=some (.list vs)):atL f o=f vs:=h▸rfl
theorem Ydv {α:Type}{c:Prop}[Decidable c] {a x:α}(h:(if c then some a else none)=some x):c∧a=x:=by
 by_cases q:c
 · rw [if_pos q] at h; exact ⟨q,Zab h⟩
 · rw [if_neg q] at h; exact (Yaf h).elim
theorem Yad {α:Type}{a b:α}(h:some a=some b):a=b:=Zab h
noncomputable abbrev Hp:=List Yaq
noncomputable abbrev Inj:=List (Addr×Addr)
noncomputable def own (ι:Inj):List Addr:=ι.flatMap fun p=>[p.1,p.2]
theorem Yck {ι:Inj}{a:Addr}:a∈own ι↔∃ p∈ι,a=p.1∨a=p.2:=by
 simp [own]
theorem Yg7 (ι κ:Inj):own (ι++κ)=own ι++own κ:=by simp [own]
structure Tp where
 prog:Program
 w:World
 b0:Heap
 os:OsState
 K:PySem.W.Frag
 gv:Str→Option V
 hd:Bool
noncomputable def Tp.g (T:Tp) (x:Str):Option Value:=(PySem.W.nsIn T.K mainGlobals x).join
noncomputable def Y1a:Option Value→Option Addr
 | some (.ref a)=>some a
 | z1=>none
theorem Yh7 {o:Option Value}{a:Addr}(h:Y1a o=some a):o=some (.ref a):=by
 rcases o with zz | o
 · exact (Yaf h).elim
 · cases o <;> first | exact (Yaf h).elim | exact congrArg (some<|Value.ref ·) (Yad h)
noncomputable def Tp.c (T:Tp) (x:Str):Option Addr:=Y1a (T.g x)
noncomputable def Tp.m (T:Tp) (c x:Str):Option Value:=(T.c c).bind fun C=>(PySem.W.findIn T.K (.ref C) x).join
noncomputable def Ya1 (o:Obj):Bool:=o.cls == .type "tuple" || o.cls == .type "range"
noncomputable def Yc5:List String:=["list_iterator", "tuple_iterator", "range_iterator", "longrange_iterator", "str_iterator", "str_ascii_iterator", "dict_keyiterator", "list_reverseiterator"]
noncomputable def iterish (o:Obj):Bool:=Yc5.any fun n=>o.cls == .type n
theorem Yea {o:Obj}(h:iterish o=true):∃ n∈Yc5,o.cls=.type n:=(List.any_eq_true.mp h).elim fun n h=>⟨n,h.1,beq_iff_eq.mp h.2⟩
theorem Yme {o:Obj}{n:String}(h:o.cls=.type n) (m:n∈Yc5):iterish o=true:=List.any_eq_true.mpr ⟨n,m,beq_iff_eq.mpr h⟩
theorem Yco {o:Obj}{n:String}(h:o.cls=.type n) (m:n∉Yc5):iterish o=false:=Bool.eq_false_iff.mpr fun q=>(Yea q).elim fun k g=>m (Value.type.inj (h.symm.trans g.2)▸g.1)
noncomputable def Yb1 (o:Obj):Bool:=match o.cls with
 | .type n=>n != "frame"
 | z1=>false
theorem Yir {o:Obj}{C:Addr}(h:o.cls=.ref C):Yb1 o=false:=by simp [Yb1,h]
theorem Yqk {o o':Obj}(h:o'.cls=o.cls):Yb1 o'=Yb1 o:=by simp [Yb1,h]
theorem Yhn {o:Obj}(h:iterish o=true):Yb1 o=true:=(Yea h).elim fun n g=>by
 unfold Yb1; rw [g.2]; exact (by decide:∀ n∈Yc5,(n != "frame")=true) n g.1
noncomputable def itr (o:Obj):Bool:=o.cls.ctorIdx != Value.ctorIdx (.type "") || iterish o
theorem Ykd {o:Obj}{C:Addr}(h:o.cls=.ref C):iterish o=false:=Bool.eq_false_iff.mpr fun q=>(Yea q).elim fun k g=>nomatch h.symm.trans g.2
theorem Yl9 {o o':Obj}(h:o'.cls=o.cls):iterish o'=iterish o:=by unfold iterish; rw [h]
theorem Ytp {o o':Obj}(h:o'.cls=o.cls):itr o'=itr o:=by unfold itr; rw [Yl9 h,h]
theorem Yc2 {o:Obj}(h:itr o=false):iterish o=false:=(Bool.or_eq_false_iff.mp h).2
theorem Ynd {o:Obj}{C:Addr}(h:itr o=false) (c:o.cls=.ref C):False:=by
 unfold itr at h; rw [c] at h; cases h
theorem Ypv {o:Obj}{n:String}(h:o.cls=.type n) (m:n∉Yc5):itr o=false:=by unfold itr; rw [Yco h m,h]; rfl
mutual
noncomputable def Yau (T:Tp) (ι:Inj) (h:Heap):V→Value→Prop
 | .none,v=>v=.none
 | .bool b,v=>v=.bool b
 | .int i,v=>∃ t,v=.int i t
 | .str s,v=>∃ t,v=.str s t
 | .tup vs,v=>∃ a items n,v=.ref a∧IsT h a items n∧VRels T ι h vs items.toList
 | .ref l,v=>∃ a d,v=.ref a∧ι[l]?=some (a,d)
 | .glob x,v=>T.g x=some v
 | .mth c x,v=>T.m c x=some v
 | .type n,v=>v=.type n
 | .bi id,v=>v=.builtin id
 | .rng n,v=>∃ a t1 t2 t3,v=.ref a∧IsRange h a 0 n 1 t1 t2 t3
 | .exc c,v=>∃ a o C,v=.ref a∧h.get? a=some o∧T.c c=some C∧o.cls=.ref C
 | .scr xs,v=>∃ a o items n,v=.ref a∧T.b0.get? a=some o∧o.cls=.type "list" ∧ o.data=.seq items n∧∃ l:List (Int×Tok),items.toList=l.map (fun p=>Value.int p.1 p.2)∧l.map (·.1)=xs
 | .rev z1 z2,z3=>False
noncomputable def VRels (T:Tp) (ι:Inj) (h:Heap):List V→List Value→Prop
 | [],[]=>True
 | v::vs,x::xs=>Yau T ι h v x∧VRels T ι h vs xs
 | [],z1::z2=>False
 | z1::z2,[]=>False
end
inductive Yo6 {α β:Type}(R:α→β→Prop):Option α→Option β→Prop where
 | none:Yo6 R none none
 | some {a:α}{b:β}(h:R a b):Yo6 R (some a) (some b)
theorem Yo6.imp {α β:Type}{R R':α→β→Prop}(k:∀ a b,R a b→R' a b) {x:Option α}{y:Option β}(h:Yo6 R x y):Yo6 R' x y:=h.rec .none fun h=>.some (k _ _ h)
theorem Yo6.isSome {α β:Type}{R:α→β→Prop}{x:Option α}{y:Option β}(h:Yo6 R x y):y.isSome=x.isSome:=h.rec rfl fun zz=>rfl
noncomputable abbrev Yc3 (T:Tp) (ι:Inj) (h:Heap):Option V→Option Value→Prop:=Yo6 (Yau T ι h)
class inductive KRel {α β γ:Type}(R:β→γ→Prop):List (α×β)→List (α×γ)→Prop where
 | nil:KRel R [] []
 | cons {k:α}{v:β}{x:γ}{r:List (α×β)}{q:List (α×γ)}(h:R v x) (t:KRel R r q):KRel R ((k,v)::r) ((k,x)::q)
section
variable {α β γ:Type}{R R':β→γ→Prop}{a:List (α×β)}{b:List (α×γ)}
theorem KRel.imp (k:∀ a b,R a b→R' a b) (h:KRel R a b):KRel R' a b:=h.rec .nil fun h zz ih=>.cons (k _ _ h) ih
theorem KRel.length (h:KRel R a b):b.length=a.length:=h.rec rfl fun zz zz ih=>congrArg Nat.succ ih
theorem KRel.keys (h:KRel R a b):b.map (·.1)=a.map (·.1):=h.rec rfl fun zz zz ih=>congrArg (List.cons _) ih
theorem KRel.push {k:α}{v:β}{x:γ}(h:KRel R a b) (r:R v x):KRel R (a++[(k,v)]) (b++[(k,x)]):=h.rec (.cons r .nil) fun h zz ih=>.cons h ih
variable [DecidableEq α] {k:α}
theorem KRel.find (h:KRel R a b):Yo6 R ((a.find? fun kv=>decide (kv.1=k)).map (·.2)) ((b.find? fun kv=>decide (kv.1=k)).map (·.2)):=by
 induction h with
 | nil=>exact .none
 | @cons k' z1 z2 z3 z4 h z5 ih =>
   by_cases e:k'=k
   · rw [List.find?_cons,List.find?_cons,Zmb e]; exact .some h
   · rw [List.find?_cons,List.find?_cons,Zrc e]; exact ih
theorem KRel.any (h:KRel R a b):(b.any fun kv=>decide (kv.1=k))=a.any fun kv=>decide (kv.1=k):=h.rec rfl fun zz zz ih=>congrArg (_ || ·) ih
theorem KRel.put {v:β}{x:γ}{f:α×γ→α×γ}(hf:∀ p,f p=if p.1=k then (p.1,x) else p) (h:KRel R a b) (r:R v x):KRel R (a.map fun kv=>if kv.1=k then (kv.1,v) else kv) (b.map f):=by
 induction h with
 | nil=>exact .nil
 | @cons k' z1 z2 z3 z4 h z5 ih =>
   rw [List.map_cons,List.map_cons,hf]
   by_cases e:k'=k
   · rw [if_pos e,if_pos e]; exact .cons r ih
   · rw [if_neg e,if_neg e]; exact .cons h ih
end
theorem Yi7 {α β:Type}[DecidableEq α] {a:List (α×β)}{k:α}:((a.find? fun kv=>decide (kv.1=k)).map (·.2)).isSome=a.any fun kv=>decide (kv.1=k):=by
 rw [Option.isSome_map,Bool.eq_iff_iff,List.find?_isSome,List.any_eq_true]
structure Yed (ι:Inj) (h:Heap) (ι':Inj) (h':Heap):Prop where
 pre:∃ κ,ι'=ι++κ
 cls:∀ a o,h.get? a=some o→Yb1 o=false→∃ o',h'.get? a=some o'∧o'.cls=o.cls
 frz:∀ a o,h.get? a=some o→Ya1 o=true→h'.get? a=some o
theorem Yed.get {ι ι':Inj}{h h':Heap}(x:Yed ι h ι' h') {l:Nat}{p:Addr×Addr}(e:ι[l]?=some p):ι'[l]?=some p:=by
 obtain ⟨κ,rfl⟩:=x.pre
 rw [Zbb]
 · exact e
 · exact (Zb.mp e).1
theorem VRels.all {T:Tp}{ι:Inj}{h:Heap}{vs:List V}:∀ {xs:List Value},VRels T ι h vs xs→All2 (Yau T ι h) vs xs:=by
 induction vs with
 | nil=>intro xs e; cases xs; exact .nil; exact (show False from e).elim
 | cons v vs ih=>intro xs e; cases xs; exact (show False from e).elim; exact .cons e.1 (ih e.2)
theorem All2.vrels {T:Tp}{ι:Inj}{h:Heap}{vs:List V}{xs:List Value}(e:All2 (Yau T ι h) vs xs):VRels T ι h vs xs:=e.rec trivial fun h zz ih=>⟨h,ih⟩
theorem Yau.mono {T:Tp}{ι ι':Inj}{h h':Heap}(m:Yed ι h ι' h') {v:V}:∀ {x:Value},Yau T ι h v x→Yau T ι' h' v x :=
 V.rec (motive_1:=fun v=>∀ {x},Yau T ι h v x→Yau T ι' h' v x) (motive_2:=fun vs=>∀ {xs},VRels T ι h vs xs→VRels T ι' h' vs xs)
   (fun e=>e) (fun zz {_} e=>e) (fun zz {_} e=>e) (fun zz {_} e=>e) (fun zz ih {_} e=>ex3 e fun a items n e=>⟨a,items,n,e.1,m.frz a _ e.2.1 (by simp [Ya1]),ih e.2.2⟩) (fun zz {_} e=>ex2 e fun a d e=>⟨a,d,e.1,m.get e.2⟩) (fun zz {_} e=>e) (fun zz zz {_} e=>e) (fun zz {_} e=>e) (fun zz {_} e=>e)
   (fun zz {_} e=>ex4 e fun a t1 t2 t3 e=>⟨a,t1,t2,t3,e.1,m.frz a _ e.2 (by simp [Ya1])⟩) (fun zz {_} e=>ex3 e fun a o C e=>(m.cls a o e.2.1 (Yir e.2.2.2)).elim fun o' q=>⟨a,o',C,e.1,q.1,e.2.2.1,q.2.trans e.2.2.2⟩) (fun zz {_} e=>e) (fun zz zz {_} e=>e)
   (fun {xs} e=>by cases xs; exact e; exact (show False from e).elim) (fun v vs i1 i2 {xs} e=>by cases xs; exact (show False from e).elim; exact ⟨i1 e.1,i2 e.2⟩) v
theorem VRels.mono {T:Tp}{ι ι':Inj}{h h':Heap}(m:Yed ι h ι' h') {vs:List V}{xs:List Value}(e:VRels T ι h vs xs):VRels T ι' h' vs xs:=(e.all.imp fun zz zz r=>r.mono m).vrels
theorem Yc3.mono {T:Tp}{ι ι':Inj}{h h':Heap}(m:Yed ι h ι' h') {v:Option V}{x:Option Value}(r:Yc3 T ι h v x):Yc3 T ι' h' v x:=r.imp fun zz zz r=>r.mono m
theorem VRels.length {T:Tp}{ι:Inj}{h:Heap}{vs:List V}{xs:List Value}(e:VRels T ι h vs xs):xs.length=vs.length:=e.all.length
theorem VRels.nil_iff {T:Tp}{ι:Inj}{h:Heap}{xs:List Value}:VRels T ι h [] xs↔xs=[]:=by
 cases xs
 · exact ⟨fun zz=>rfl,fun zz=>trivial⟩
 · exact ⟨fun h=>(show False from h).elim,fun h=>(by cases h)⟩
theorem VRels.cons_iff {T:Tp}{ι:Inj}{h:Heap}{v:V}{vs:List V}{xs:List Value}:VRels T ι h (v::vs) xs↔∃ x r,xs=x::r∧Yau T ι h v x∧VRels T ι h vs r:=by
 cases xs with
 | nil=>exact ⟨fun h=>(show False from h).elim,fun h=>ex2 h fun zz zz h=>(by cases h.1)⟩
 | cons x r=>exact ⟨fun h=>⟨x,r,rfl,h.1,h.2⟩,fun h=>ex2 h fun x' r' h=>⟨(List.cons.inj h.1).1▸h.2.1,(List.cons.inj h.1).2▸h.2.2⟩⟩
theorem VRels.append {T:Tp}{ι:Inj}{h:Heap}{vs us:List V}{xs ys:List Value}(d:VRels T ι h vs xs) (e:VRels T ι h us ys):VRels T ι h (vs++us) (xs++ys):=(d.all.append e.all).vrels
theorem VRels.get {T:Tp}{ι:Inj}{h:Heap}{vs:List V}{xs:List Value}{i:Nat}{v:V}(d:VRels T ι h vs xs) (e:vs[i]?=some v):∃ x,xs[i]?=some x∧Yau T ι h v x:=d.all.get i v e
structure Ext (T:Tp) (F:List Addr) (ι:Inj) (h:Heap) (ι':Inj) (h':Heap):Prop where
 pre:∃ κ,ι'=ι++κ∧∀ p∈κ,h.objs.size≤p.1∧h.objs.size≤p.2
 size:h.objs.size≤h'.objs.size
 cls:∀ a o,h.get? a=some o→Yb1 o=false→∃ o',h'.get? a=some o'∧o'.cls=o.cls
 frz:∀ a o,h.get? a=some o→Ya1 o=true→h'.get? a=some o
 keep:∀ a o,h.get? a=some o→a∉own ι→a∉F→o.cls≠.type "frame" → h'.get? a=some o
 frm:∀ a o,h.get? a=some o→a∉own ι→a∉F→∃ sl,h'.get? a=some { o with slots:=sl }
theorem Ext.refl (T:Tp) (F:List Addr) (ι:Inj) (h:Heap):Ext T F ι h ι h :=
 ⟨⟨[],by simp,by simp⟩,Zl _,fun zz o e zz=>⟨o,e,rfl⟩,fun zz zz e zz=>e,fun zz zz e zz zz zz=>e,fun zz o e zz zz=>⟨o.slots,e⟩⟩
theorem Ext.mono {T:Tp}{F:List Addr}{ι ι':Inj}{h h':Heap}(x:Ext T F ι h ι' h'):Yed ι h ι' h' :=
 ⟨(by obtain ⟨κ,e,_⟩:=x.pre; exact ⟨κ,e⟩),x.cls,x.frz⟩
theorem Ext.not_own {T:Tp}{F:List Addr}{ι ι':Inj}{h h':Heap}(x:Ext T F ι h ι' h') {a:Addr}(hn:a∉own ι) (hl:a < h.objs.size):a∉own ι':=by
 obtain ⟨κ,rfl,hk⟩:=x.pre
 rw [Yg7,Zm,not_or]
 refine ⟨hn,fun hm=>?_⟩
 obtain ⟨p,hp,e⟩:=Yck.mp hm
 have:=hk p hp
 rcases e with rfl | rfl
 · exact absurd this.1 (Nat.not_le.mpr hl)
 · exact absurd this.2 (Nat.not_le.mpr hl)
theorem Ext.trans {T:Tp}{F:List Addr}{ι ι₁ ι₂:Inj}{h h₁ h₂:Heap}(x:Ext T F ι h ι₁ h₁) (y:Ext T F ι₁ h₁ ι₂ h₂):Ext T F ι h ι₂ h₂:=by
 refine ⟨?_,Za x.size y.size,fun a o e i=>?_,fun a o e f=>y.frz a o (x.frz a o e f) f,fun a o e n f c=>?_,fun a o e n f=>?_⟩
 · obtain ⟨κ,rfl,hk⟩:=x.pre
   obtain ⟨κ',rfl,hk'⟩:=y.pre
   refine ⟨κ++κ',by simp,fun p hp=>?_⟩
   rcases Zm.mp hp with hp | hp
   · exact hk p hp
   · exact ⟨Za x.size (hk' p hp).1,Za x.size (hk' p hp).2⟩
 · obtain ⟨o₁,e₁,c₁⟩:=x.cls a o e i
   obtain ⟨o₂,e₂,c₂⟩:=y.cls a o₁ e₁ ((Yqk c₁).trans i)
   exact ⟨o₂,e₂,c₂.trans c₁⟩
 · exact y.keep a o (x.keep a o e n f c) (x.not_own n (Zu e)) f c
 · obtain ⟨sl,e₁⟩:=x.frm a o e n f
   obtain ⟨sl',e₂⟩:=y.frm a _ e₁ (x.not_own n (Zu e)) f
   exact ⟨sl',e₂⟩
theorem Ext.weaken {T:Tp}{F G:List Addr}{ι ι':Inj}{h h':Heap}(x:Ext T F ι h ι' h') (hFG:∀ a∈F,a < h.objs.size→a∈G):Ext T G ι h ι' h' :=
 ⟨x.pre,x.size,x.cls,x.frz,fun a o e n f c=>x.keep a o e n (fun q=>f (hFG a q (Zu e))) c,fun a o e n f=>x.frm a o e n (fun q=>f (hFG a q (Zu e)))⟩
theorem Ext.push (T:Tp) (F:List Addr) (ι:Inj) (h:Heap) (o:Obj):Ext T F ι h ι (h.push o) :=
 ⟨⟨[],by simp,by simp⟩,by rw [Zqb]; exact Zq (Zs h.objs.size),fun zz o e zz=>⟨o,Zx _ e,rfl⟩,fun zz zz e zz=>Zx _ e,fun zz zz e zz zz zz=>Zx _ e,
   fun zz o e zz zz=>⟨o.slots,Zx _ e⟩⟩
theorem Ext.of_keeps {T:Tp}{F:List Addr}{ι:Inj}{h h':Heap}(hs:h.objs.size≤h'.objs.size) (k:∀ b o,h.get? b=some o→h'.get? b=some o):Ext T F ι h ι h' :=
 ⟨⟨[],by simp,by simp⟩,hs,fun zz o e zz=>⟨o,k _ _ e,rfl⟩,fun zz zz e zz=>k _ _ e,fun zz zz e zz zz zz=>k _ _ e,fun zz o e zz zz=>⟨o.slots,k _ _ e⟩⟩
theorem Ext.of_sameBut {T:Tp}{F:List Addr}{ι:Inj}{h h':Heap}{a:Addr}{o o':Obj}(hs:Heap.SameBut a h h') (ho:h.get? a=some o) (ho':h'.get? a=some o') (hc:o'.cls=o.cls)
   (hf:Ya1 o=false) (hin:a∈own ι∨a∈F):Ext T F ι h ι h':=by
 refine ⟨⟨[],by simp,by simp⟩,Zr hs.1.symm,fun b x e zz=>?_,fun b x e f=>?_,fun b x e n f zz=>?_,fun b x e n f=>⟨x.slots,?_⟩⟩
 · by_cases q:b=a
   · subst q; rw [ho] at e; cases e; exact ⟨o',ho',hc⟩
   · exact ⟨x,(hs.2 b q).trans e,rfl⟩
 · by_cases q:b=a
   · subst q; rw [ho] at e; cases e; rw [hf] at f; cases f
   · exact (hs.2 b q).trans e
 · by_cases q:b=a
   · subst q; rcases hin with q | q
     · exact absurd q n
     · exact absurd q f
   · exact (hs.2 b q).trans e
 · by_cases q:b=a
   · subst q; rcases hin with q | q
     · exact absurd q n
     · exact absurd q f
   · exact (hs.2 b q).trans e
end
section
section
variable {prog:Program}{w:World}{A:Around}{E:Value→Shared→Prop}{s:Shared}
noncomputable def Ya7 (h:Heap) (k:Str×Int) (a:Addr):Prop:=∃ o t u n,h.get? a=some o∧(o.cls=.type "tuple" ∧ o.dict=none∧o.slots = #[])∧o.data=.seq #[.str k.1 t,.int k.2 u] n
theorem Ya7.typeIs {k:Str×Int}{a:Addr}(x:Ya7 s.heap k a):s.TypeIs (.ref a) "tuple":=(by obtain ⟨o,_,_,_,ho,hc,_⟩:=x; exact ⟨o,ho,hc.1⟩)
theorem Ya7.inj {h:Heap}{a:Addr}{x y:Str×Int}(hx:Ya7 h x a) (hy:Ya7 h y a):x=y:=by
 obtain ⟨o,t,u,n,ho,zz,hd⟩:=hx
 obtain ⟨o',t',u',n',ho',zz,hd'⟩:=hy
 obtain rfl:o=o':=Zab (ho.symm.trans ho')
 rw [hd] at hd'
 injection hd' with h1 _
 simp only [Array.mk.injEq,List.cons.injEq,Value.str.injEq,Value.int.injEq] at h1
 exact Prod.ext h1.1.1 h1.2.1.1
theorem Ya7.keeps {h h':Heap}{k:Str×Int}{a d:Addr}{o:Obj}{es ep}(x:Ya7 h k a) (ho:h.get? d=some o) (hd:o.data=.dict es ep) (hs:Heap.SameBut d h h'):Ya7 h' k a:=by
 obtain ⟨o',t,u,n,ho',hc,hd'⟩:=x
 have hne:a≠d:=by
   rintro rfl
   obtain rfl:o'=o:=Zab (ho'.symm.trans ho)
   rw [hd] at hd'; exact (by cases hd')
 exact ⟨o',t,u,n,(hs.2 a hne).trans ho',hc,hd'⟩
noncomputable def Ywi {β:Type}(Y D:β→Shared→Prop) (r:ForInStep β) (s:Shared):Prop:=match r with
 | .done b=>D b s
 | .yield b=>Y b s
theorem Yi5 {M:Model}{α β:Type}{x y:α}{b:β}{f:α→β→Sem (ForInStep β)}{Q:β→Shared→Prop}(h:wpAny M A (f x b) (Ywi (fun b s=>wpAny M A (f y b) (Ywi Q Q) E s) Q) E s):wpAny M A (forIn [x,y] b f) Q E s:=by
 rw [List.forIn_cons]
 refine Zhb (Zib h (fun r s₁ p=>?_) fun zz zz p=>p)
 cases r
 · exact Zjb p
 · show wpAny M A (forIn [y] _ f) Q E s₁
   rw [List.forIn_cons]
   refine Zhb (Zib p (fun r s₂ p=>?_) fun zz zz p=>p)
   cases r
   · exact Zjb p
   · show wpAny M A (forIn [] _ f) Q E s₂
     rw [List.forIn_nil]; exact Zjb p
noncomputable def Yh1 (w:World) (k:Str×Int):Int:=reduceHash (Builtin.Tuple.tupleHashOf [hashStr w k.1,hashInt k.2])
theorem Ya7.pyHash {k:Str×Int}{a:Addr}{Q:Int→Shared→Prop}(hu:A.units < cLine) (hk:Ya7 s.heap k a) (h:Q (Yh1 w k) { s with toks:=s.toks+3 }):wpAny (model prog w) A (PySem.pyHash (.ref a)) Q E s:=by
 have hT:=hk.typeIs
 obtain ⟨o,t,u,n,ho,zz,hd⟩:=hk
 unfold PySem.pyHash
 first | unfold pyHashByItsType | skip
 first | refine Zhb (wpAny_cRoomFor_or (.inr hu) ?_) | skip
 refine Zhb (wpAny_specialOf hT F.slot_tuple_hash.lookup ?_)
 show wpAny _ _ (if (some (Value.builtin "tuple.__hash__") == some Value.none)=true then _ else _) Q E s
 rw [if_neg (by rw [beq_builtin_none]; exact Zv)]
 refine Zhb (wpAny_specialOf hT F.slot_tuple_hash.lookup ?_)
 show wpAny _ _ (callSpecialIfBoundUnlessNone? (.ref a) "__hash__" _ >>= _) Q E s
 refine Zhb (wpAny_callSpecialIfBoundUnlessNone?_slot hT F.slot_tuple_hash (wpAny_call_entry F.slot_tuple_hash hT F.entry_tuple_hash ?_ (F.args_tuple_hash_1 _)))
 show wpAny _ _ (Builtin.Tuple.tupleItemsOf (.ref a) >>= _) _ _ s
 refine Zhb (wpAny_tupleItemsOf ho hd ?_)
 refine Zhb ?_
 rw [← Array.forIn_toList]
 refine Yi5 (Zhb (wpAny_pyHash_str (Zjb ?_)))
 refine Zhb (wpAny_pyHash_int (Zjb ?_))
 · show wpAny _ _ (retInt (Builtin.Tuple.tupleHashOf [hashStr w k.1,hashInt k.2])) _ _ _
   refine wpAny_ret_mkInt ?_
   show wpAny _ _ (if (decide (-(2:Int) ^ 63≤Builtin.Tuple.tupleHashOf [hashStr w k.1,hashInt k.2]) && decide (Builtin.Tuple.tupleHashOf [hashStr w k.1,hashInt k.2] < 2 ^ 63))=true then _ else _) Q E _
   unfold Yh1 reduceHash at h
   by_cases hr:(decide (-(2:Int) ^ 63≤Builtin.Tuple.tupleHashOf [hashStr w k.1,hashInt k.2]) && decide (Builtin.Tuple.tupleHashOf [hashStr w k.1,hashInt k.2] < 2 ^ 63))=true
   · rw [if_pos hr]
     rw [if_pos hr] at h
     exact Zjb h
   · rw [if_neg hr]
     rw [if_neg hr] at h
     exact Zhb (wpAny_rule (Zjb h))
theorem Ya7.quiet {k:Str×Int}{a:Addr}{Q:Bool→Shared→Prop}(hk:Ya7 s.heap k a) (h:Q true s):wpAny (model prog w) A (eqIsQuiet 8 (.ref a)) Q E s:=by
 have hT:=hk.typeIs
 obtain ⟨o,t,u,n,ho,zz,hd⟩:=hk
 unfold eqIsQuiet
 refine Zhb (wpAny_specialOf hT F.slot_tuple_eq.lookup ?_)
 show wpAny _ _ (isInstance (.ref a) (.type "tuple") >>= _) _ _ s
 refine Zhb (wpAny_isInstance hT isSubtype_tuple_tuple ?_)
 simp only [Bool.not_true,Bool.false_eq_true,if_false]
 refine Zhb (wpAny_seqItems ho hd ?_)
 refine Zhb ?_
 show wpAny _ _ (forIn _ _ _) _ _ s
 rw [← Array.forIn_toList]
 refine wpAny_forIn_list _ (fun rest r s'=>r.1=none∧s'=s∧∀ v∈rest,carriedByValue v=true) _ ?_ ?_ _ _ ⟨rfl,rfl,by simp [carriedByValue]⟩
 · rintro v rest r s' ⟨hr,rfl,hall⟩
   rw [eqIsQuiet_byValue _ (hall v Zt)]
   refine Zhb (Zjb ?_)
   simp only [Bool.not_true,Bool.false_eq_true,if_false]
   exact Zjb ⟨rfl,rfl,fun u hu'=>hall u (Zd _ hu')⟩
 · rintro ⟨r1,r2⟩ s' ⟨hr,rfl,zz⟩
   simp only at hr
   subst hr
   exact Zjb h
theorem Ya7.eqTree {x y:Str×Int}{a b:Addr}{P:Fin→Shared→Prop}(hx:Ya7 s.heap x a) (hy:Ya7 s.heap y b) (h:P (.done (.ret (.bool (decide (x=y))))) s) :
   wpAny (model prog w) A (Builtin.«tuple.__eq__» ⟨[.ref a,.ref b],[]⟩) P E s:=by
 have hTb:=hy.typeIs
 obtain ⟨oa,t,u,na,hoa,zz,hda⟩:=hx
 obtain ⟨ob,t',u',nb,hob,zz,hdb⟩:=hy
 show wpAny _ _ (isInstance (.ref b) (.type "tuple") >>= _) _ _ s
 refine Zhb (wpAny_isInstance hTb isSubtype_tuple_tuple ?_)
 simp only [Bool.not_true,Bool.false_eq_true,if_false]
 refine Zhb (wpAny_tupleItemsOf hoa hda ?_)
 refine Zhb (wpAny_tupleItemsOf hob hdb ?_)
 refine Zhb ?_
 refine Yi5 (Zhb (wpAny_eqBool_str ?_))
 by_cases h1:x.1=y.1
 · rw [Zmb h1]
   refine Zjb (Zhb (wpAny_eqBool_int ?_))
   by_cases h2:x.2=y.2
   · rw [beq_iff_eq.mpr h2]
     rw [Zmb (Prod.ext h1 h2)] at h
     exact Zjb (Zjb h)
   · rw [Zmc.mpr h2]
     rw [Zrc fun e=>h2 (congrArg (·.2) e)] at h
     exact Zhb (Zjb (Zjb (Zjb h)))
 · rw [Zrc h1]
   rw [Zrc fun e=>h1 (congrArg (·.1) e)] at h
   exact Zhb (Zjb (Zjb (Zjb h)))
theorem Ya7.eqBool {x y:Str×Int}{a b:Addr}{Q:Bool→Shared→Prop}(hu:A.units < cLine) (hx:Ya7 s.heap x a) (hy:Ya7 s.heap y b) (h:Q (decide (x=y)) s) :
   wpAny (model prog w) A (PySem.eqBool (.ref a) (.ref b)) Q E s:=by
 unfold PySem.eqBool
 try with_reducible refine wpAny_holding ?_
 show wpAny _ _ (if (Value.ref a == Value.ref b)=true then _ else _) Q E s
 by_cases hab:(Value.ref a == Value.ref b)=true
 · rw [if_pos hab]
   have e:a=b:=by have:=eq_of_beq hab; injection this
   subst e
   obtain rfl:=hx.inj hy
   exact Zhb (wpAny_rule (Zjb (by simpa using h)))
 · rw [if_neg hab]
   exact Zhb (wpAny_richCompare_same_room (op:=.Eq) hx.typeIs hy.typeIs F.slot_tuple_eq
     (wpAny_call_entry F.slot_tuple_eq hx.typeIs F.entry_tuple_eq (hx.eqTree hy ⟨_,rfl,(fun e=>(by cases e)),wpAny_truthy_bool h⟩) (F.args_tuple_eq_2 _ _)) hu)
end
noncomputable def Ydu (prog:Program) (w:World):HeapKind prog w (Str×Int) where
 is:=Ya7
 hash:=Yh1 w
 draws:=fun zz=>3
 room:=fun A=>A.units < cLine
 inj:=fun hx hy=>hx.inj hy
 keeps:=fun x ho hd hs=>x.keeps ho hd hs
 pyHash:=fun hu hk h=>hk.pyHash hu h
 eqBool:=fun hu hx hy h=>hx.eqBool hu hy h
 quiet:=fun hk h=>hk.quiet h
end
section
inductive NsC (h:Heap) (a:Addr) (c:String) (m:Str→Option Value):Prop where
 | mk (o:Obj) (es:Array DictEntry) (ep:Nat) (h1:h.get? a=some o) (h2:o.cls=.type c) (h3:o.dict=none) (h4:o.data=.dict es ep) (h5:StrKeys es) (h6:UniqKeys es) (h7:∀ name,nsFind es name=m name):NsC h a c m
theorem NsC.ns {h:Heap}{a:Addr}{c:String}{m}(x:NsC h a c m):h.Ns a m:=x.rec fun o es ep h1 zz zz h4 h5 zz h7=>⟨o,es,ep,h1,h4,h5,h7⟩
theorem NsC.of_slots {h h':Heap}{a:Addr}{c:String}{m}(x:NsC h a c m) (k:∀ o,h.get? a=some o→∃ sl,h'.get? a=some { o with slots:=sl }):NsC h' a c m :=
 x.rec fun o es ep h1 h2 h3 h4 h5 h6 h7=>Zh (k o h1) fun zz e=>⟨_,es,ep,e,h2,h3,h4,h5,h6,h7⟩
theorem NsC.sameBut {h h':Heap}{a b:Addr}{c:String}{m}(x:NsC h a c m) (hs:Heap.SameBut b h h') (hab:a≠b):NsC h' a c m :=
 x.rec fun o es ep h1 h2 h3 h4 h5 h6 h7=>⟨o,es,ep,(hs.2 a hab).trans h1,h2,h3,h4,h5,h6,h7⟩
theorem NsC.ns1 {h:Heap}{a:Addr}{c:String}{m}(x:NsC h a c m):h.Ns1 a m:=x.rec fun o es ep h1 zz zz h4 h5 h6 h7=>⟨o,es,ep,h1,h4,h5,h6,h7⟩
theorem NsC.of1 {h h':Heap}{a:Addr}{c:String}{m m'}(x:NsC h a c m) (y:h'.Ns1 a m') (k:∀ o,h.get? a=some o→∃ o',h'.get? a=some o'∧o'.cls=o.cls∧o'.dict=o.dict):NsC h' a c m' :=
 x.rec fun o zz zz h1 h2 h3 zz zz zz zz=>Zh (k o h1) fun o' q=>ex3 y fun o2 es ep y=>have e:o'=o2:=Yad (q.1.symm.trans y.1); ⟨o2,es,ep,y.1,(congrArg Obj.cls e).symm.trans (q.2.1.trans h2),(congrArg Obj.dict e).symm.trans (q.2.2.trans h3),y.2.1,y.2.2.1,y.2.2.2.1,y.2.2.2.2⟩
theorem Yth {M:Model}{A:Around}{E:Value→Shared→Prop}{s:Shared}{a:Addr}{c:String}{m}{name:Str}{v:Value}{Q:Unit→Shared→Prop}(hn:NsC s.heap a c m)
   (hQ:∀ h',NsC h' a c (fun x=>if x=name then some v else m x)→Heap.SameBut a s.heap h'→Q () { s with heap:=h',toks:=s.toks+1 }):wpAny M A (nsSet a name v) Q E s :=
 wpAny_nsSet1EFk hn.ns1 fun h' y hs k=>hQ h' (hn.of1 y k) hs
noncomputable def Yw3 (h:Heap) (a:Addr) (items:List Value):Prop:=∃ n,h.get? a=some ⟨.type "list",none,.seq items.toArray n,#[]⟩
noncomputable abbrev Yjh (T:Tp) (ι:Inj) (h:Heap):List (Str×V)→List (Str×Value)→Prop:=KRel (Yau T ι h)
noncomputable abbrev Yih (T:Tp) (ι:Inj) (h:Heap):List ((Str×Int)×V)→List ((Str×Int)×Addr×Value)→Prop:=KRel fun v p=>Yau T ι h v p.2
noncomputable def Yie (T:Tp) (ι:Inj) (h:Heap):Yaq→Addr×Addr→Prop
 | .list vs,p=>p.1=p.2∧∃ items,Yw3 h p.1 items∧VRels T ι h vs items
 | .sdict kvs,p=>p.1=p.2∧∃ rvs,h.DictOf (strKind T.prog T.w) p.1 rvs∧Yjh T ι h kvs rvs
 | .tdict kvs,p=>p.1=p.2∧∃ xs,h.DictOfH (Ydu T.prog T.w) p.1 xs∧Yih T ι h kvs xs
 | .inst c fs,p=>∃ C m sl,T.c c=some C∧h.get? p.1=some ⟨.ref C,some p.2,.plain,sl⟩∧NsC h p.2 "dict" m∧(∀ x,Yc3 T ι h (fs.lookup x) (m x))
structure Rep (T:Tp) (ι:Inj) (σ:Hp) (h:Heap):Prop where
 len:ι.length=σ.length
 big:10≤T.b0.objs.size
 size:T.b0.objs.size≤h.objs.size
 base:∀ a o,T.b0.get? a=some o→h.get? a=some o
 objs:∀ (l:Nat) (o:Yaq) (p:Addr×Addr),σ[l]?=some o→ι[l]?=some p→Yie T ι h o p
 fresh:∀ p∈ι,T.b0.objs.size≤p.1∧T.b0.objs.size≤p.2
 apart:∀ (i j:Nat) (p q:Addr×Addr),ι[i]?=some p→ι[j]?=some q→i≠j→p.1≠q.1∧p.1≠q.2∧p.2≠q.1∧p.2≠q.2
theorem Ya7.mono {ι ι':Inj}{h h':Heap}{k:Str×Int}{a:Addr}(m:Yed ι h ι' h') (x:Ya7 h k a):Ya7 h' k a:=by
 refine ex4 x fun o t u n h9=>Ygi h9 fun ho hc hd=>?_
 exact ⟨o,t,u,n,m.frz _ _ ho (by simp [Ya1,hc]),hc,hd⟩
theorem Yie.cls {T:Tp}{ι:Inj}{h:Heap}{o:Yaq}{p:Addr×Addr}(e:Yie T ι h o p) {a:Addr}(ha:a=p.1∨a=p.2):∃ x,h.get? a=some x∧((∃ C,x.cls=.ref C)∨x.cls=.type "list" ∨ x.cls=.type "dict"):=by
 have one:∀ {x},p.1=p.2→h.get? p.1=some x→h.get? a=some x:=fun e g=>by rcases ha with q | q <;> rw [q] <;> first | exact g | exact e▸g
 cases o
 · obtain ⟨e,zz,⟨zz,x⟩,zz⟩:=e; exact ⟨_,one e x,.inr (.inl rfl)⟩
 · obtain ⟨e,zz,⟨zz,zz,zz,x,ex,zz⟩,zz⟩:=e; exact ⟨_,one e x,.inr (.inr ex.1)⟩
 · obtain ⟨e,zz,⟨zz,zz,zz,x,ex,zz⟩,zz⟩:=e; exact ⟨_,one e x,.inr (.inr ex.1)⟩
 · refine ex3 e fun C zz zz h9=>Yqg h9 fun zz x y zz=>?_
   rcases ha with q | q <;> rw [q]
   · exact ⟨_,x,.inl ⟨C,rfl⟩⟩
   · obtain ⟨o,zz,zz,y,yc,zz⟩:=y; exact ⟨o,y,.inr (.inr yc)⟩
theorem Yie.lt {T:Tp}{ι:Inj}{h:Heap}{o:Yaq}{p:Addr×Addr}(e:Yie T ι h o p):p.1 < h.objs.size∧p.2 < h.objs.size :=
 ⟨Zh (e.cls (.inl rfl)) fun zz g=>Zu g.1,Zh (e.cls (.inr rfl)) fun zz g=>Zu g.1⟩
theorem Rep.lt {T:Tp}{ι:Inj}{σ:Hp}{h:Heap}(r:Rep T ι σ h) {p:Addr×Addr}(hp:p∈ι):p.1 < h.objs.size∧p.2 < h.objs.size:=by
 obtain ⟨l,hl,rfl⟩:=List.getElem_of_mem hp
 have hl':l < σ.length:=by rw [← r.len]; exact hl
 exact (r.objs l σ[l] ι[l] (Zp hl') (Zp hl)).lt
theorem Rep.own_lt {T:Tp}{ι:Inj}{σ:Hp}{h:Heap}(r:Rep T ι σ h) {a:Addr}(ha:a∈own ι):a < h.objs.size:=by
 obtain ⟨p,hp,e⟩:=Yck.mp ha
 rcases e with rfl | rfl
 · exact (r.lt hp).1
 · exact (r.lt hp).2
theorem Yie.keeps {T:Tp}{ι ι':Inj}{h h':Heap}(m:Yed ι h ι' h') {o:Yaq}{p:Addr×Addr}(k:∀ x,h.get? p.1=some x→h'.get? p.1=some x) (k':∀ x,h.get? p.2=some x→h'.get? p.2=some x) (e:Yie T ι h o p):Yie T ι' h' o p:=by
 cases o
 · obtain ⟨e,items,⟨n,x⟩,r⟩:=e; exact ⟨e,items,⟨n,k _ x⟩,r.mono m⟩
 · obtain ⟨e,rvs,⟨o,es,ep,x,r⟩,q⟩:=e; exact ⟨e,rvs,⟨o,es,ep,k _ x,r⟩,q.imp fun zz zz r=>r.mono m⟩
 · obtain ⟨e,rvs,⟨o,es,ep,x,c,dd,ee,y,r⟩,q⟩:=e; exact ⟨e,rvs,⟨o,es,ep,k _ x,c,dd,ee,fun z hz=>Ya7.mono m (y z hz),r⟩,q.imp fun zz zz r=>r.mono m⟩
 · exact ex3 e fun C mm sl e=>⟨C,mm,sl,e.1,k _ e.2.1,e.2.2.1.rec fun o' es' ep' e' z1 z2 z3 z4 z5 z6=>⟨o',es',ep',k' _ e',z1,z2,z3,z4,z5,z6⟩,fun z=>Yc3.mono m (e.2.2.2 z)⟩
theorem Rep.keeps {T:Tp}{ι:Inj}{σ:Hp}{h h':Heap}(r:Rep T ι σ h) (m:Yed ι h ι h') (hs:h.objs.size≤h'.objs.size) (hb:∀ a o,T.b0.get? a=some o→h'.get? a=some o) (k:∀ a∈own ι,∀ o,h.get? a=some o→h'.get? a=some o):Rep T ι σ h' where
 len:=r.len
 big:=r.big
 size:=Za r.size hs
 base:=hb
 objs:=fun l o p e q=>(r.objs l o p e q).keeps m (k _ (Yck.mpr ⟨p,Zn q,.inl rfl⟩)) (k _ (Yck.mpr ⟨p,Zn q,.inr rfl⟩))
 fresh:=r.fresh
 apart:=r.apart
theorem Rep.grow {T:Tp}{ι:Inj}{σ:Hp}{h h':Heap}(r:Rep T ι σ h) (hs:h.objs.size≤h'.objs.size) (k:∀ a o,h.get? a=some o→h'.get? a=some o):Rep T ι σ h' :=
 r.keeps ⟨⟨[],by simp⟩,fun zz o e zz=>⟨o,k _ _ e,rfl⟩,fun zz zz e zz=>k _ _ e⟩ hs (fun a o e=>k _ _ (r.base a o e)) fun a zz o e=>k a o e
theorem Rep.push {T:Tp}{ι:Inj}{σ:Hp}{h:Heap}(r:Rep T ι σ h) (o:Obj):Rep T ι σ (h.push o) :=
 r.grow (by rw [Zqb]; exact Zq (Zs h.objs.size)) fun zz zz e=>Zx _ e
theorem Rep.more {T:Tp}{ι:Inj}{σ:Hp}{h:Heap}(r:Rep T ι σ h) {o:Yaq}{p:Addr×Addr}(ho:Yie T (ι++[p]) h o p) (h1:T.b0.objs.size≤p.1) (h2:T.b0.objs.size≤p.2) (n1:p.1∉own ι) (n2:p.2∉own ι) :
   Rep T (ι++[p]) (σ++[o]) h where
 len:=by simp [r.len]
 big:=r.big
 size:=r.size
 base:=r.base
 objs:=fun l x q e e'=>by
   have m:Yed ι h (ι++[p]) h:=⟨⟨[p],rfl⟩,fun zz o e zz=>⟨o,e,rfl⟩,fun zz zz e zz=>e⟩
   rcases Nat.lt_or_ge l σ.length with hl | hl
   · rw [Zbb hl] at e
     rw [Zbb (by rw [r.len]; exact hl)] at e'
     exact (r.objs l x q e e').keeps m (fun zz z=>z) fun zz z=>z
   · rw [Ztc hl] at e
     rw [Ztc (by rw [r.len]; exact hl),r.len] at e'
     rcases Nat.eq_zero_or_pos (l - σ.length) with z | z
     · rw [z] at e e'
       simp only [List.getElem?_cons_zero,Option.some.injEq] at e e'
       subst e e'; exact ho
     · rw [Zrb (by simp; (clear hl e' h1 h2 e; exact z))] at e; cases e
 fresh:=fun q hq=>by
   rcases Zm.mp hq with hq | hq
   · exact r.fresh q hq
   · cases Zj.mp hq; exact ⟨h1,h2⟩
 apart:=fun i j q q' e e' hij=>by
   have key:∀ (k:Nat) (x:Addr×Addr),(ι++[p])[k]?=some x→(k < ι.length∧ι[k]?=some x)∨(k=ι.length∧x=p):=fun k x e=>by
     rcases Nat.lt_or_ge k ι.length with hl | hl
     · rw [Zbb hl] at e; exact .inl ⟨hl,e⟩
     · rw [Ztc hl] at e
       rcases Nat.eq_zero_or_pos (k - ι.length) with z | z
       · rw [z] at e; simp only [List.getElem?_cons_zero,Option.some.injEq] at e; exact .inr ⟨by (clear hij h1 h2 e'; lia),e.symm⟩
       · rw [Zrb (by simp; (clear hl hij e h1 h2 e'; exact z))] at e; cases e
   have no:∀ x:Addr×Addr,x∈ι→p.1≠x.1∧p.1≠x.2∧p.2≠x.1∧p.2≠x.2:=fun x hx =>
     ⟨fun z=>n1 (Yck.mpr ⟨x,hx,.inl z⟩),fun z=>n1 (Yck.mpr ⟨x,hx,.inr z⟩),fun z=>n2 (Yck.mpr ⟨x,hx,.inl z⟩),fun z=>n2 (Yck.mpr ⟨x,hx,.inr z⟩)⟩
   rcases key i q e with ⟨hi,ei⟩ | ⟨hi,rfl⟩ <;> rcases key j q' e' with ⟨hj,ej⟩ | ⟨hj,rfl⟩
   · exact r.apart i j q q' ei ej hij
   · refine (no q (Zn ei)).elim fun a h9=>Ygi h9 fun b c d=>?_
     exact ⟨a.symm,c.symm,b.symm,d.symm⟩
   · exact no q' (Zn ej)
   · (clear h2 e e' key h1; lia)
theorem Rep.turn {T:Tp}{ι:Inj}{σ:Hp}{h h':Heap}(r:Rep T ι σ h) {l:Nat}{p:Addr×Addr}{o:Yaq}{a:Addr}(hp:ι[l]?=some p) (m:Yed ι h ι h') (hs:Heap.SameBut a h h') (ha:a=p.1∨a=p.2)
   (ho:Yie T ι h' o p):Rep T ι (σ.set l o) h' where
 len:=by simp [r.len]
 big:=r.big
 size:=Za r.size (Zr hs.1.symm)
 base:=fun b x e=>by
   have hne:b≠a:=fun q=>by
     have h1:=Zu e
     have h2:=r.fresh p (Zn hp)
     rw [q] at h1
     rcases ha with ha | ha <;> rw [ha] at h1
     · exact absurd h2.1 (Nat.not_le.mpr h1)
     · exact absurd h2.2 (Nat.not_le.mpr h1)
   exact (hs.2 b hne).trans (r.base b x e)
 objs:=fun k x q e e'=>by
   by_cases hk:k=l
   · subst hk
     rw [hp] at e'; cases e'
     rw [Zw (by rw [← r.len]; exact (Zb.mp hp).1)] at e
     cases e; exact ho
   · rw [Zi (fun z=>hk z.symm)] at e
     have:=r.apart k l q p e' hp hk
     have keep:∀ b,b=q.1∨b=q.2→∀ z,h.get? b=some z→h'.get? b=some z:=fun b hb z hz=>(hs.2 b (fun y=>by
       rcases ha with rfl | rfl <;> rcases hb with rfl | rfl <;> simp_all)).trans hz
     exact (r.objs k x q e e').keeps m (keep _ (.inl rfl)) (keep _ (.inr rfl))
 fresh:=r.fresh
 apart:=r.apart
end
section
noncomputable abbrev Loc:=Str→Option V
noncomputable def upd (ρ:Loc) (x:Str) (v:Option V):Loc:=fun y=>if y=x then v else ρ y
inductive Yxk (ι:Inj) (h:Heap) (v:Value):Prop where
 | mk (ea:Addr) (o:Obj) (C:Addr) (vs:Array Value) (e1:v=.ref ea) (e2:h.get? ea=some o) (e3:o.cls=.ref C) (e4:o.data=.fields vs) (e5:vs[2]?=some .none) (e6:ea∉own ι):Yxk ι h v
noncomputable def Yb2 (A:Around) (ι:Inj) (h:Heap):Prop:=∀ v,A.handled=some v→Yxk ι h v
theorem Yb2.none {A:Around}{ι:Inj}{h:Heap}(e:A.handled=.none):Yb2 A ι h:=fun v q=>by rw [e] at q; cases q
theorem Yb2.keep {A:Around}{ι ι':Inj}{h h':Heap}(x:Yb2 A ι h) (k:∀ a o C,h.get? a=some o→o.cls=.ref C→a∉own ι→h'.get? a=some o∧a∉own ι'):Yb2 A ι' h':=fun v q =>
 (x v q).rec fun ea o C vs e1 e2 e3 e4 e5 e6=>⟨ea,o,C,vs,e1,(k ea o C e2 e3 e6).1,e3,e4,e5,(k ea o C e2 e3 e6).2⟩
theorem Yoy {c:Value}{C:Addr}{n:String}(e:c=.ref C):c≠.type n:=fun q=>nomatch e.symm.trans q
theorem Yb2.ext {T:Tp}{F:List Addr}{A:Around}{ι ι':Inj}{h h':Heap}(x:Yb2 A ι h) (e:Ext T F ι h ι' h') (hF:∀ a∈F,∃ o,h.get? a=some o∧itr o=false):Yb2 A ι' h' :=
 x.keep fun a o C e1 e2 e3=>⟨e.keep a o e1 e3 (fun q=>Zh (hF a q) fun o' g=>Ynd g.2 ((Yad (g.1.symm.trans e1)).symm▸e2)) (Yoy e2),e.not_own e3 (Zu e1)⟩
inductive Yog (T:Tp) (ι:Inj) (h:Heap) (e:Env):Prop where
 | mk (k:e.scope.kind=.function) (L:Addr) (o:Obj) (es:Array DictEntry) (ep:Nat) (f:e.frame=some L) (n:L∉own ι) (b:T.b0.objs.size≤L) (g:h.get? L=some o) (c:o.cls=.type "frame") (dd:o.data=.dict es ep):Yog T ι h e
structure AOk (T:Tp) (A:Around) (fs:List Env) (d:Nat) (ι:Inj) (h:Heap):Prop where
 frames:A.frames=some fs
 funs:∀ e∈fs,Yog T ι h e
 depth:A.depth+d≤recursionLimit
 units:A.units+10*d+50≤cLine
 hd:T.hd=false→A.handled=none
 hx:Yb2 A ι h
noncomputable def Yyc (env:Env) (c:String):Prop:=(c = "frame" ∨ c = "dict")∧(env.frame≠some env.locals→c = "dict")
inductive Y00 (T:Tp) (env:Env) (ρ:Loc) (ι:Inj) (h:Heap):Prop where
 | mk (c:String) (m:Str→Option Value) (hc:Yyc env c) (hn:NsC h env.locals c m) (r:∀ x,env.kindOf x=some .local→Yc3 T ι h (ρ x) (m x)):Y00 T env ρ ι h
inductive Ytr (T:Tp) (env:Env) (ρ:Loc) (ι:Inj) (h:Heap) (x:Str):Prop where
 | mk (c:Addr) (o:Obj) (v:Option Value) (e1:env.cells.lookup x=some c) (e2:h.get? c=some o) (e3:o.cls=.type "cell") (e4:o.data=.cell v) (e5:Yc3 T ι h (ρ x) v) (e6:c∉own ι):Ytr T env ρ ι h x
inductive Yj9 (h:Heap) (a:Addr):Prop where
 | mk (o:Obj) (h1:h.get? a=some o) (h2:Ya1 o=false) (h3:itr o=false):Yj9 h a
theorem Yj9.lt {h:Heap}{a:Addr}(x:Yj9 h a):a < h.objs.size:=x.rec fun zz h1 zz zz=>Zu h1
theorem Yj9.at {h:Heap}{a:Addr}{o:Obj}(x:Yj9 h a) (ho:h.get? a=some o):Ya1 o=false∧itr o=false:=x.rec fun zz h1 h2 h3=>Yad (h1.symm.trans ho)▸⟨h2,h3⟩
structure Frm (T:Tp) (env:Env) (F:List Addr) (ρ:Loc) (ι:Inj) (h:Heap):Prop where
 kind:env.scope.kind=.function
 glb:env.globals=mainGlobals
 blt:env.builtins=builtinsNs
 ns:Y00 T env ρ ι h
 cells:∀ x,env.kindOf x=some .cell∨env.kindOf x=some .free→Ytr T env ρ ι h x
 inj:∀ x y c,(env.kindOf x=some .cell∨env.kindOf x=some .free)→(env.kindOf y=some .cell∨env.kindOf y=some .free)→env.cells.lookup x=some c→env.cells.lookup y=some c→x=y
 loc:env.locals∈F
 cin:∀ x c,env.kindOf x=some .cell→env.cells.lookup x=some c→c∈F
 apart:∀ a∈F,a∉own ι∧T.b0.objs.size≤a
 there:∀ a∈F,Yj9 h a
inductive Yyh (fs:List Env) (env:Env):Prop where
 | mk (e:Env) (r:List Env) (L:Addr) (h1:fs=e::r) (h2:e.frame=some L) (h3:env.frame=some L):Yyh fs env
structure Inv (T:Tp) (A:Around) (fs:List Env) (d:Nat) (env:Env) (F:List Addr) (ρ:Loc) (ι:Inj) (σ:Hp) (s:Shared):Prop where
 rep:Rep T ι σ s.heap
 aok:AOk T A fs d ι s.heap
 frm:Frm T env F ρ ι s.heap
 top:Yyh fs env
 gens:s.gens = #[]
 os:s.os=T.os
theorem AOk.keeps {T:Tp}{A:Around}{fs:List Env}{d:Nat}{ι ι':Inj}{h h':Heap}(x:AOk T A fs d ι h) (no:∀ a,a∉own ι→a < h.objs.size→a∉own ι') (k:∀ a o,h.get? a=some o→a∉own ι→o.cls=.type "frame" → ∃ sl,h'.get? a=some { o with slots:=sl }) (hx:Yb2 A ι' h'):AOk T A fs d ι' h' :=
 ⟨x.frames,fun e he=>(x.funs e he).rec fun k1 L o es ep f n b g c dd=>Zh (k L o g n c) fun zz g'=>⟨k1,L,_,es,ep,f,no L n (Zu g),b,g',c,dd⟩,x.depth,x.units,x.hd,hx⟩
theorem Yjf {o o':Obj}(h:o'.cls=o.cls):Ya1 o'=Ya1 o:=by unfold Ya1; rw [h]
noncomputable def nsO (o:Obj):Prop:=∃ n,o.cls=.type n∧(n = "frame" ∨ n = "dict" ∨ n = "cell")
theorem nsO.itr {o:Obj}(h:nsO o):itr o=false:=Zh h fun n h=>Ypv h.1 (by rcases h.2 with e | e | e <;> rw [e] <;> decide)
theorem nsO.tb {o:Obj}(h:nsO o):o.cls≠.type "traceback":=Zh h fun n h q=>by
 have e:=Value.type.inj (h.1.symm.trans q)
 rcases h.2 with e' | e' | e' <;> rw [e'] at e <;> exact absurd e (by decide)
theorem Frm.keeps {T:Tp}{env:Env}{F:List Addr}{ρ:Loc}{ι ι':Inj}{h h':Heap}(x:Frm T env F ρ ι h) (m:Yed ι h ι' h') (no:∀ a,a∉own ι→a < h.objs.size→a∉own ι')
   (kf:∀ a o,h.get? a=some o→a∈F→itr o=false→∃ o',h'.get? a=some o'∧o'.cls=o.cls)
   (k:∀ a o,h.get? a=some o→a∉own ι→nsO o→(a∈F∨o.cls=.type "cell")→∃ sl,h'.get? a=some { o with slots:=sl }):Frm T env F ρ ι' h' where
 kind:=x.kind
 glb:=x.glb
 blt:=x.blt
 ns:=x.ns.rec fun c mm hc hn r=>⟨c,mm,hc,hn.of_slots fun o ho=>k _ o ho (x.apart _ x.loc).1 ⟨c,hn.rec fun o' zz zz h1 h2 zz zz zz zz zz=>Yad (h1.symm.trans ho)▸h2,hc.1.imp id .inl⟩ (.inl x.loc),fun y hy=>(r y hy).mono m⟩
 cells:=fun y hy=>(x.cells y hy).rec fun c o v e1 e2 e3 e4 e5 e6=>Zh (k c o e2 e6 ⟨_,e3,.inr (.inr rfl)⟩ (.inr e3)) fun zz g=>⟨c,_,v,e1,g,e3,e4,e5.mono m,no c e6 (Zu e2)⟩
 inj:=x.inj
 loc:=x.loc
 cin:=x.cin
 apart:=fun a ha=>⟨no a (x.apart a ha).1 (x.there a ha).lt,(x.apart a ha).2⟩
 there:=fun a ha=>(x.there a ha).rec fun o h1 h2 h3=>Zh (kf a o h1 ha h3) fun zz g=>⟨_,g.1,(Yjf g.2).trans h2,(Ytp g.2).trans h3⟩
theorem AOk.ext {T:Tp}{A:Around}{fs:List Env}{d:Nat}{ι ι':Inj}{h h':Heap}{F:List Addr}(x:AOk T A fs d ι h) (e:Ext T F ι h ι' h')
   (hF:∀ en∈fs,∀ L,en.frame=some L→L∈F→∃ o es ep,h'.get? L=some o∧o.data=.dict es ep) (hG:∀ a∈F,∃ o,h.get? a=some o∧itr o=false):AOk T A fs d ι' h' where
 frames:=x.frames
 funs:=fun en hen=>by
   obtain ⟨k,L,o,es,ep,f,n,b,g,c,dd⟩:=x.funs en hen
   have n':=e.not_own n (Zu g)
   by_cases q:L∈F
   · refine ex3 (hF en hen L f q) fun o' es' ep' h9=>h9.elim fun g' d'=>?_
     refine (e.cls L o g (by simp [Yb1,c])).elim fun o₂ h9=>h9.elim fun g₂ c₂=>?_
     exact ⟨k,L,o',es',ep',f,n',b,g',Yad (g₂.symm.trans g')▸c₂.trans c,d'⟩
   · obtain ⟨sl,g'⟩:=e.frm L o g n q
     exact ⟨k,L,_,es,ep,f,n',b,g',c,dd⟩
 depth:=x.depth
 units:=x.units
 hd:=x.hd
 hx:=x.hx.ext e hG
theorem AOk.ext0 {T:Tp}{A:Around}{fs:List Env}{d:Nat}{ι ι':Inj}{h h':Heap}(x:AOk T A fs d ι h) (e:Ext T [] ι h ι' h'):AOk T A fs d ι' h' :=
 x.keeps (fun zz n l=>e.not_own n l) (fun a o g n zz=>e.frm a o g n Zdc) (x.hx.ext e fun zz q=>nomatch q)
theorem Frm.ext {T:Tp}{env:Env}{F:List Addr}{ρ:Loc}{ι ι':Inj}{h h':Heap}(x:Frm T env F ρ ι h) (e:Ext T [] ι h ι' h'):Frm T env F ρ ι' h' :=
 x.keeps e.mono (fun zz n l=>e.not_own n l) (fun a o g ha zz=>Zh (e.frm a o g (x.apart a ha).1 Zdc) fun zz g=>⟨_,g,rfl⟩) fun a o g n zz zz=>e.frm a o g n Zdc
theorem Inv.ext {T:Tp}{A:Around}{fs:List Env}{d:Nat}{env:Env}{F:List Addr}{ρ:Loc}{ι ι':Inj}{σ σ':Hp}{s s':Shared}(x:Inv T A fs d env F ρ ι σ s) (e:Ext T [] ι s.heap ι' s'.heap) (r:Rep T ι' σ' s'.heap)
   (hg:s'.gens = #[]) (ho:s'.os=T.os):Inv T A fs d env F ρ ι' σ' s' :=
 ⟨r,x.aok.ext0 e,x.frm.ext e,x.top,hg,ho⟩
noncomputable abbrev QE:=V→Hp→Prop
noncomputable abbrev QX:=Str→Hp→Prop
inductive Yvp (lo:Nat) (ea:Addr) (h:Heap) (v:Value):Prop where
 | mk (tb:Addr) (ot:Obj) (ts:Array Value) (h0:v=.ref tb) (h1:lo≤tb) (h2:tb≠ea) (h3:h.get? tb=some ot) (h4:ot.cls=.type "traceback") (h5:ot.data=.fields ts) (h6:3 < ts.size):Yvp lo ea h v
inductive Fly (T:Tp) (lo:Nat) (ea:Addr) (c:Str) (h:Heap):Prop where
 | mk (C:Addr) (oe:Obj) (vs:Array Value) (v:Value) (h0:T.hd=false∧T.c c=some C) (h1:lo≤ea) (h2:h.get? ea=some oe) (h3:oe.cls=.ref C) (h4:oe.data=.fields vs) (h5:5 < vs.size) (h6:vs[2]?=some .none) (h7:vs[1]?=some v) (h8:(v=.none∨Yvp lo ea h v)):Fly T lo ea c h
inductive Yob (T:Tp) (lo:Nat) (ea:Addr) (c:Str) (h:Heap):Prop where
 | mk (C:Addr) (oe:Obj) (vs:Array Value) (v:Value) (h0:T.hd=false∧T.c c=some C) (h1:lo≤ea) (h2:h.get? ea=some oe) (h3:oe.cls=.ref C) (h4:oe.data=.fields vs) (h5:5 < vs.size) (h6:vs[2]?=some .none) (h7:vs[1]?=some v) (h8:Yvp lo ea h v):Yob T lo ea c h
theorem Yob.fly {T:Tp}{lo:Nat}{ea:Addr}{c:Str}{h:Heap}(x:Yob T lo ea c h):Fly T lo ea c h :=
 by obtain ⟨C,oe,vs,v,a,b,d,e,f,g,i,j,k⟩:=x; exact ⟨C,oe,vs,v,a,b,d,e,f,g,i,j,.inr k⟩
inductive Ybf (T:Tp) (F:List Addr) (Q:QE) (ι:Inj) (h:Heap) (x:Value) (s':Shared):Prop where
 | mk (v:V) (σ':Hp) (ι':Inj) (h0:Q v σ') (h1:Yau T ι' s'.heap v x) (h2:Rep T ι' σ' s'.heap) (h3:Ext T F ι h ι' s'.heap) (h4:s'.gens = #[]) (h5:s'.os=T.os):Ybf T F Q ι h x s'
inductive Yaz (T:Tp) (F:List Addr) (X:QX) (ι:Inj) (h:Heap) (x:Value) (s':Shared):Prop where
 | mk (ea:Addr) (c:Str) (σ':Hp) (ι':Inj) (h0:x=.ref ea) (h1:X c σ') (h2:Fly T h.objs.size ea c s'.heap) (h3:ea∉own ι') (h4:Rep T ι' σ' s'.heap) (h5:Ext T F ι h ι' s'.heap) (h6:s'.gens = #[]) (h7:s'.os=T.os):Yaz T F X ι h x s'
theorem Ybf.trans {T:Tp}{F:List Addr}{Q:QE}{ι ι₁:Inj}{h h₁:Heap}{x:Value}{s':Shared}(e:Ext T F ι h ι₁ h₁) (p:Ybf T F Q ι₁ h₁ x s'):Ybf T F Q ι h x s' :=
 by obtain ⟨v,σ',ι',q,r,rp,e',g,o⟩:=p; exact ⟨v,σ',ι',q,r,rp,e.trans e',g,o⟩
theorem Yvp.lo {lo lo':Nat}{ea:Addr}{h:Heap}{v:Value}(x:Yvp lo ea h v) (hl:lo'≤lo):Yvp lo' ea h v :=
 by obtain ⟨tb,ot,ts,a,b,r1,r2,r3,r4,r5⟩:=x; exact ⟨tb,ot,ts,a,Za hl b,r1,r2,r3,r4,r5⟩
theorem Fly.lo {T:Tp}{lo lo':Nat}{ea:Addr}{c:Str}{h:Heap}(x:Fly T lo ea c h) (hl:lo'≤lo):Fly T lo' ea c h:=by
 obtain ⟨C,oe,vs,v,a,b,d,e,f,g,i,j,k⟩:=x
 exact ⟨C,oe,vs,v,a,Za hl b,d,e,f,g,i,j,k.imp id (·.lo hl)⟩
theorem Yaz.trans {T:Tp}{F:List Addr}{X:QX}{ι ι₁:Inj}{h h₁:Heap}{x:Value}{s':Shared}(e:Ext T F ι h ι₁ h₁) (p:Yaz T F X ι₁ h₁ x s'):Yaz T F X ι h x s' :=
 by obtain ⟨ea,c,σ',ι',a,b,f,n,rp,e',g,o⟩:=p; exact ⟨ea,c,σ',ι',a,b,f.lo e.size,n,rp,e.trans e',g,o⟩
theorem Ybf.mono {T:Tp}{F:List Addr}{Q Q':QE}{ι:Inj}{h:Heap}{x:Value}{s':Shared}(p:Ybf T F Q ι h x s') (k:∀ v σ,Q v σ→Q' v σ):Ybf T F Q' ι h x s' :=
 by obtain ⟨v,σ',ι',q,r,rp,e',g,o⟩:=p; exact ⟨v,σ',ι',k _ _ q,r,rp,e',g,o⟩
theorem Yaz.mono {T:Tp}{F:List Addr}{X X':QX}{ι:Inj}{h:Heap}{x:Value}{s':Shared}(p:Yaz T F X ι h x s') (k:∀ c σ,X c σ→X' c σ):Yaz T F X' ι h x s' :=
 by obtain ⟨ea,c,σ',ι',a,b,f,n,rp,e',g,o⟩:=p; exact ⟨ea,c,σ',ι',a,k _ _ b,f,n,rp,e',g,o⟩
structure St (T:Tp) (A:Around) (fs:List Env) (d:Nat) (ι:Inj) (σ:Hp) (s:Shared):Prop where
 rep:Rep T ι σ s.heap
 aok:AOk T A fs d ι s.heap
 gens:s.gens = #[]
 os:s.os=T.os
theorem Inv.st {T:Tp}{A:Around}{fs:List Env}{d:Nat}{env:Env}{F:List Addr}{ρ:Loc}{ι:Inj}{σ:Hp}{s:Shared}(x:Inv T A fs d env F ρ ι σ s):St T A fs d ι σ s:=⟨x.rep,x.aok,x.gens,x.os⟩
theorem St.ext {T:Tp}{A:Around}{fs:List Env}{d:Nat}{ι ι':Inj}{σ σ':Hp}{s s':Shared}(x:St T A fs d ι σ s) (e:Ext T [] ι s.heap ι' s'.heap) (r:Rep T ι' σ' s'.heap) (hg:s'.gens = #[]) (ho:s'.os=T.os):St T A fs d ι' σ' s' :=
 ⟨r,x.aok.ext0 e,hg,ho⟩
section
variable {T:Tp}{A:Around}{fs:List Env}{d:Nat}{ι:Inj}{σ:Hp}{s:Shared}{F:List Addr}
theorem St.post {Q:QE}{v:V}{x:Value}(S:St T A fs d ι σ s) (q:Q v σ) (r:Yau T ι s.heap v x) (t:Nat):Ybf T F Q ι s.heap x { s with toks:=t } :=
 ⟨v,σ,ι,q,r,S.rep,.refl ..,S.gens,S.os⟩
theorem St.post0 {Q:QE}{v:V}{x:Value}(S:St T A fs d ι σ s) (q:Q v σ) (r:Yau T ι s.heap v x):Ybf T F Q ι s.heap x s :=
 ⟨v,σ,ι,q,r,S.rep,.refl ..,S.gens,S.os⟩
theorem St.grown {Q:QE}{v:V}{x:Value}{h':Heap}{t:Nat}(S:St T A fs d ι σ s) (hs:s.heap.objs.size≤h'.objs.size) (k:∀ b o,s.heap.get? b=some o→h'.get? b=some o) (q:Q v σ) (r:Yau T ι h' v x) :
   Ybf T F Q ι s.heap x { s with heap:=h',toks:=t } :=
 ⟨v,σ,ι,q,r,S.rep.grow hs k,.of_keeps hs k,S.gens,S.os⟩
end
noncomputable def Yai (T:Tp) (d:Nat) (sc:Scope) (ρ:Loc) (X:QX) (e:Expr) (Q:QE) (σ:Hp):Prop :=
 ∀ env A fs F ι s,env.scope=sc→Inv T A fs d env F ρ ι σ s→wpAny (model T.prog T.w) A (eval e env) (Ybf T [] Q ι s.heap) (Yaz T [] X ι s.heap) s
inductive Yeq (T:Tp) (Q:Bool→Hp→Prop) (ι:Inj) (h:Heap) (b:Bool) (s':Shared):Prop where
 | mk (σ':Hp) (ι':Inj) (h0:Q b σ') (h1:Rep T ι' σ' s'.heap) (h2:Ext T [] ι h ι' s'.heap) (h3:s'.gens = #[]) (h4:s'.os=T.os):Yeq T Q ι h b s'
theorem Yeq.trans {T:Tp}{Q:Bool→Hp→Prop}{ι ι₁:Inj}{h h₁:Heap}{b:Bool}{s':Shared}(e:Ext T [] ι h ι₁ h₁) (p:Yeq T Q ι₁ h₁ b s'):Yeq T Q ι h b s' :=
 by obtain ⟨σ',ι',q,rp,e',g,o⟩:=p; exact ⟨σ',ι',q,rp,e.trans e',g,o⟩
noncomputable def Yd1 (T:Tp) (d:Nat) (sc:Scope) (ρ:Loc) (X:QX) (e:Expr) (Q:Bool→Hp→Prop) (σ:Hp):Prop :=
 ∀ env A fs F ι s,env.scope=sc→Inv T A fs d env F ρ ι σ s→wpAny (model T.prog T.w) A (isTrue e env (eval e env)) (Yeq T Q ι s.heap) (Yaz T [] X ι s.heap) s
inductive Yyx (T:Tp) (Q:List V→Hp→Prop) (ι:Inj) (h:Heap) (xs:List Value) (s':Shared):Prop where
 | mk (vs:List V) (σ':Hp) (ι':Inj) (h0:Q vs σ') (h1:VRels T ι' s'.heap vs xs) (h2:Rep T ι' σ' s'.heap) (h3:Ext T [] ι h ι' s'.heap) (h4:s'.gens = #[]) (h5:s'.os=T.os):Yyx T Q ι h xs s'
noncomputable def Ydc (T:Tp) (d:Nat) (sc:Scope) (ρ:Loc) (X:QX) (es:List Expr) (Q:List V→Hp→Prop) (σ:Hp):Prop :=
 ∀ env A fs F ι s,env.scope=sc→Inv T A fs d env F ρ ι σ s→wpAny (model T.prog T.w) A (spliced (es.map fun e=>(false,eval e env))) (Yyx T Q ι s.heap) (Yaz T [] X ι s.heap) s
noncomputable def Yaa (T:Tp) (d:Nat) (X:QX) (f:V) (args:List V) (Q:QE) (σ:Hp):Prop :=
 ∀ A fs ι s fv xs,St T A fs d ι σ s→Yau T ι s.heap f fv→VRels T ι s.heap args xs→wpAny (model T.prog T.w) A (call fv xs) (Ybf T [] Q ι s.heap) (Yaz T [] X ι s.heap) s
theorem Yaa.mono {T:Tp}{d:Nat}{X X':QX}{f:V}{args:List V}{Q Q':QE}{σ:Hp}(h:Yaa T d X f args Q σ) (k:∀ v σ,Q v σ→Q' v σ) (kx:∀ c σ,X c σ→X' c σ):Yaa T d X' f args Q' σ :=
 fun A fs ι s fv xs S hf hx=>Zib (h A fs ι s fv xs S hf hx) (fun zz zz p=>p.mono k) fun zz zz p=>p.mono kx
theorem AOk.le {T:Tp}{A:Around}{fs:List Env}{d d':Nat}{ι:Inj}{h:Heap}(x:AOk T A fs d' ι h) (hd:d≤d'):AOk T A fs d ι h :=
 ⟨x.frames,x.funs,by have:=x.depth; lia,by have:=x.units; lia,x.hd,x.hx⟩
theorem St.le {T:Tp}{A:Around}{fs:List Env}{d d':Nat}{ι:Inj}{σ:Hp}{s:Shared}(x:St T A fs d' ι σ s) (hd:d≤d'):St T A fs d ι σ s:=⟨x.rep,x.aok.le hd,x.gens,x.os⟩
theorem Yaa.le {T:Tp}{d d':Nat}{X:QX}{f:V}{args:List V}{Q:QE}{σ:Hp}(h:Yaa T d X f args Q σ) (hd:d≤d'):Yaa T d' X f args Q σ :=
 fun A fs ι s fv xs S hf hx=>h A fs ι s fv xs (S.le hd) hf hx
end
section
noncomputable def Ybu (T:Tp) (d:Nat) (X:QX) (t:Value→Value→Sem Value) (a b:V) (Q:QE) (σ:Hp):Prop :=
 ∀ A fs ι s x y,St T A fs d ι σ s→Yau T ι s.heap a x→Yau T ι s.heap b y→wpAny (model T.prog T.w) A (t x y) (Ybf T [] Q ι s.heap) (Yaz T [] X ι s.heap) s
noncomputable def Yjt (a:Int):Prop:=-(2 ^ 64) < a∧a < 2 ^ 64
section
variable {T:Tp}{A:Around}{fs:List Env}{d:Nat}{ι:Inj}{σ:Hp}{s:Shared}{F:List Addr}
theorem Yau.int_inv {i:Int}{x:Value}{h:Heap}(e:Yau T ι h (.int i) x):∃ t,x=.int i t:=e
theorem Yau.str_inv {i:Str}{x:Value}{h:Heap}(e:Yau T ι h (.str i) x):∃ t,x=.str i t:=e
theorem Yau.bool_inv {i:Bool}{x:Value}{h:Heap}(e:Yau T ι h (.bool i) x):x=.bool i:=e
theorem Yau.none_inv {x:Value}{h:Heap}(e:Yau T ι h .none x):x=.none:=e
theorem Yau.tup_inv {vs:List V}{x:Value}{h:Heap}(e:Yau T ι h (.tup vs) x):∃ a items n,x=.ref a∧IsT h a items n∧VRels T ι h vs items.toList:=e
theorem Yau.ref_inv {l:Nat}{x:Value}{h:Heap}(e:Yau T ι h (.ref l) x):∃ a d,x=.ref a∧ι[l]?=some (a,d):=e
theorem Yau.int_mk {i:Int}{t:Tok}{h:Heap}:Yau T ι h (.int i) (.int i t):=by exact ⟨t,rfl⟩
theorem Yau.str_mk {i:Str}{t:Tok}{h:Heap}:Yau T ι h (.str i) (.str i t):=by exact ⟨t,rfl⟩
theorem Yau.bool_mk {i:Bool}{h:Heap}:Yau T ι h (.bool i) (.bool i):=rfl
theorem Yau.none_mk {h:Heap}:Yau T ι h .none .none:=rfl
theorem Rep.list_at {h:Heap}(r:Rep T ι σ h) {l:Nat}{vs:List V}{a:Addr}{d:Addr}(e:σ[l]?=some (.list vs)) (q:ι[l]?=some (a,d)) :
   ∃ items n,IsL h a items n∧VRels T ι h vs items.toList:=by
 obtain ⟨zz,items,⟨n,hl⟩,hv⟩:=r.objs l _ _ e q
 exact ⟨items.toArray,n,hl,by simpa using hv⟩
theorem Rep.newList {h:Heap}(r:Rep T ι σ h) {vs:List V}{items:Array Value}(hv:VRels T ι h vs items.toList) :
   Rep T (ι++[(h.objs.size,h.objs.size)]) (σ++[.list vs]) (h.push { cls:=.type "list",data:=.seq items })∧Ext T F ι h (ι++[(h.objs.size,h.objs.size)]) (h.push { cls:=.type "list",data:=.seq items }) ∧
     Yau T (ι++[(h.objs.size,h.objs.size)]) (h.push { cls:=.type "list",data:=.seq items }) (.ref σ.length) (.ref h.objs.size):=by
 have m:Yed ι h (ι++[(h.objs.size,h.objs.size)]) (h.push { cls:=.type "list",data:=.seq items }):=⟨⟨_,rfl⟩,(Ext.push T F ι h _).cls,(Ext.push T F ι h _).frz⟩
 have no:h.objs.size∉own ι:=fun q=>absurd (r.own_lt q) (Zub _)
 refine ⟨(r.push _).more (p:=(h.objs.size,h.objs.size)) ⟨rfl,items.toList,⟨0,by simpa using IsL.new h items⟩,hv.mono m⟩ r.size r.size no no,?_,?_⟩
 · have e:=Ext.push T F ι h { cls:=.type "list",data:=.seq items }
   exact ⟨⟨[(h.objs.size,h.objs.size)],rfl,by simp⟩,e.size,e.cls,e.frz,e.keep,e.frm⟩
 · exact ⟨h.objs.size,h.objs.size,rfl,by rw [← r.len]; simp⟩
theorem St.newList {Q:QE}{vs:List V}{items:Array Value}(S:St T A fs d ι σ s) (hv:VRels T ι s.heap vs items.toList) (q:Q (.ref σ.length) (σ++[.list vs])) {t:Nat} :
   Ybf T F Q ι s.heap (.ref s.heap.objs.size) { s with heap:=s.heap.push { cls:=.type "list",data:=.seq items },toks:=t } :=
 let ⟨a,b,c⟩:=S.rep.newList (F:=F) hv
 ⟨_,_,_,q,c,a,b,S.gens,S.os⟩
theorem St.newTup {Q:QE}{vs:List V}{items:Array Value}(S:St T A fs d ι σ s) (hv:VRels T ι s.heap vs items.toList) (q:Q (.tup vs) σ) {t:Nat} :
   Ybf T F Q ι s.heap (.ref s.heap.objs.size) { s with heap:=s.heap.push { cls:=.type "tuple",data:=.seq items },toks:=t }:=by
 refine ⟨_,_,_,q,?_,S.rep.push _,.push ..,S.gens,S.os⟩
 exact ⟨_,items,0,rfl,IsT.new _ _,hv.mono (Ext.push T [] ι s.heap _).mono⟩
end
theorem Ybu.ints {T:Tp}{d:Nat}{X:QX}{t:Value→Value→Sem Value}{x y:Int}{Q:QE}{σ:Hp}
   (k:∀ {A fs ι s u v},St T A fs d ι σ s→wpAny (model T.prog T.w) A (t (.int x u) (.int y v)) (Ybf T [] Q ι s.heap) (Yaz T [] X ι s.heap) s):Ybu T d X t (.int x) (.int y) Q σ :=
 fun zz zz zz zz zz zz S hx hy=>Zh hx fun zz e=>Zh hy fun zz e'=>e▸e'▸k S
theorem Ybu.strs {T:Tp}{d:Nat}{X:QX}{t:Value→Value→Sem Value}{x y:Str}{Q:QE}{σ:Hp}
   (k:∀ {A fs ι s u v},St T A fs d ι σ s→wpAny (model T.prog T.w) A (t (.str x u) (.str y v)) (Ybf T [] Q ι s.heap) (Yaz T [] X ι s.heap) s):Ybu T d X t (.str x) (.str y) Q σ :=
 fun zz zz zz zz zz zz S hx hy=>Zh hx fun zz e=>Zh hy fun zz e'=>e▸e'▸k S
theorem Ybu.strInt {T:Tp}{d:Nat}{X:QX}{t:Value→Value→Sem Value}{x:Str}{y:Int}{Q:QE}{σ:Hp}
   (k:∀ {A fs ι s u v},St T A fs d ι σ s→wpAny (model T.prog T.w) A (t (.str x u) (.int y v)) (Ybf T [] Q ι s.heap) (Yaz T [] X ι s.heap) s):Ybu T d X t (.str x) (.int y) Q σ :=
 fun zz zz zz zz zz zz S hx hy=>Zh hx fun zz e=>Zh hy fun zz e'=>e▸e'▸k S
theorem Ybu.lists {T:Tp}{d:Nat}{X:QX}{t:Value→Value→Sem Value}{l m:Nat}{xs ys:List V}{Q:QE}{σ:Hp}(h1:σ[l]?=some (.list xs)) (h2:σ[m]?=some (.list ys))
   (k:∀ {A fs ι s u v i1 i2 n1 n2},St T A fs d ι σ s→IsL s.heap u i1 n1→VRels T ι s.heap xs i1.toList→IsL s.heap v i2 n2→VRels T ι s.heap ys i2.toList→wpAny (model T.prog T.w) A (t (.ref u) (.ref v)) (Ybf T [] Q ι s.heap) (Yaz T [] X ι s.heap) s):Ybu T d X t (.ref l) (.ref m) Q σ :=
 fun zz zz zz zz zz zz S hx hy=>Zh hx fun zz hx=>Zh hx fun zz hx=>Zh hy fun zz hy=>Zh hy fun zz hy=>Zh (S.rep.list_at h1 hx.2) fun zz l1=>Zh l1 fun zz l1=>Zh (S.rep.list_at h2 hy.2) fun zz l2=>Zh l2 fun zz l2=>hx.1▸hy.1▸k S l1.1 l1.2 l2.1 l2.2
inductive Yna (σ:Hp):Operator→V→V→V→Hp→Prop where
 | add (x y:Int):Yna σ .Add (.int x) (.int y) (.int (x+y)) σ
 | cat (x y:Str) (h:x.length+y.length≤sizeLine):Yna σ .Add (.str x) (.str y) (.str (x++y)) σ
 | lists (l m:Nat) (xs ys:List V) (h1:σ[l]?=some (.list xs)) (h2:σ[m]?=some (.list ys)) (h3:xs.length+ys.length≤sizeLine):Yna σ .Add (.ref l) (.ref m) (.ref σ.length) (σ++[.list (xs++ys)])
 | mul (x y:Int) (h:Yjt x∨Yjt y):Yna σ .Mult (.int x) (.int y) (.int (x*y)) σ
 | rep (x:Str) (n:Int) (h:MulOk x n):Yna σ .Mult (.str x) (.int n) (.str (Txt.mul x n)) σ
 | sub (x y:Int):Yna σ .Sub (.int x) (.int y) (.int (x - y)) σ
 | fdiv (x y:Int) (h:y≠0) (h2:y.natAbs < 1073741824):Yna σ .FloorDiv (.int x) (.int y) (.int (x.fdiv y)) σ
 | mod (x y:Int) (h:y≠0):Yna σ .Mod (.int x) (.int y) (.int (x.fmod y)) σ
inductive Ymd (op:Operator) (a b:V) (Q:QE) (σ:Hp):Prop where
 | mk (v:V) (σ':Hp) (r:Yna σ op a b v σ') (q:Q v σ'):Ymd op a b Q σ
theorem Yos {T:Tp}{d:Nat}{X:QX}{l m:Nat}{xs ys:List V}{Q:QE}{σ:Hp}(h1:σ[l]?=some (.list xs)) (h2:σ[m]?=some (.list ys)) (h3:xs.length+ys.length≤sizeLine) (q:Q (.ref σ.length) (σ++[.list (xs++ys)])):Ybu T d X (binaryOp .Add) (.ref l) (.ref m) Q σ :=
 .lists h1 h2 fun {A fs ι s u v i1 i2 n1 n2} S l1 v1 l2 v2=>P.add_list l1 l2 (S.newList (items:=i1++i2) (Array.toList_append (xs:=i1) (ys:=i2)▸v1.append v2) q) (show i1.size+i2.size≤sizeLine by
   rw [← Array.length_toList,← Array.length_toList,v1.length,v2.length]; exact h3)
theorem Yna.ok {T:Tp}{d:Nat}{X:QX}{Q:QE}{σ:Hp}{op:Operator}{a b v:V}{σ':Hp}(r:Yna σ op a b v σ'):Q v σ'→Ybu T d X (binaryOp op) a b Q σ:=by
 induction r with
 | add=>exact fun q=>.ints fun S=>PyProof.Rows.add_int (S.post q .int_mk _)
 | cat z1 z2 h=>exact fun q=>.strs fun S=>PyProof.Rows.add_str (fun t' tk=>S.post q .str_mk _) h
 | lists z1 z2 z3 z4 h1 h2 h3=>exact fun q=>Yos h1 h2 h3 q
 | mul z1 z2 h=>exact fun q=>.ints fun S=>PyProof.Rows.mul_int (S.post q .int_mk _) (h.elim (fun q=>.of_left (intBits_le_64 q.1 q.2)) fun q=>.of_right (intBits_le_64 q.1 q.2))
 | rep z1 z2 h=>exact fun q=>.strInt fun S=>SB.mul h fun t' k=>S.post q .str_mk _
 | sub=>exact fun q=>.ints fun S=>sub_int' (S.post q .int_mk _)
 | fdiv z1 z2 h h2=>exact fun q=>.ints fun S=>floordiv_int h (S.post q .int_mk _) (.inl (PyProof.noPylong_small h2))
 | mod z1 z2 h=>exact fun q=>.ints fun S=>mod_int' h (S.post q .int_mk _)
theorem Ywh {T:Tp}{d:Nat}{X:QX}{op:Operator}{a b:V}{Q:QE}{σ:Hp}(h:Ymd op a b Q σ):Ybu T d X (binaryOp op) a b Q σ:=h.rec fun zz zz r q=>r.ok q
end
section
mutual
inductive Yep (σ:Hp):PyData→V→Prop where
 | none:Yep σ .none .none
 | bool (b:Bool):Yep σ (.bool b) (.bool b)
 | int (i:Int):Yep σ (.int i) (.int i)
 | str {s:Str}(h:PyData.strOk s=true):Yep σ (.str s) (.str s)
 | tup {ds:List PyData}{vs:List V}(h:Deeps σ ds vs):Yep σ (.tuple ds) (.tup vs)
 | list {ds:List PyData}{vs:List V}{l:Nat}(e:σ[l]?=some (.list vs)) (h:Deeps σ ds vs):Yep σ (.list ds) (.ref l)
inductive Deeps (σ:Hp):List PyData→List V→Prop where
 | nil:Deeps σ [] []
 | cons {d:PyData}{v:V}{ds:List PyData}{vs:List V}(h:Yep σ d v) (t:Deeps σ ds vs):Deeps σ (d::ds) (v::vs)
end
theorem Yep.lay {σ:Hp}{d:PyData}{v:V}(h:Yep σ d v):d.canLay0=true:=by
 refine Yep.rec (motive_1:=fun d v zz=>d.canLay0=true) (motive_2:=fun ds vs zz=>PyData.canLayAll0 ds=true) ?_ ?_ ?_ ?_ ?_ ?_ ?_ ?_ h
 · unfold PyData.canLay0; rfl
 · intro b; unfold PyData.canLay0; rfl
 · intro b; unfold PyData.canLay0; rfl
 · intro s h; unfold PyData.canLay0; exact h
 · intro ds vs h ih; unfold PyData.canLay0; exact ih
 · intro ds vs l e h ih; unfold PyData.canLay0; exact ih
 · unfold PyData.canLayAll0; rfl
 · intro d v ds vs h t ih1 ih2; unfold PyData.canLayAll0; rw [ih1,ih2]; rfl
theorem Deeps.lay {σ:Hp}{ds:List PyData}{vs:List V}(h:Deeps σ ds vs):PyData.canLayAll0 ds=true:=by have:=(Yep.tup h).lay; unfold PyData.canLay0 at this; exact this
section
variable {T:Tp}{ι:Inj}{σ:Hp}{h:Heap}
noncomputable abbrev Yia (T:Tp) (ι:Inj) (h:Heap) (d:PyData) (v:V):Prop:=∀ {x:Value},Yau T ι h v x→∃ as,Reads h x d as
noncomputable abbrev Ykj (T:Tp) (ι:Inj) (h:Heap) (ds:List PyData) (vs:List V):Prop:=∀ {xs:List Value},VRels T ι h vs xs→∃ as,ReadsAll h xs ds as
theorem Yol:Yia T ι h .none .none:=fun r=>r.none_inv▸⟨_,.none⟩
theorem Yo2 (b:Bool):Yia T ι h (.bool b) (.bool b):=fun r=>r.bool_inv▸⟨_,.bool b⟩
theorem Ys6 (i:Int):Yia T ι h (.int i) (.int i):=fun r=>r.int_inv.elim fun t e=>e▸⟨_,.int i t⟩
theorem Ytv {s:Str}(zz:PyData.strOk s=true):Yia T ι h (.str s) (.str s):=fun r=>r.str_inv.elim fun t e=>e▸⟨_,.str s t⟩
theorem Ys4 {ds:List PyData}{vs:List V}(zz:Deeps σ ds vs) (ih:Ykj T ι h ds vs):Yia T ι h (.tuple ds) (.tup vs):=fun r=>ex3 r.tup_inv fun a items n e=>(ih e.2.2).elim fun as ra=>e.1▸⟨as,.tuple e.2.1 rfl rfl ra⟩
theorem Yp8 (R:Rep T ι σ h) {ds:List PyData}{vs:List V}{l:Nat}(e1:σ[l]?=some (.list vs)) (zz:Deeps σ ds vs) (ih:Ykj T ι h ds vs):Yia T ι h (.list ds) (.ref l):=fun r=>ex2 r.ref_inv fun a d e=>ex2 (R.list_at e1 e.2) fun items n q=>(ih q.2).elim fun as ra=>e.1▸⟨a::as,.list q.1 rfl rfl ra⟩
theorem Ytw:Ykj T ι h [] []:=fun r=>VRels.nil_iff.mp r▸⟨[],.nil⟩
theorem Yp1 {d:PyData}{v:V}{ds:List PyData}{vs:List V}(zz:Yep σ d v) (zz:Deeps σ ds vs) (i1:Yia T ι h d v) (i2:Ykj T ι h ds vs):Ykj T ι h (d::ds) (v::vs):=fun r=>ex2 (VRels.cons_iff.mp r) fun x ys e=>(i1 e.2.1).elim fun as h1=>(i2 e.2.2).elim fun bs h2=>e.1▸⟨as++bs,.cons h1 h2⟩
theorem Yep.reads (R:Rep T ι σ h) {d:PyData}{v:V}{x:Value}(e:Yep σ d v) (r:Yau T ι h v x):∃ as,Reads h x d as :=
 Yep.rec (motive_1:=fun d v zz=>Yia T ι h d v) (motive_2:=fun ds vs zz=>Ykj T ι h ds vs) Yol Yo2 Ys6 Ytv Ys4 (Yp8 R) Ytw Yp1 e r
theorem Deeps.reads (R:Rep T ι σ h) {ds:List PyData}{vs:List V}{xs:List Value}(e:Deeps σ ds vs) (r:VRels T ι h vs xs):∃ as,ReadsAll h xs ds as :=
 Deeps.rec (motive_1:=fun d v zz=>Yia T ι h d v) (motive_2:=fun ds vs zz=>Ykj T ι h ds vs) Yol Yo2 Ys6 Ytv Ys4 (Yp8 R) Ytw Yp1 e r
end
end
section
theorem Yr0 {M:Model}{A:Around}{E:Value→Shared→Prop}{s:Shared}{x y:Value}{Q:Value→Shared→Prop}(h:wpAny M A (compareOp .In x y) (fun v s'=>∀ b,v=.bool b→Q (.bool (!b)) s') E s) :
   wpAny M A (compareOp .NotIn x y) Q E s:=fun Γ p hΓ=>by
 have h':=h Γ p hΓ
 change Sem.wp M Γ (contains y x >>= fun r=>pure (Value.bool r)) _ _ p s at h'
 show Sem.wp M Γ (contains y x >>= fun r=>pure (Value.bool !r)) _ _ p s
 rw [Sem.wp_bind'] at h' ⊢
 exact Sem.wp_mono M Γ _ (fun r zz zz q=>q r rfl) (fun zz zz zz q=>q) _ _ h'
theorem Yye {u d x:Nat}(h:u+10*d+50≤cLine) (hx:x≤40):u+x < cLine:=by lia
theorem Ykw {u d x:Nat}(h:u+10*d+50≤cLine) (hx:x≤40):u+1+x < cLine:=by lia
noncomputable def Yfz (vv:V):Option Bool:=vv.casesOn (some true) (fun _=>some false) (fun _=>some false) (fun _=>some false) (fun _=>some false) (fun _=>some false) (fun _=>none) (fun _ _=>none) (fun _=>none) (fun _=>none) (fun _=>none) (fun _=>some false) (fun _=>none) (fun _ _=>none)
noncomputable def Yf7 (b:Bool) (vv:V):Option Bool:=vv.casesOn (some false) (fun c=>some (c == b)) (fun _=>some false) (fun _=>some false) (fun _=>some false) (fun _=>some false) (fun _=>none) (fun _ _=>none) (fun _=>none) (fun _=>none) (fun _=>none) (fun _=>some false) (fun _=>none) (fun _ _=>none)
noncomputable def Yq0 (x y:Str):Bool:=!(Builtin.Str.occurrences y x 0 y.length 1).isEmpty
inductive InR (σ:Hp):V→V→Bool→Prop where
 | str (x y:Str):InR σ (.str x) (.str y) (Yq0 x y)
 | list (a:V) (l:Nat) (vs:List V) (ds:List PyData) (d:PyData) (h:σ[l]?=some (.list vs)) (h1:Deeps σ ds vs) (h2:Yep σ d a) (h3:PyData.depthAll ds≤40):InR σ a (.ref l) (ds.any fun y=>PyData.eqv y d)
 | dict (k:Str) (l:Nat) (kvs:List (Str×V)) (h:σ[l]?=some (.sdict kvs)):InR σ (.str k) (.ref l) (kvs.any fun kv=>kv.1=k)
 | tdict (k:Str×Int) (l:Nat) (kvs:List ((Str×Int)×V)) (h:σ[l]?=some (.tdict kvs)):InR σ (.tup [.str k.1,.int k.2]) (.ref l) (kvs.any fun kv=>kv.1=k)
inductive Ygu (σ:Hp):CmpOp→V→V→Bool→Prop where
 | lt (x y:Int):Ygu σ .Lt (.int x) (.int y) (decide (x < y))
 | le (x y:Int):Ygu σ .LtE (.int x) (.int y) (decide (x≤y))
 | gt (x y:Int):Ygu σ .Gt (.int x) (.int y) (decide (y < x))
 | ge (x y:Int):Ygu σ .GtE (.int x) (.int y) (decide (y≤x))
 | eqi (x y:Int):Ygu σ .Eq (.int x) (.int y) (x == y)
 | nei (x y:Int):Ygu σ .NotEq (.int x) (.int y) (x != y)
 | eqs (x y:Str):Ygu σ .Eq (.str x) (.str y) (x == y)
 | nes (x y:Str):Ygu σ .NotEq (.str x) (.str y) (x != y)
 | eq (a b:V) (da db:PyData) (h1:Yep σ da a) (h2:Yep σ db b) (h3:da.depth≤40):Ygu σ .Eq a b (PyData.eqv da db)
 | ne (a b:V) (da db:PyData) (h1:Yep σ da a) (h2:Yep σ db b) (h3:da.depth≤40):Ygu σ .NotEq a b (!PyData.eqv da db)
 | isN (a:V) (r:Bool) (h:Yfz a=some r):Ygu σ .Is a .none r
 | notN (a:V) (r:Bool) (h:Yfz a=some r):Ygu σ .IsNot a .none (!r)
 | isB (a:V) (c r:Bool) (h:Yf7 c a=some r):Ygu σ .Is a (.bool c) r
 | notB (a:V) (c r:Bool) (h:Yf7 c a=some r):Ygu σ .IsNot a (.bool c) (!r)
 | isin (a b:V) (r:Bool) (h:InR σ a b r):Ygu σ .In a b r
 | nin (a b:V) (r:Bool) (h:InR σ a b r):Ygu σ .NotIn a b (!r)
 | own (op:CmpOp) (a b:V) (r:Bool) (h:∀ {T:Tp}{d:Nat}{X:QX}{Q:QE},Q (.bool r) σ→Ybu T d X (compareOp op) a b Q σ):Ygu σ op a b r
inductive Ydg (op:CmpOp) (a b:V) (Q:QE) (σ:Hp):Prop where
 | mk (r:Bool) (c:Ygu σ op a b r) (q:Q (.bool r) σ):Ydg op a b Q σ
section
variable {T:Tp}{A:Around}{fs:List Env}{d:Nat}{ι:Inj}{σ:Hp}{s:Shared}
theorem Yhp {a:V}{x:Value}{h:Heap}{r:Bool}(e:Yfz a=some r) (v:Yau T ι h a x):plainIs x .none=true∧(x == .none)=r:=by
 cases a <;> first | (cases (show (Option.none:Option Bool)=some r from e); done) | (obtain rfl:=Zab (show some _=some r from e))
 · cases v.none_inv; exact ⟨rfl,rfl⟩
 · cases v.bool_inv; exact ⟨rfl,rfl⟩
 · obtain ⟨t,rfl⟩:=v.int_inv; exact ⟨rfl,rfl⟩
 · obtain ⟨t,rfl⟩:=v.str_inv; exact ⟨rfl,rfl⟩
 · obtain ⟨a,zz,zz,rfl,zz⟩:=v.tup_inv; exact ⟨rfl,rfl⟩
 · obtain ⟨a,zz,rfl,zz⟩:=v.ref_inv; exact ⟨rfl,rfl⟩
 · obtain ⟨a,zz,zz,rfl,zz⟩:=v; exact ⟨rfl,rfl⟩
set_option tactic.hygienic true in
theorem Yh9 {a:V}{x:Value}{h:Heap}{b r:Bool}(e:Yf7 b a=some r) (v:Yau T ι h a x):plainIs x (.bool b)=true∧(x == .bool b)=r:=by
 cases a <;> first | (cases (show (Option.none:Option Bool)=some r from e); done) | (obtain rfl:=Zab (show some _=some r from e))
 · cases v.none_inv; exact ⟨rfl,rfl⟩
 · cases v.bool_inv; refine ⟨rfl,?_⟩; rename_i c; cases b <;> cases c <;> rfl
 · obtain ⟨t,rfl⟩:=v.int_inv; exact ⟨rfl,rfl⟩
 · obtain ⟨t,rfl⟩:=v.str_inv; exact ⟨rfl,rfl⟩
 · obtain ⟨a,zz,zz,rfl,zz⟩:=v.tup_inv; exact ⟨rfl,rfl⟩
 · obtain ⟨a,zz,rfl,zz⟩:=v.ref_inv; exact ⟨rfl,rfl⟩
 · obtain ⟨a,zz,zz,rfl,zz⟩:=v; exact ⟨rfl,rfl⟩
theorem Yjh.isSome {h:Heap}{kvs:List (Str×V)}{rvs:List (Str×Value)}{k:Str}(e:Yjh T ι h kvs rvs):(valueAt rvs k).isSome=kvs.any fun kv=>kv.1=k:=e.find.isSome.trans Yi7
theorem Yih.isSome {h:Heap}{kvs:List ((Str×Int)×V)}{xs:List ((Str×Int)×Addr×Value)}{k:Str×Int}(e:Yih T ι h kvs xs):(atKey xs k).isSome=kvs.any fun kv=>kv.1=k:=e.find.isSome.trans Yi7
theorem VRels.two {h:Heap}{v w:V}{xs:List Value}(e:VRels T ι h [v,w] xs):∃ x y,xs=[x,y]∧Yau T ι h v x∧Yau T ι h w y:=by
 obtain ⟨x,r,rfl,h1,h2⟩:=VRels.cons_iff.mp e
 obtain ⟨y,r,rfl,h3,h4⟩:=VRels.cons_iff.mp h2
 cases VRels.nil_iff.mp h4
 exact ⟨x,y,rfl,h1,h3⟩
theorem Yau.pair {h:Heap}{k:Str×Int}{v:Value}(e:Yau T ι h (.tup [.str k.1,.int k.2]) v):∃ a,v=.ref a∧Ya7 h k a:=by
 obtain ⟨a,⟨xs⟩,n,e1,ht,hv⟩:=e.tup_inv
 obtain ⟨x,y,e2,⟨t,e3⟩,⟨u,e4⟩⟩:=hv.two
 cases e2; cases e3; cases e4
 exact ⟨a,e1,_,t,u,n,ht,⟨rfl,rfl,rfl⟩,rfl⟩
theorem Rep.tdict_at {h:Heap}(r:Rep T ι σ h) {l:Nat}{kvs:List ((Str×Int)×V)}{a d:Addr}(e:σ[l]?=some (.tdict kvs)) (q:ι[l]?=some (a,d)) :
   ∃ xs,h.DictOfH (Ydu T.prog T.w) a xs∧Yih T ι h kvs xs∧(a == sysModules)=false:=by
 obtain ⟨zz,rvs,hd,hv⟩:=r.objs l _ _ e q
 refine ⟨rvs,hd,hv,?_⟩
 have h1:=(r.fresh _ (Zn q)).1
 have h2:=r.big
 simp only [Zmc,ne_eq]
 intro hq
 have:(sysModules:Nat)=1:=rfl
 rw [hq] at h1
 have h3:T.b0.objs.size≤1:=h1
 (clear h1 e q; lia)
theorem Rep.sdict_at {h:Heap}(r:Rep T ι σ h) {l:Nat}{kvs:List (Str×V)}{a d:Addr}(e:σ[l]?=some (.sdict kvs)) (q:ι[l]?=some (a,d)) :
   ∃ rvs,h.DictOf (strKind T.prog T.w) a rvs∧Yjh T ι h kvs rvs∧(a == sysModules)=false:=by
 obtain ⟨zz,rvs,hd,hv⟩:=r.objs l _ _ e q
 refine ⟨rvs,hd,hv,?_⟩
 have h1:=(r.fresh _ (Zn q)).1
 have h2:=r.big
 simp only [Zmc,ne_eq]
 intro hq
 have:(sysModules:Nat)=1:=rfl
 rw [hq] at h1
 have h3:T.b0.objs.size≤1:=h1
 (clear h1 e q; lia)
end
theorem Ybu.eqR {T:Tp}{d:Nat}{X:QX}{t:Value→Value→Sem Value}{a b:V}{da db:PyData}{Q:QE}{σ:Hp}(h1:Yep σ da a) (h2:Yep σ db b) (h3:da.depth≤40)
   (k:∀ {A fs ι s x y as bs},St T A fs d ι σ s→Reads s.heap x da as→Reads s.heap y db bs→A.units+min da.depth db.depth < cLine→wpAny (model T.prog T.w) A (t x y) (Ybf T [] Q ι s.heap) (Yaz T [] X ι s.heap) s):Ybu T d X t a b Q σ :=
 fun A zz zz zz zz zz S hx hy=>Zh (h1.reads S.rep hx) fun zz ra=>Zh (h2.reads S.rep hy) fun zz rb=>k S ra rb (Yye S.aok.units (Za (Nat.min_le_left ..) h3))
theorem Ymy {T:Tp}{d:Nat}{X:QX}{a:V}{l:Nat}{vs:List V}{ds:List PyData}{dd:PyData}{Q:QE}{σ:Hp}(h:σ[l]?=some (.list vs)) (h1:Deeps σ ds vs) (h2:Yep σ dd a) (h3:PyData.depthAll ds≤40) (q:Q (.bool (ds.any fun y=>PyData.eqv y dd)) σ) :
   Ybu T d X (compareOp .In) a (.ref l) Q σ :=
 fun A zz zz zz zz zz S hx hy=>Zh hy fun zz hy=>Zh hy fun zz hy=>hy.1▸Zh (S.rep.list_at h hy.2) fun zz l1=>Zh l1 fun zz l1=>Zh (h1.reads S.rep l1.2) fun zz ra=>Zh (h2.reads S.rep hx) fun zz rx =>
   in_list_reads (.list l1.1 rfl rfl ra) rx h1.lay h2.lay (Ykw S.aok.units (Za (Nat.min_le_left ..) h3)) (S.post0 (v:=.bool _) q .bool_mk)
theorem Ylq {T:Tp}{d:Nat}{X:QX}{k:Str}{l:Nat}{kvs:List (Str×V)}{Q:QE}{σ:Hp}(h:σ[l]?=some (.sdict kvs)) (q:Q (.bool (kvs.any fun kv=>kv.1=k)) σ):Ybu T d X (compareOp .In) (.str k) (.ref l) Q σ :=
 fun A zz zz zz zz zz S hx hy=>Zh hx fun zz hx=>Zh hy fun zz hy=>Zh hy fun zz hy=>hx▸hy.1▸Zh (S.rep.sdict_at h hy.2) fun zz hd =>
   wpAny_in_of (knd:=strKind T.prog T.w) (k:=k) (by simp [PySem.strKind,Value.isStrOf]) hd.2.2 hd.1.mapOf (S.post (hd.2.1.isSome▸q) .bool_mk _)
theorem Yjx {T:Tp}{d:Nat}{X:QX}{k:Str×Int}{l:Nat}{kvs:List ((Str×Int)×V)}{Q:QE}{σ:Hp}(h:σ[l]?=some (.tdict kvs)) (q:Q (.bool (kvs.any fun kv=>kv.1=k)) σ):Ybu T d X (compareOp .In) (.tup [.str k.1,.int k.2]) (.ref l) Q σ :=
 fun A zz zz zz zz zz S hx hy=>Zh hx.pair fun zz hx=>Zh hy fun zz hy=>Zh hy fun zz hy=>hx.1▸hy.1▸Zh (S.rep.tdict_at h hy.2) fun zz hd =>
   wpAny_in_heap (knd:=Ydu T.prog T.w) (k:=k) (show A.units+1 < cLine from Ykw (x:=0) S.aok.units (by decide)) hx.2 hd.2.2 hd.1 (S.post (hd.2.1.isSome▸q) .bool_mk _)
theorem Ybu.nin {T:Tp}{d:Nat}{X:QX}{a b:V}{r:Bool}{Q:QE}{σ:Hp}(q:Q (.bool (!r)) σ) (h:Ybu T d X (compareOp .In) a b (fun v σ'=>v=.bool r∧σ'=σ) σ):Ybu T d X (compareOp .NotIn) a b Q σ :=
 fun A fs ι s x y S hx hy=>Yr0 (Zib (h A fs ι s x y S hx hy) (fun v s' p b e=>by
   obtain ⟨v,σ',ι',h0,h1,h2,h3,h4,h5⟩:=p
   cases h0.1; cases h0.2; cases e
   cases Yau.bool_inv h1
   exact ⟨_,_,_,q,.bool_mk,h2,h3,h4,h5⟩) fun zz zz p=>p)
theorem InR.ok {T:Tp}{d:Nat}{X:QX}{σ:Hp}{a b:V}{r:Bool}(c:InR σ a b r):∀ {Q:QE},Q (.bool r) σ→Ybu T d X (compareOp .In) a b Q σ:=by
 induction c with
 | str=>exact fun q=>.strs fun S=>in_str (S.post0 q .bool_mk)
 | list z1 z2 z3 z4 z5 h h1 h2 h3=>exact fun q=>Ymy h h1 h2 h3 q
 | dict z1 z2 z3 h=>exact fun q=>Ylq h q
 | tdict z1 z2 z3 h=>exact fun q=>Yjx h q
theorem Ygu.ok {T:Tp}{d:Nat}{X:QX}{σ:Hp}{op:CmpOp}{a b:V}{r:Bool}(c:Ygu σ op a b r):∀ {Q:QE},Q (.bool r) σ→Ybu T d X (compareOp op) a b Q σ:=by
 induction c with
 | lt=>exact fun q=>.ints fun S=>lt_int (S.post0 q .bool_mk)
 | le=>exact fun q=>.ints fun S=>le_int (S.post0 q .bool_mk)
 | gt=>exact fun q=>.ints fun S=>gt_int (S.post0 q .bool_mk)
 | ge=>exact fun q=>.ints fun S=>ge_int (S.post0 q .bool_mk)
 | eqi=>exact fun q=>.ints fun S=>PyProof.Rows.eq_int (S.post0 q .bool_mk)
 | nei=>exact fun q=>.ints fun S=>ne_int (S.post0 q .bool_mk)
 | eqs=>exact fun q=>.strs fun S=>PyProof.Rows.eq_str (S.post0 q .bool_mk)
 | nes=>exact fun q=>.strs fun S=>ne_str (S.post0 q .bool_mk)
 | eq z1 z2 z3 z4 h1 h2 h3=>exact fun q=>.eqR h1 h2 h3 fun S ra rb hr=>compareEq_reads ra rb h1.lay h2.lay hr (S.post0 q .bool_mk)
 | ne z1 z2 z3 z4 h1 h2 h3=>exact fun q=>.eqR h1 h2 h3 fun S ra rb hr=>compareNe_reads ra rb h1.lay h2.lay hr (S.post0 q .bool_mk)
 | isN z1 z2 e=>exact fun q zz zz zz zz zz zz S hx hy=>hy.none_inv▸wpAny_is_plain (Yhp e hx).1 (S.post0 ((Yhp e hx).2▸q) .bool_mk)
 | notN z1 z2 e=>exact fun q zz zz zz zz zz zz S hx hy=>hy.none_inv▸wpAny_isNot_plain (Yhp e hx).1 (S.post0 ((Yhp e hx).2▸q) .bool_mk)
 | isB z1 z2 z3 e=>exact fun q zz zz zz zz zz zz S hx hy=>hy.bool_inv▸wpAny_is_plain (Yh9 e hx).1 (S.post0 ((Yh9 e hx).2▸q) .bool_mk)
 | notB z1 z2 z3 e=>exact fun q zz zz zz zz zz zz S hx hy=>hy.bool_inv▸wpAny_isNot_plain (Yh9 e hx).1 (S.post0 ((Yh9 e hx).2▸q) .bool_mk)
 | isin z1 z2 z3 h=>exact fun q=>h.ok q
 | nin z1 z2 z3 h=>exact fun q=>.nin q (h.ok ⟨rfl,rfl⟩)
 | own z1 z2 z3 z4 h=>exact fun q=>h q
theorem Yg9 {T:Tp}{d:Nat}{X:QX}{op:CmpOp}{a b:V}{Q:QE}{σ:Hp}(h:Ydg op a b Q σ):Ybu T d X (compareOp op) a b Q σ:=h.rec fun zz c q=>c.ok q
end
section
structure Yag (T:Tp):Prop where
 X0:T.K.In T.b0
 lim:T.b0.NoLimit
 own:∀ x C bmB newId,PySem.W.nsIn T.K mainGlobals x=some (some (.ref C))→PySem.W.excIn T.K C bmB newId=true→∃ mg,PyProof.Rows.OwnCls x C bmB newId mg T.b0
 gl:∀ x v,T.gv x=some v→∃ V mg mb,T.b0.Ns mainGlobals mg∧T.b0.Ns builtinsNs mb∧(mg x=some V∨(mg x=none∧mb x=some V))∧Yau T [] T.b0 v V
noncomputable def Ypy (sc:Scope) (x:Str):Bool:=match sc.names.lookup x with
 | some .local | some .cell | some .free=>true
 | z1=>false
theorem Ynu {sc:Scope}{x:Str}(h:Ypy sc x=true):sc.names.lookup x=some .local∨sc.names.lookup x=some .cell∨sc.names.lookup x=some .free:=by
 unfold Ypy at h
 generalize sc.names.lookup x=o at h ⊢
 rcases o with zz | k
 · exact (Zv h).elim
 · cases k <;> first | exact .inl rfl | exact .inr (.inl rfl) | exact .inr (.inr rfl) | exact (Zv h).elim
noncomputable def Yem (sc:Scope):Bool:=sc.names.all fun p => !(p.1 == ("__debug__" : Str)) && !(p.1 == ("__classdict__" : Str))
theorem Ycn {sc:Scope}{x:Str}{k:NameKind}(h:Yem sc=true) (e:sc.names.lookup x=some k):(x == ("__debug__" : Str))=false∧(x == ("__classdict__" : Str))=false:=by
 unfold Yem at h
 have:∀ l:List (Str×NameKind),(l.all fun p => !(p.1 == ("__debug__" : Str)) && !(p.1 == ("__classdict__" : Str)))=true→l.lookup x=some k→(x == ("__debug__" : Str))=false∧(x == ("__classdict__" : Str))=false:=by
   intro l
   induction l with
   | nil=>intro zz e; cases e
   | cons p r ih =>
     intro h e
     simp only [List.all_cons,Zob,Bool.not_eq_true'] at h
     rw [List.lookup_cons] at e
     by_cases q:(x == p.1)=true
     · rw [beq_iff_eq.mp q]; exact h.1
     · rw [Bool.not_eq_true] at q; rw [q] at e
       exact ih (by simpa using h.2) e
 exact this _ h e
noncomputable def Ybz (es:List Expr):Bool:=es.all fun e=>e.ctorIdx != 22
theorem Yi1 {env:Env}{e:Expr}{r:List Expr}(h:(e.ctorIdx != 22)=true):starEach (e::r) env=(false,eval e env)::starEach r env:=by
 cases e <;> first | rfl | cases h
theorem Ybm {env:Env}{pos:Pos}{es:List Expr}(h:Ybz es=true):backTo pos (starEach es env)=es.map fun e=>(false,eval e env):=by
 induction es with
 | nil=>rfl
 | cons e r ih =>
   have h:=Bool.and_eq_true_iff.mp h
   rw [Yi1 h.1]
   exact congrArg (_ :: ·) (ih h.2)
section
variable {T:Tp}{d:Nat}{sc:Scope}{ρ:Loc}{X:QX}{Q:QE}{σ:Hp}
theorem Yai.mono {e:Expr}{Q':QE}{X':QX}(h:Yai T d sc ρ X e Q σ) (k:∀ v σ,Q v σ→Q' v σ) (kx:∀ c σ,X c σ→X' c σ):Yai T d sc ρ X' e Q' σ :=
 fun env A fs F ι s hsc I=>Zib (h env A fs F ι s hsc I) (fun zz zz p=>p.mono k) fun zz zz p=>p.mono kx
theorem Yai.none {k pos}(h:Q .none σ):Yai T d sc ρ X (.Constant .none k pos) Q σ:=fun zz zz zz zz zz zz zz I=>wpAny_Constant_none (I.st.post0 h .none_mk)
theorem Yai.bool {b k pos}(h:Q (.bool b) σ):Yai T d sc ρ X (.Constant (.bool b) k pos) Q σ:=fun zz zz zz zz zz zz zz I=>wpAny_Constant_bool (I.st.post0 h .bool_mk)
theorem Yai.int {i k pos}(h:Q (.int i) σ):Yai T d sc ρ X (.Constant (.int i) k pos) Q σ:=fun zz zz zz zz zz zz zz I=>wpAny_Constant_int (I.st.post h .int_mk _)
theorem Yai.str {i k pos}(h:Q (.str i) σ):Yai T d sc ρ X (.Constant (.str i) k pos) Q σ:=fun zz zz zz zz zz zz zz I=>wpAny_Constant_str (I.st.post h .str_mk _)
theorem Yo6.at {α β:Type}{R:α→β→Prop}{x:Option α}{y:Option β}(h:Yo6 R x y):∀ {a:α},x=Option.some a→∃ b,y=Option.some b∧R a b:=h.rec (fun e=>(by cases e)) fun h e=>⟨_,rfl,Zab e▸h⟩
theorem Yai.local {x:Str}{pos:Pos}{v:V}(h:Q v σ) (hv:ρ x=some v) (hk:sc.names.lookup x=some .local) (ho:Yem sc=true):Yai T d sc ρ X (.Name x pos) Q σ:=by
 intro env A fs F ι s hsc I
 obtain ⟨c,m,zz,hn,hr⟩:=I.frm.ns
 have hk':env.kindOf x=some .local:=(congrArg (fun z=>z.names.lookup x) hsc).trans hk
 refine ((hr x hk').at hv).elim fun y h9=>h9.elim fun hm r=>?_
 exact wpAny_Name (wpAny_loadName_local I.frm.kind hk' hn.ns hm (I.st.post0 h r)) (Ycn ho hk).1
theorem Yai.cell {x:Str}{pos:Pos}{v:V}{k:NameKind}(h:Q v σ) (hv:ρ x=some v) (hk:sc.names.lookup x=some k) (hk':k=.cell∨k=.free) (ho:Yem sc=true):Yai T d sc ρ X (.Name x pos) Q σ:=by
 intro env A fs F ι s hsc I
 have hkk:env.kindOf x=some k:=(congrArg (fun z=>z.names.lookup x) hsc).trans hk
 obtain ⟨c,o,y,e1,e2,zz,e4,r,zz⟩:=I.frm.cells x (hk'.imp (fun e=>hkk.trans (congrArg some e)) fun e=>hkk.trans (congrArg some e))
 refine (r.at hv).elim fun y h9=>h9.elim fun e r=>?_
 have hc:s.heap.IsCell c (some y):=⟨o,e2,e▸e4⟩
 refine wpAny_Name ?_ (Ycn ho hk).1
 rcases hk' with e | e
 · exact wpAny_loadName_cell I.frm.kind (e▸hkk) e1 hc (I.st.post0 h r)
 · exact wpAny_loadName_free I.frm.kind (e▸hkk) e1 hc (I.st.post0 h r) (Ycn ho hk).2
theorem Yai.var {x:Str}{pos:Pos}{v:V}(h:Q v σ) (hv:ρ x=some v) (hk:Ypy sc x=true) (ho:Yem sc=true):Yai T d sc ρ X (.Name x pos) Q σ :=
 (Ynu hk).elim (fun e=>.local h hv e ho) fun e=>e.elim (fun e=>.cell h hv e (.inl rfl) ho) fun e=>.cell h hv e (.inr rfl) ho
theorem Yau.up {ι:Inj}{h:Heap}{v:V}{x:Value}(R:Rep T ι σ h) (r:Yau T [] T.b0 v x):Yau T ι h v x :=
 r.mono ⟨⟨ι,rfl⟩,fun zz o e zz=>⟨o,R.base _ _ e,rfl⟩,fun zz zz e zz=>R.base _ _ e⟩
theorem Yai.glob {x:Str}{pos:Pos}{v:V}(TO:Yag T) (h:Q v σ) (hv:T.gv x=some v) (hk:sc.names.lookup x=some .globalImplicit) (ho:Yem sc=true):Yai T d sc ρ X (.Name x pos) Q σ:=by
 intro env A fs F ι s hsc I
 subst hsc
 refine ex3 (TO.gl x v hv) fun V mg mb h9=>Yqg h9 fun n1 n2 hm r=>?_
 have N1:=n1.keeps I.rep.base
 have N2:=n2.keeps I.rep.base
 have p:=I.st.post0 (F:=[]) h (r.up I.rep)
 refine Name_function_global I.frm.kind hk ?_ (Ycn ho hk).1
 rw [← I.frm.glb] at N1
 rw [← I.frm.blt] at N2
 rcases hm with hm | ⟨hm,hb⟩
 · exact loadGlobal_global N1 hm p
 · exact loadGlobal_builtin N1 hm N2 hb p
theorem Yai.two {l r:Expr}{t:Value→Value→Sem Value}{P:V→V→Hp→Prop}{env:Env}{A:Around}{fs:List Env}{F:List Addr}{ι:Inj}{s:Shared}(hk:∀ {a b σ},P a b σ→Ybu T d X t a b Q σ)
   (h:Yai T d sc ρ X l (fun a σ₁=>Yai T d sc ρ X r (fun b σ₂=>P a b σ₂) σ₁) σ) (hsc:env.scope=sc) (I:Inv T A fs d env F ρ ι σ s) :
   wpAny (model T.prog T.w) A (eval l env) (fun x s₁=>wpAny (model T.prog T.w) A (eval r env) (fun y s₂=>wpAny (model T.prog T.w) A (t x y) (Ybf T [] Q ι s.heap) (Yaz T [] X ι s.heap) s₂) (Yaz T [] X ι s.heap) s₁) (Yaz T [] X ι s.heap) s:=by
 refine Zib (h env A fs F ι s hsc I) (fun x s₁ p=>?_) fun zz zz p=>p
 obtain ⟨v,σ₁,ι₁,q,rv,rp,ex,g,o⟩:=p
 have I₁:=I.ext ex rp g o
 refine Zib (q env A fs F ι₁ s₁ hsc I₁) (fun y s₂ p=>?_) fun zz zz p=>p.trans ex
 obtain ⟨v₂,σ₂,ι₂,q₂,rv₂,rp₂,ex₂,g₂,o₂⟩:=p
 exact Zib (hk q₂ A fs ι₂ s₂ x y (I₁.ext ex₂ rp₂ g₂ o₂).st (rv.mono ex₂.mono) rv₂) (fun zz zz p=>p.trans (ex.trans ex₂)) fun zz zz p=>p.trans (ex.trans ex₂)
theorem Yai.bin {l r:Expr}{op:Operator}{pos:Pos}(h:Yai T d sc ρ X l (fun a σ₁=>Yai T d sc ρ X r (fun b σ₂=>Ymd op a b Q σ₂) σ₁) σ):Yai T d sc ρ X (.BinOp l op r pos) Q σ :=
 fun zz zz zz zz zz zz hsc I=>wpAny_BinOp (Yai.two Ywh h hsc I)
theorem Yai.cmp {l r:Expr}{op:CmpOp}{pos:Pos}(h:Yai T d sc ρ X l (fun a σ₁=>Yai T d sc ρ X r (fun b σ₂=>Ydg op a b Q σ₂) σ₁) σ) (hm:behindInMarks op r=false):Yai T d sc ρ X (.Compare l [op] [r] pos) Q σ :=
 fun zz zz zz zz zz zz hsc I=>wpAny_Compare1 (Yai.two Yg9 h hsc I) hm
noncomputable def Ydl (v:V) (σ:Hp):Option Bool:=match v with
 | .bool b=>some b
 | .none=>some false
 | .int i=>some (i != 0)
 | .ref l=>atL (fun vs=>if vs.length < 1000000000 then some (!vs.isEmpty) else none) σ[l]?
 | z1=>none
theorem Yfp {A:Around}{fs:List Env}{ι:Inj}{s:Shared}{v:V}{x:Value}{b:Bool}{Q:Bool→Hp→Prop}(S:St T A fs d ι σ s) (r:Yau T ι s.heap v x) (e:Ydl v σ=some b) (q:Q b σ) :
   wpAny (model T.prog T.w) A (truthy x) (Yeq T Q ι s.heap) (Yaz T [] X ι s.heap) s:=by
 have fin:∀ t,Yeq T Q ι s.heap b { s with toks:=t }:=fun t=>⟨σ,ι,q,S.rep,.refl ..,S.gens,S.os⟩
 cases v <;> first | exact (Yaf e).elim | skip
 · cases r.none_inv; cases Yad e; exact Zjb (fin s.toks)
 · cases r.bool_inv; cases Yad e; exact wpAny_truthy_bool (fin s.toks)
 · obtain ⟨t,rfl⟩:=r.int_inv; cases Yad e; exact P.truthy_int (fin s.toks)
 · obtain ⟨a,d',rfl,hl⟩:=r.ref_inv
   obtain ⟨vs,hvs,e⟩:=Ydo e
   · split at e
     · rename_i hlt
       simp only [Option.some.injEq] at e
       refine ex2 (S.rep.list_at hvs hl) fun items n h9=>h9.elim fun hL hv=>?_
       have hlen:=hv.length
       simp only [Array.length_toList] at hlen
       refine wpAny_truthy_list hL.isList (by (clear hvs fin hl; lia)) ?_
       have:(!items.isEmpty)=b:=by
         rw [← e]; congr 1
         rw [Bool.eq_iff_iff,Array.isEmpty_iff_size_eq_zero,List.isEmpty_iff_length_eq_zero,hlen]
       rw [this]; exact fin _
     · cases e
end
end
section
section
variable {T:Tp}{d:Nat}{sc:Scope}{ρ:Loc}{X:QX}{Q:QE}{B:Bool→Hp→Prop}{σ:Hp}
theorem Yd1.cmp {l r:Expr}{op:CmpOp}{pos:Pos}(h:Yai T d sc ρ X l (fun a σ₁=>Yai T d sc ρ X r (fun b σ₂=>Ydg op a b (fun v σ₃=>∃ c,v=.bool c∧B c σ₃) σ₂) σ₁) σ) (hm:behindInMarks op r=false):Yd1 T d sc ρ X (.Compare l [op] [r] pos) B σ:=by
 intro env A fs F ι s hsc I
 refine wpAny_isTrue_Compare1 (Zib (h env A fs F ι s hsc I) (fun x s₁ p=>?_) fun zz zz p=>p) hm
 obtain ⟨v,σ₁,ι₁,q,rv,rp,ex,g,o⟩:=p
 have I₁:=I.ext ex rp g o
 refine Zib (q env A fs F ι₁ s₁ hsc I₁) (fun y s₂ p=>?_) fun zz zz p=>p.trans ex
 obtain ⟨v₂,σ₂,ι₂,q₂,rv₂,rp₂,ex₂,g₂,o₂⟩:=p
 have I₂:=I₁.ext ex₂ rp₂ g₂ o₂
 refine Zib (Yg9 q₂ A fs ι₂ s₂ x y I₂.st (rv.mono ex₂.mono) rv₂) (fun z s₃ p=>?_) fun zz zz p=>p.trans (ex.trans ex₂)
 obtain ⟨v₃,σ₃,ι₃,⟨c,rfl,q₃⟩,rv₃,rp₃,ex₃,g₃,o₃⟩:=p
 cases rv₃.bool_inv
 exact wpAny_truthy_bool ⟨σ₃,ι₃,q₃,rp₃,(ex.trans ex₂).trans ex₃,g₃,o₃⟩
theorem Yd1.not {x:Expr}{pos:Pos}(h:Yd1 T d sc ρ X x (fun b σ₁=>B (!b) σ₁) σ):Yd1 T d sc ρ X (.UnaryOp .Not x pos) B σ:=by
 intro env A fs F ι s hsc I
 exact wpAny_isTrue_Not (Zib (h env A fs F ι s hsc I) (fun b s₁ p=>by obtain ⟨σ₁,ι₁,q,rp,ex,g,o⟩:=p; exact ⟨σ₁,ι₁,q,rp,ex,g,o⟩) fun zz zz p=>p)
noncomputable def Ydy (T:Tp) (d:Nat) (sc:Scope) (ρ:Loc) (X:QX) (op:BoolOp) (es:List Expr) (B:Bool→Hp→Prop) (σ:Hp):Prop :=
 ∀ env A fs F ι s,env.scope=sc→Inv T A fs d env F ρ ι σ s→wpAny (model T.prog T.w) A (allTrue op es env) (Yeq T B ι s.heap) (Yaz T [] X ι s.heap) s
theorem Yd1.bool {op:BoolOp}{es:List Expr}{pos:Pos}(h:Ydy T d sc ρ X op es B σ):Yd1 T d sc ρ X (.BoolOp op es pos) B σ :=
 fun env A fs F ι s hsc I=>wpAny_isTrue_BoolOp (h env A fs F ι s hsc I)
theorem Yeq.here {A:Around}{fs:List Env}{ι:Inj}{s:Shared}{b:Bool}(S:St T A fs d ι σ s) (q:B b σ):Yeq T B ι s.heap b s:=⟨σ,ι,q,S.rep,.refl ..,S.gens,S.os⟩
theorem Ydy.and_nil (q:B true σ):Ydy T d sc ρ X .And [] B σ:=fun zz zz zz zz zz zz zz I=>wpAny_allTrue_And_nil (.here I.st q)
theorem Ydy.or_nil (q:B false σ):Ydy T d sc ρ X .Or [] B σ:=fun zz zz zz zz zz zz zz I=>wpAny_allTrue_Or_nil (.here I.st q)
theorem Ydy.and_cons {x:Expr}{r:List Expr}(h:Yd1 T d sc ρ X x (fun b σ₁=>if b then Ydy T d sc ρ X .And r B σ₁ else B false σ₁) σ):Ydy T d sc ρ X .And (x::r) B σ:=by
 intro env A fs F ι s hsc I
 refine wpAny_allTrue_And_cons (Zib (h env A fs F ι s hsc I) (fun b s₁ p=>?_) fun zz zz p=>p)
 obtain ⟨σ₁,ι₁,q,rp,ex,g,o⟩:=p
 cases b
 · exact ⟨σ₁,ι₁,q,rp,ex,g,o⟩
 · exact Zib (q env A fs F ι₁ s₁ hsc (I.ext ex rp g o)) (fun zz zz p=>p.trans ex) fun zz zz p=>p.trans ex
theorem Ydy.or_cons {x:Expr}{r:List Expr}(h:Yd1 T d sc ρ X x (fun b σ₁=>if b then B true σ₁ else Ydy T d sc ρ X .Or r B σ₁) σ):Ydy T d sc ρ X .Or (x::r) B σ:=by
 intro env A fs F ι s hsc I
 refine wpAny_allTrue_Or_cons (Zib (h env A fs F ι s hsc I) (fun b s₁ p=>?_) fun zz zz p=>p)
 obtain ⟨σ₁,ι₁,q,rp,ex,g,o⟩:=p
 cases b
 · exact Zib (q env A fs F ι₁ s₁ hsc (I.ext ex rp g o)) (fun zz zz p=>p.trans ex) fun zz zz p=>p.trans ex
 · exact ⟨σ₁,ι₁,q,rp,ex,g,o⟩
noncomputable def Yjd (e:Expr):Bool:=!(Nat.beq e.ctorIdx 0 || Nat.beq e.ctorIdx 3 || Nat.beq e.ctorIdx 5 || Nat.beq e.ctorIdx 15)
theorem Yd1.val {e:Expr}(h:Yai T d sc ρ X e (fun v σ₁=>∃ b,Ydl v σ₁=some b∧B b σ₁) σ) (hp:Yjd e=true):Yd1 T d sc ρ X e B σ:=by
 intro env A fs F ι s hsc I
 refine wpAny_isTrue_value (Zib (h env A fs F ι s hsc I) (fun x s₁ p=>?_) fun zz zz p=>p) ?_
 · obtain ⟨v,σ₁,ι₁,⟨b,e1,q⟩,rv,rp,ex,g,o⟩:=p
   exact Zib (Yfp (I.ext ex rp g o).st rv e1 q) (fun zz zz p=>p.trans ex) fun zz zz p=>p.trans ex
 · cases e <;> first | rfl | exact (Zv hp).elim
theorem Yd1.cmp2 {l m r:Expr}{op1 op2:CmpOp}{pos:Pos}(h:Yai T d sc ρ X l (fun a σ₁=>Yai T d sc ρ X m (fun b σ₂=>Ydg op1 a b (fun v σ₃=>∃ c,v=.bool c∧(if c then Yai T d sc ρ X r (fun w σ₄=>Ydg op2 b w (fun v σ₅=>∃ c,v=.bool c∧B c σ₅) σ₄) σ₃ else B false σ₃)) σ₂) σ₁) σ)
   (hm:behindInMarks op2 r=false):Yd1 T d sc ρ X (.Compare l [op1,op2] [m,r] pos) B σ:=by
 intro env A fs F ι s hsc I
 show wpAny _ _ (eval l env >>= fun a=>testChain pos a [op1,op2] [eval m env,markedBehindIn op2 r (eval r env)]) _ _ _
 rw [markedBehindIn_of_false hm]
 refine Zhb (Zib (h env A fs F ι s hsc I) (fun x s₁ p=>?_) fun zz zz p=>p)
 obtain ⟨v,σ₁,ι₁,q,rv,rp,ex,g,o⟩:=p
 have I₁:=I.ext ex rp g o
 refine Zhb (wpAny_holding (Zib (q env A fs F ι₁ s₁ hsc I₁) (fun y s₂ p=>?_) fun zz zz p=>p.trans ex))
 obtain ⟨v₂,σ₂,ι₂,q₂,rv₂,rp₂,ex₂,g₂,o₂⟩:=p
 have I₂:=I₁.ext ex₂ rp₂ g₂ o₂
 refine Zhb (wpAny_standAt (Zhb (wpAny_holding (Zib (Yg9 q₂ A fs ι₂ s₂ x y I₂.st (rv.mono ex₂.mono) rv₂) (fun z s₃ p=>?_) fun zz zz p=>p.trans (ex.trans ex₂)))))
 obtain ⟨v₃,σ₃,ι₃,⟨c,rfl,q₃⟩,rv₃,rp₃,ex₃,g₃,o₃⟩:=p
 cases rv₃.bool_inv
 have I₃:=I₂.ext ex₃ rp₃ g₃ o₃
 have ex123:=(ex.trans ex₂).trans ex₃
 refine Zhb (wpAny_release (Zhb (wpAny_holding (wpAny_truthy_bool ?_))))
 cases c
 · exact Zjb ⟨σ₃,ι₃,q₃,rp₃,ex123,g₃,o₃⟩
 · show wpAny _ _ (testChain pos y [op2] [eval r env]) _ _ _
   refine Zhb (wpAny_holding (Zib (q₃ env A fs F ι₃ s₃ hsc I₃) (fun u s₄ p=>?_) fun zz zz p=>p.trans ex123))
   obtain ⟨v₄,σ₄,ι₄,q₄,rv₄,rp₄,ex₄,g₄,o₄⟩:=p
   have I₄:=I₃.ext ex₄ rp₄ g₄ o₄
   have ex1234:=ex123.trans ex₄
   refine Zhb (wpAny_standAt (Zhb (wpAny_operateT (Zib (Yg9 q₄ A fs ι₄ s₄ y u I₄.st (rv₂.mono (ex₃.trans ex₄).mono) rv₄) (fun z s₅ p=>?_) fun zz zz p=>p.trans ex1234))))
   obtain ⟨v₅,σ₅,ι₅,⟨c,rfl,q₅⟩,rv₅,rp₅,ex₅,g₅,o₅⟩:=p
   cases rv₅.bool_inv
   exact wpAny_holding (wpAny_truthy_bool ⟨σ₅,ι₅,q₅,rp₅,ex1234.trans ex₅,g₅,o₅⟩)
theorem Yai.cmp2 {l m r:Expr}{op1 op2:CmpOp}{pos:Pos}(h:Yai T d sc ρ X l (fun a σ₁=>Yai T d sc ρ X m (fun b σ₂=>Ydg op1 a b (fun v σ₃=>∃ c,v=.bool c∧(if c then Yai T d sc ρ X r (fun w σ₄=>Ydg op2 b w Q σ₄) σ₃ else Q (.bool false) σ₃)) σ₂) σ₁) σ)
   (hm:behindInMarks op2 r=false):Yai T d sc ρ X (.Compare l [op1,op2] [m,r] pos) Q σ:=by
 intro env A fs F ι s hsc I
 show wpAny _ _ (eval l env >>= fun a=>compareChain pos a [op1,op2] [eval m env,markedBehindIn op2 r (eval r env)]) _ _ _
 rw [markedBehindIn_of_false hm]
 refine Zhb (Zib (h env A fs F ι s hsc I) (fun x s₁ p=>?_) fun zz zz p=>p)
 obtain ⟨v,σ₁,ι₁,q,rv,rp,ex,g,o⟩:=p
 have I₁:=I.ext ex rp g o
 refine Zhb (wpAny_holding (Zib (q env A fs F ι₁ s₁ hsc I₁) (fun y s₂ p=>?_) fun zz zz p=>p.trans ex))
 obtain ⟨v₂,σ₂,ι₂,q₂,rv₂,rp₂,ex₂,g₂,o₂⟩:=p
 have I₂:=I₁.ext ex₂ rp₂ g₂ o₂
 refine Zhb (wpAny_standAt (Zhb (wpAny_holding (Zib (Yg9 q₂ A fs ι₂ s₂ x y I₂.st (rv.mono ex₂.mono) rv₂) (fun z s₃ p=>?_) fun zz zz p=>p.trans (ex.trans ex₂)))))
 obtain ⟨v₃,σ₃,ι₃,⟨c,rfl,q₃⟩,rv₃,rp₃,ex₃,g₃,o₃⟩:=p
 cases rv₃.bool_inv
 have I₃:=I₂.ext ex₃ rp₃ g₃ o₃
 have ex123:=(ex.trans ex₂).trans ex₃
 refine Zhb (wpAny_release (Zhb (wpAny_holding (wpAny_truthy_bool ?_))))
 cases c
 · exact Zjb ⟨_,σ₃,ι₃,q₃,.bool_mk,rp₃,ex123,g₃,o₃⟩
 · show wpAny _ _ (compareChain pos y [op2] [eval r env]) _ _ _
   refine Zhb (wpAny_holding (Zib (q₃ env A fs F ι₃ s₃ hsc I₃) (fun u s₄ p=>?_) fun zz zz p=>p.trans ex123))
   obtain ⟨v₄,σ₄,ι₄,q₄,rv₄,rp₄,ex₄,g₄,o₄⟩:=p
   have I₄:=I₃.ext ex₄ rp₄ g₄ o₄
   have ex1234:=ex123.trans ex₄
   exact Zhb (wpAny_standAt (wpAny_operateT (Zib (Yg9 q₄ A fs ι₄ s₄ y u I₄.st (rv₂.mono (ex₃.trans ex₄).mono) rv₄) (fun z s₅ p=>p.trans ex1234) fun zz zz p=>p.trans ex1234)))
theorem Yai.not {x:Expr}{pos:Pos}(h:Yai T d sc ρ X x (fun v σ₁=>∃ b,Ydl v σ₁=some b∧Q (.bool (!b)) σ₁) σ):Yai T d sc ρ X (.UnaryOp .Not x pos) Q σ:=by
 intro env A fs F ι s hsc I
 refine wpAny_UnaryOp (Zib (h env A fs F ι s hsc I) (fun x s₁ p=>?_) fun zz zz p=>p)
 obtain ⟨v,σ₁,ι₁,⟨b,e1,q⟩,rv,rp,ex,g,o⟩:=p
 refine not_value (Zib (Yfp (Q:=fun c σ'=>Q (.bool (!c)) σ') (I.ext ex rp g o).st rv e1 q) (fun c s₂ p=>?_) fun zz zz p=>p.trans ex)
 obtain ⟨σ₂,ι₂,q₂,rp₂,ex₂,g₂,o₂⟩:=p
 exact ⟨_,σ₂,ι₂,q₂,.bool_mk,rp₂,ex.trans ex₂,g₂,o₂⟩
theorem Yai.neg {x:Expr}{pos:Pos}(h:Yai T d sc ρ X x (fun v σ₁=>∃ i,v=.int i∧Q (.int (-i)) σ₁) σ):Yai T d sc ρ X (.UnaryOp .USub x pos) Q σ:=by
 intro env A fs F ι s hsc I
 refine wpAny_UnaryOp (Zib (h env A fs F ι s hsc I) (fun x s₁ p=>?_) fun zz zz p=>p)
 obtain ⟨v,σ₁,ι₁,⟨i,rfl,q⟩,rv,rp,ex,g,o⟩:=p
 obtain ⟨t,rfl⟩:=rv.int_inv
 exact P.neg_int (((I.ext ex rp g o).st.post q .int_mk _).trans ex)
noncomputable def Ybn (T:Tp) (d:Nat) (sc:Scope) (ρ:Loc) (X:QX) (op:BoolOp) (es:List Expr) (Q:QE) (σ:Hp):Prop :=
 ∀ env A fs F ι s pos,env.scope=sc→Inv T A fs d env F ρ ι σ s→wpAny (model T.prog T.w) A (boolOp pos op (evalEach es env)) (Ybf T [] Q ι s.heap) (Yaz T [] X ι s.heap) s
theorem Yai.bools {op:BoolOp}{es:List Expr}{pos:Pos}(h:Ybn T d sc ρ X op es Q σ):Yai T d sc ρ X (.BoolOp op es pos) Q σ :=
 fun env A fs F ι s hsc I=>h env A fs F ι s pos hsc I
theorem Ybn.one {op:BoolOp}{x:Expr}(h:Yai T d sc ρ X x Q σ):Ybn T d sc ρ X op [x] Q σ :=
 fun env A fs F ι s zz hsc I=>h env A fs F ι s hsc I
theorem Ybn.and {x y:Expr}{r:List Expr}(h:Yai T d sc ρ X x (fun v σ₁=>∃ b,Ydl v σ₁=some b∧(if b then Ybn T d sc ρ X .And (y::r) Q σ₁ else Q v σ₁)) σ):Ybn T d sc ρ X .And (x::y::r) Q σ:=by
 intro env A fs F ι s pos hsc I
 show wpAny _ _ (eval x env >>= fun v=>standAt pos >>= fun zz=>holding [v] (truthy v) >>= fun t=>match BoolOp.And,t with
   | .And,false | .Or,true=>pure v
   | z1,z2=>boolOp pos .And (evalEach (y::r) env)) _ _ _
 refine Zhb (Zib (h env A fs F ι s hsc I) (fun x s₁ p=>?_) fun zz zz p=>p)
 obtain ⟨v,σ₁,ι₁,⟨b,e1,q⟩,rv,rp,ex,g,o⟩:=p
 have I₁:=I.ext ex rp g o
 refine Zhb (wpAny_standAt (Zhb (wpAny_holding (Zib (Yfp (Q:=fun c σ'=>c=b∧σ'=σ₁) I₁.st rv e1 ⟨rfl,rfl⟩) (fun c s₂ p=>?_) fun zz zz p=>p.trans ex))))
 obtain ⟨σ₂,ι₂,⟨rfl,rfl⟩,rp₂,ex₂,g₂,o₂⟩:=p
 cases c
 · exact Zjb ⟨v,σ₂,ι₂,q,rv.mono ex₂.mono,rp₂,ex.trans ex₂,g₂,o₂⟩
 · exact Zib (q env A fs F ι₂ s₂ pos hsc (I₁.ext ex₂ rp₂ g₂ o₂)) (fun zz zz p=>p.trans (ex.trans ex₂)) fun zz zz p=>p.trans (ex.trans ex₂)
theorem Ybn.or {x y:Expr}{r:List Expr}(h:Yai T d sc ρ X x (fun v σ₁=>∃ b,Ydl v σ₁=some b∧(if b then Q v σ₁ else Ybn T d sc ρ X .Or (y::r) Q σ₁)) σ):Ybn T d sc ρ X .Or (x::y::r) Q σ:=by
 intro env A fs F ι s pos hsc I
 show wpAny _ _ (eval x env >>= fun v=>standAt pos >>= fun zz=>holding [v] (truthy v) >>= fun t=>match BoolOp.Or,t with
   | .And,false | .Or,true=>pure v
   | z1,z2=>boolOp pos .Or (evalEach (y::r) env)) _ _ _
 refine Zhb (Zib (h env A fs F ι s hsc I) (fun x s₁ p=>?_) fun zz zz p=>p)
 obtain ⟨v,σ₁,ι₁,⟨b,e1,q⟩,rv,rp,ex,g,o⟩:=p
 have I₁:=I.ext ex rp g o
 refine Zhb (wpAny_standAt (Zhb (wpAny_holding (Zib (Yfp (Q:=fun c σ'=>c=b∧σ'=σ₁) I₁.st rv e1 ⟨rfl,rfl⟩) (fun c s₂ p=>?_) fun zz zz p=>p.trans ex))))
 obtain ⟨σ₂,ι₂,⟨rfl,rfl⟩,rp₂,ex₂,g₂,o₂⟩:=p
 cases c
 · exact Zib (q env A fs F ι₂ s₂ pos hsc (I₁.ext ex₂ rp₂ g₂ o₂)) (fun zz zz p=>p.trans (ex.trans ex₂)) fun zz zz p=>p.trans (ex.trans ex₂)
 · exact Zjb ⟨v,σ₂,ι₂,q,rv.mono ex₂.mono,rp₂,ex.trans ex₂,g₂,o₂⟩
theorem Ydc.nil {L:List V→Hp→Prop}(q:L [] σ):Ydc T d sc ρ X [] L σ:=fun zz zz zz zz ι zz zz I=>Zjb ⟨[],σ,ι,q,VRels.nil_iff.mpr rfl,I.rep,.refl ..,I.gens,I.os⟩
theorem Ydc.cons {L:List V→Hp→Prop}{e:Expr}{r:List Expr}(h:Yai T d sc ρ X e (fun v σ₁=>Ydc T d sc ρ X r (fun vs σ₂=>L (v::vs) σ₂) σ₁) σ):Ydc T d sc ρ X (e::r) L σ:=by
 intro env A fs F ι s hsc I
 refine spliced_cons (Zib (h env A fs F ι s hsc I) (fun x s₁ p=>?_) fun zz zz p=>p)
 obtain ⟨v,σ₁,ι₁,q,rv,rp,ex,g,o⟩:=p
 refine Zib (q env A fs F ι₁ s₁ hsc (I.ext ex rp g o)) (fun xs s₂ p=>?_) fun zz zz p=>p.trans ex
 obtain ⟨vs,σ₂,ι₂,q₂,rvs,rp₂,ex₂,g₂,o₂⟩:=p
 exact ⟨v::vs,σ₂,ι₂,q₂,VRels.cons_iff.mpr ⟨_,_,rfl,rv.mono ex₂.mono,rvs⟩,rp₂,ex.trans ex₂,g₂,o₂⟩
theorem Yai.tup {es:List Expr}{k:Nat}{pos:Pos}(h:Ydc T d sc ρ X es (fun vs σ₁=>vs.length≤sizeLine∧Q (.tup vs) σ₁) σ) (ns:Ybz es=true):Yai T d sc ρ X (.Tuple es k pos) Q σ:=by
 intro env A fs F ι s hsc I
 refine wpAny_Tuple ?_
 rw [Ybm ns]
 refine Zib (h env A fs F ι s hsc I) (fun xs s₁ p=>?_) fun zz zz p=>p
 obtain ⟨vs,σ₁,ι₁,⟨hl,q⟩,rv,rp,ex,g,o⟩:=p
 exact ⟨by rw [rv.length]; exact hl,((I.ext ex rp g o).st.newTup (items:=xs.toArray) (by simpa using rv) q (t:=s₁.toks)).trans ex⟩
theorem Yai.list {es:List Expr}{pos:Pos}(h:Ydc T d sc ρ X es (fun vs σ₁=>vs.length≤sizeLine∧Q (.ref σ₁.length) (σ₁++[.list vs])) σ) (ns:Ybz es=true):Yai T d sc ρ X (.List es pos) Q σ:=by
 intro env A fs F ι s hsc I
 refine wpAny_List ?_
 rw [Ybm ns]
 refine Zib (h env A fs F ι s hsc I) (fun xs s₁ p=>?_) fun zz zz p=>p
 obtain ⟨vs,σ₁,ι₁,⟨hl,q⟩,rv,rp,ex,g,o⟩:=p
 exact ⟨by rw [rv.length]; exact hl,((I.ext ex rp g o).st.newList (items:=xs.toArray) (by simpa using rv) q (t:=s₁.toks)).trans ex⟩
end
end
section
noncomputable def Ys8 (k:Int):Prop:=-(2 ^ 63)≤k∧k < 2 ^ 63
inductive Yhl (σ:Hp):V→V→V→Prop where
 | tup (vs:List V) (k:Int) (j:Nat) (v:V) (e1:seqIndex? k vs.length=some j) (e2:vs[j]?=some v) (e3:Ys8 k):Yhl σ (.tup vs) (.int k) v
 | list (l:Nat) (vs:List V) (k:Int) (j:Nat) (v:V) (e0:σ[l]?=some (.list vs)) (e1:seqIndex? k vs.length=some j) (e2:vs[j]?=some v) (e3:Ys8 k):Yhl σ (.ref l) (.int k) v
 | str (s:Str) (k:Int) (c:Nat) (e1:(seqIndex? k s.length).bind (s.cps[·]?)=some c) (e3:Ys8 k):Yhl σ (.str s) (.int k) (.str ⟨#[c]⟩)
 | scr (xs:List Int) (k i:Int) (h0:0≤k) (h1:k < 2 ^ 63) (h2:xs[k.toNat]?=some i):Yhl σ (.scr xs) (.int k) (.int i)
 | dict (l:Nat) (x:Str) (kvs:List (Str×V)) (v:V) (e0:σ[l]?=some (.sdict kvs)) (e1:(kvs.find? fun kv=>kv.1=x).map (·.2)=some v):Yhl σ (.ref l) (.str x) v
 | tdict (l:Nat) (k:Str×Int) (kvs:List ((Str×Int)×V)) (v:V) (e0:σ[l]?=some (.tdict kvs)) (e1:(kvs.find? fun kv=>kv.1=k).map (·.2)=some v):Yhl σ (.ref l) (.tup [.str k.1,.int k.2]) v
inductive Ydz (o i:V) (Q:QE) (σ:Hp):Prop where
 | mk (v:V) (r:Yhl σ o i v) (q:Q v σ):Ydz o i Q σ
noncomputable def Yes (e:Expr):Bool:=e.ctorIdx != 26
theorem Ygq {slice:Expr}{o i:Value}(h:Yes slice=true):subscripted slice false o i=operate [o,i] (getItem o i):=by
 cases slice <;> first | rfl | cases h
section
variable {T:Tp}{d:Nat}{sc:Scope}{ρ:Loc}{X:QX}{Q:QE}{σ:Hp}
theorem Yja {k:Int}{n j:Nat}(h:seqIndex? k n=some j):(0≤k∧j=k.toNat)∨(k < 0 ∧ -(n:Int)≤k∧j=(k+n).toNat):=by
 unfold seqIndex? at h
 by_cases hk:k < 0
 · right
   simp only [hk,if_true] at h
   split at h
   · rename_i hb
     simp only [Zob,decide_eq_true_eq] at hb
     simp only [Option.some.injEq] at h
     exact ⟨hk,by (clear h hk; lia),h.symm⟩
   · cases h
 · left
   simp only [hk,if_false] at h
   split at h
   · simp only [Option.some.injEq] at h; exact ⟨by (clear h; lia),h.symm⟩
   · cases h
noncomputable def Yg6 (T:Tp) (d:Nat) (X:QX) (o i:V) (Q:QE) (σ:Hp):Prop:=∀ A fs ι s x y,St T A fs d ι σ s→Yau T ι s.heap o x→Yau T ι s.heap i y→∃ ty id,s.TypeIs x ty∧typeLookup (.type ty) "__getitem__" = pure (some (.builtin id))∧wpAny (model T.prog T.w) A (getItem x y) (Ybf T [] Q ι s.heap) (Yaz T [] X ι s.heap) s
theorem Yd6 {T:Tp}{ι:Inj}{h:Heap}{vs:List V}{items:Array Value}(hv:VRels T ι h vs items.toList):items.size=vs.length:=Array.length_toList.symm.trans hv.length
theorem Yyi {k:Int}(h:Ys8 k):(decide (k < -(2 ^ 63)) || decide (2 ^ 63≤k))=false:=by
 rw [Zrc (Int.not_lt.mpr h.1),Zrc (Int.not_le.mpr h.2)]; rfl
theorem Yqw {vs:List V}{k:Int}{j:Nat}{v:V}(e1:seqIndex? k vs.length=some j) (e2:vs[j]?=some v) (e3:Ys8 k) (q:Q v σ):Yg6 T d X (.tup vs) (.int k) Q σ:=fun A fs ι s x y S rx ry=>by
 obtain ⟨a,items,n,rfl,ht,hv⟩:=rx.tup_inv
 obtain ⟨t,rfl⟩:=ry.int_inv
 obtain ⟨z,hz,rz⟩:=hv.get e2
 exact ⟨_,_,⟨_,ht,rfl⟩,PySem.F.slot_tuple_getitem.lookup,P.getItem_tuple ht e3.1 e3.2 ((Yd6 hv).symm▸e1) (Array.getElem?_toList▸hz) (S.post0 q rz)⟩
theorem Yod {l:Nat}{vs:List V}{k:Int}{j:Nat}{v:V}(e0:σ[l]?=some (.list vs)) (e1:seqIndex? k vs.length=some j) (e2:vs[j]?=some v) (e3:Ys8 k) (q:Q v σ):Yg6 T d X (.ref l) (.int k) Q σ:=fun A fs ι s x y S rx ry=>by
 obtain ⟨a,d',rfl,hl⟩:=rx.ref_inv
 obtain ⟨t,rfl⟩:=ry.int_inv
 refine ex2 (S.rep.list_at e0 hl) fun items n h9=>h9.elim fun hL hv=>?_
 obtain ⟨z,hz,rz⟩:=hv.get e2
 refine ⟨_,_,⟨_,hL,rfl⟩,PySem.F.slot_list_getitem.lookup,?_⟩
 rcases Yja e1 with ⟨k0,rfl⟩ | ⟨k0,k1,rfl⟩
 · exact wpAny_getItem_list hL.isList k0 e3.2 (Array.getElem?_toList▸hz) (S.post0 q rz)
 · rw [← Yd6 hv] at k1 hz
   exact wpAny_getItem_list_neg hL.isList k0 k1 e3.1 (Array.getElem?_toList▸hz) (S.post0 q rz)
theorem Ynv {l:Nat}{k:Str}{kvs:List (Str×V)}{v:V}(e0:σ[l]?=some (.sdict kvs)) (e1:(kvs.find? fun kv=>kv.1=k).map (·.2)=some v) (q:Q v σ):Yg6 T d X (.ref l) (.str k) Q σ:=fun A fs ι s x y S rx ry=>by
 obtain ⟨a,d',rfl,hl⟩:=rx.ref_inv
 obtain ⟨t,rfl⟩:=ry.str_inv
 refine (S.rep.sdict_at e0 hl).elim fun rvs h9=>Ygi h9 fun hd hv zz=>?_
 refine (hv.find.at e1).elim fun z h9=>h9.elim fun hm r=>?_
 exact ⟨_,_,hd.mapOf.typeIs,PySem.F.slot_dict_getitem.lookup,wpAny_getItem_of (knd:=strKind T.prog T.w) (k:=k) (by simp [PySem.strKind,Value.isStrOf]) hd.mapOf hm (S.post q r _)⟩
theorem Ymh {l:Nat}{k:Str×Int}{kvs:List ((Str×Int)×V)}{v:V}(e0:σ[l]?=some (.tdict kvs)) (e1:(kvs.find? fun kv=>kv.1=k).map (·.2)=some v) (q:Q v σ):Yg6 T d X (.ref l) (.tup [.str k.1,.int k.2]) Q σ:=fun A fs ι s x y S rx ry=>by
 obtain ⟨a,d',rfl,hl⟩:=rx.ref_inv
 obtain ⟨a',rfl,hk⟩:=ry.pair
 refine (S.rep.tdict_at e0 hl).elim fun xs h9=>Ygi h9 fun hd hv zz=>?_
 obtain ⟨z,hm,r⟩:=hv.find.at e1
 exact ⟨_,_,hd.typeIs,PySem.F.slot_dict_getitem.lookup,wpAny_getItem_heap (knd:=Ydu T.prog T.w) (k:=k) (show A.units+1 < cLine from Ykw (x:=0) S.aok.units (by decide)) hk hd hm (S.post q r _)⟩
theorem Yqq {xs:List Int}{k i:Int}(k0:0≤k) (k1:k < 2 ^ 63) (e1:xs[k.toNat]?=some i) (q:Q (.int i) σ):Yg6 T d X (.scr xs) (.int k) Q σ:=fun A fs ι s x y S rx ry=>by
 obtain ⟨a,ob,items,n,rfl,ho,hc,hd,l,hl,rfl⟩:=rx
 obtain ⟨t,rfl⟩:=ry.int_inv
 have ho':=S.rep.base _ _ ho
 rw [Zdb] at e1
 obtain ⟨p,hp,rfl⟩:=Zpb.mp e1
 refine ⟨_,_,⟨_,ho',hc⟩,PySem.F.slot_list_getitem.lookup,wpAny_getItem_list (x:=.int p.1 p.2) ⟨_,ho',hc,n,hd⟩ k0 k1 ?_ (S.post0 q .int_mk)⟩
 rw [← Array.getElem?_toList,hl,Zdb,hp]; rfl
theorem Yhl.ok {o i v:V}(r:Yhl σ o i v):∀ {Q:QE},Q v σ→Yg6 T d X o i Q σ:=by
 induction r with
 | tup z1 z2 z3 z4 e1 e2 e3=>exact fun q=>Yqw e1 e2 e3 q
 | list z1 z2 z3 z4 z5 e0 e1 e2 e3=>exact fun q=>Yod e0 e1 e2 e3 q
 | str z1 z2 z3 e1 e3=>exact fun q A fs ι s x y S rx ry=>Zh rx fun zz h=>Zh ry fun zz h'=>h▸h'▸⟨"str",_,rfl,PySem.F.slot_str_getitem.lookup,PyProof.Rows.getItem_str (Yyi e3) e1 (S.post q .str_mk _)⟩
 | scr z1 z2 z3 h0 h1 h2=>exact fun q=>Yqq h0 h1 h2 q
 | dict z1 z2 z3 z4 e0 e1=>exact fun q=>Ynv e0 e1 q
 | tdict z1 z2 z3 z4 e0 e1=>exact fun q=>Ymh e0 e1 q
theorem Yv3 {o i:V}{value slice:Expr}(ns:Yes slice=true) (h:Ydz o i Q σ):Ybu T d X (subscriptTail value slice) o i Q σ:=fun A fs ι s x y S rx ry =>
 h.rec fun zz r q=>Zh (r.ok q A fs ι s x y S rx ry) fun zz h=>Zh h fun zz h=>tail_any h.1 h.2.1 h.2.2 (Ygq ns)
theorem Yai.item {value slice:Expr}{pos:Pos}(h:Yai T d sc ρ X value (fun o σ₁=>Yai T d sc ρ X slice (fun i σ₂=>Ydz o i Q σ₂) σ₁) σ) (ns:Yes slice=true):Yai T d sc ρ X (.Subscript value slice pos) Q σ :=
 fun zz zz zz zz zz zz hsc I=>Subscript_ (Yai.two (Yv3 ns) h hsc I)
noncomputable def Yay (vv:V):Bool:=vv.casesOn (false) (fun _=>false) (fun _=>false) (fun _=>false) (fun _=>false) (fun _=>false) (fun _=>false) (fun _ _=>false) (fun _=>true) (fun _=>true) (fun _=>false) (fun _=>false) (fun _=>false) (fun _ _=>false)
noncomputable def You (T:Tp) (f:V):Prop:=Yay f=true∨∀ v,(∃ x,f=.glob x∧T.g x=some v)∨(∃ c x,f=.mth c x∧T.m c x=some v)→PySem.W.keepIn T.K v=true
theorem Yi4 {f:V}{fv:Value}{ι:Inj}{h:Heap}{M:Model}(hk:You T f) (r:Yau T ι h f fv) (hc:Yay f=true∨(∃ x,f=.glob x)∨(∃ c x,f=.mth c x)) :
   ∀ h',T.K.In h'→∃ k,(k=Keeper.frame∨k=Keeper.machine∨k=Keeper.boundFrame)∧PySem.W.Looks M h' (keeperOf fv) k:=by
 intro h' X'
 have triv:(∀ a,fv≠.ref a)→∃ k,(k=Keeper.frame∨k=Keeper.machine∨k=Keeper.boundFrame)∧PySem.W.Looks M h' (keeperOf fv) k:=fun ne =>
   ⟨.machine,.inr (.inl rfl),PySem.W.Looks.of_pure (by cases fv <;> first | rfl | exact absurd rfl (ne _))⟩
 have key:PySem.W.keepIn T.K fv=true→∃ k,(k=Keeper.frame∨k=Keeper.machine∨k=Keeper.boundFrame)∧PySem.W.Looks M h' (keeperOf fv) k:=fun e=>PySem.W.keeps_K e h' X'
 rcases hc with hc | ⟨x,rfl⟩ | ⟨c,x,rfl⟩
 · cases f <;> first | (cases hc; done) | skip
   · subst r; exact triv fun a e=>by cases e
   · subst r; exact triv fun a e=>by cases e
 · rcases hk with hk | hk
   · cases hk
   · exact key (hk fv (.inl ⟨x,rfl,r⟩))
 · rcases hk with hk | hk
   · cases hk
   · exact key (hk fv (.inr ⟨c,x,rfl,r⟩))
theorem Yby {M:Model}{A:Around}{E:Value→Shared→Prop}{s:Shared}{f:Value}{env:Env}{es:List Expr}{Q:Args→Shared→Prop}
   (h:wpAny M A (spliced (es.map fun e=>(false,eval e env))) (fun vs s'=>Q ⟨vs,[]⟩ s') E s):wpAny M A (evalArgs f true (es.map fun e=>(false,eval e env)) []) Q E s:=by
 cases es with
 | nil =>
   unfold evalArgs
   show wpAny M A (spliced [] >>= _) Q E s
   refine Zhb (Zib h (fun vs s' h'=>?_) fun zz zz x=>x)
   refine wpAny_holding ?_
   exact Zhb (Zjb (Zhb (Zjb (Zjb h'))))
 | cons e r=>exact evalArgs_plain h
theorem Yai.call {x:Str}{np pos:Pos}{args:List Expr}(TO:Yag T) (ns:Ybz args=true)
   (h:Yai T d sc ρ X (.Name x np) (fun f σ₁=>(Yay f=true∨(∃ x,f=.glob x)∨(∃ c x,f=.mth c x))∧You T f∧Ydc T d sc ρ X args (fun vs σ₂=>Yaa T d X f vs Q σ₂) σ₁) σ) :
   Yai T d sc ρ X (.Call (.Name x np) args [] pos) Q σ:=by
 intro env A fs F ι s hsc I
 rw [arm_eval_Call_Name']
 refine Zhb (Zib (h env A fs F ι s hsc I) (fun fv s₁ p=>?_) fun zz zz p=>p)
 obtain ⟨f,σ₁,ι₁,⟨hc,hk,q⟩,rv,rp,ex,g,o⟩:=p
 have I₁:=I.ext ex rp g o
 rw [Ybm ns]
 refine PySem.W.callWith_of (P:=T.K.In) (by rw [show backToKw pos (keywordEach [] env)=[] from rfl]; simp) (Yi4 hk rv hc) (Yby (Zib (q env A fs F ι₁ s₁ hsc I₁) (fun xs s₂ p=>?_) fun zz zz p=>p.trans ex))
 obtain ⟨vs,σ₂,ι₂,q₂,rvs,rp₂,ex₂,g₂,o₂⟩:=p
 have I₂:=I₁.ext ex₂ rp₂ g₂ o₂
 refine ⟨TO.X0.keeps I₂.rep.base,?_⟩
 exact Zib (q₂ A fs ι₂ s₂ fv xs I₂.st (rv.mono ex₂.mono) rvs) (fun zz zz p=>p.trans (ex.trans ex₂)) fun zz zz p=>p.trans (ex.trans ex₂)
end
end
section
structure Ybr (S:List Addr) (lo:Nat) (ea:Addr) (h h':Heap):Prop where
 size:h.objs.size≤h'.objs.size
 cls:∀ a o,h.get? a=some o→∃ o',h'.get? a=some o'∧o'.cls=o.cls
 keep:∀ a o,h.get? a=some o→a≠ea→(a < lo∨o.cls≠.type "traceback")→a∉S→h'.get? a=some o
 frm:∀ a o,h.get? a=some o→a≠ea→(a < lo∨o.cls≠.type "traceback")→∃ sl,h'.get? a=some { o with slots:=sl }
theorem Ybr.refl {S lo ea}(h:Heap):Ybr S lo ea h h:=⟨Zl _,fun zz o e=>⟨o,e,rfl⟩,fun zz zz e zz zz zz=>e,fun zz o e zz zz=>⟨o.slots,e⟩⟩
theorem Ybr.trans {S lo ea}{h h₁ h₂:Heap}(x:Ybr S lo ea h h₁) (y:Ybr S lo ea h₁ h₂):Ybr S lo ea h h₂ where
 size:=Za x.size y.size
 cls:=fun a o e=>(by obtain ⟨o₁,e₁,c₁⟩:=x.cls a o e; obtain ⟨o₂,e₂,c₂⟩:=y.cls a o₁ e₁; exact ⟨o₂,e₂,c₂.trans c₁⟩)
 keep:=fun a o e n c s=>y.keep a o (x.keep a o e n c s) n c s
 frm:=fun a o e n c=>(by obtain ⟨_,e₁⟩:=x.frm a o e n c; obtain ⟨sl,e₂⟩:=y.frm a _ e₁ n c; exact ⟨sl,e₂⟩)
theorem Ybr.of_slots {S lo ea}{h h':Heap}(x:Heap.SlotsOnly S h h'):Ybr S lo ea h h' where
 size:=Zr x.1.symm
 cls:=fun a o e=>(by obtain ⟨_,e₁⟩:=x.2.2 a o e; exact ⟨_,e₁,rfl⟩)
 keep:=fun a o e zz zz s=>(x.2.1 a s).trans e
 frm:=fun a o e zz zz=>x.2.2 a o e
theorem Ybr.of_push {S lo ea}(h:Heap) (o:Obj):Ybr S lo ea h (h.push o) :=
 ⟨by rw [Zqb]; exact Zq (Zs h.objs.size),fun zz o e=>⟨o,Zx _ e,rfl⟩,fun zz zz e zz zz zz=>Zx _ e,fun zz o e zz zz=>⟨o.slots,Zx _ e⟩⟩
theorem Ybr.of_set {S}{lo:Nat}{ea:Addr}{h:Heap}{a:Addr}{o:Obj}{vs:Array Value}(ho:h.get? a=some o) (hd:o.data=.fields vs) (f:Array Value→Array Value) (ha:a=ea∨(lo≤a∧o.cls=.type "traceback")) :
   Ybr S lo ea h (h.update a (Obj.mapFields f)):=by
 have hself:=Heap.get?_update_self (Obj.mapFields f) ho (Obj.isFreed_of_fields (Obj.data_mapFields hd f))
 have ne:∀ b x,h.get? b=some x→b≠ea→(b < lo∨x.cls≠.type "traceback")→b≠a:=fun b x hb n c q=>by
   subst q
   rcases ha with ha | ⟨ha,hc⟩
   · exact n ha
   · rw [ho] at hb; cases hb
     rcases c with c | c
     · exact absurd c (Zo.mpr ha)
     · exact c hc
 refine ⟨Zr (Heap.size_after_update ..).symm,fun b x hb=>?_,fun b x hb n c zz=>?_,fun b x hb n c=>⟨x.slots,?_⟩⟩
 · by_cases q:b=a
   · subst q; rw [ho] at hb; cases hb; exact ⟨_,hself,Obj.cls_mapFields _ _⟩
   · exact ⟨x,(Heap.get?_update_other h _ (Ne.symm q)).trans hb,rfl⟩
 · exact (Heap.get?_update_other h _ (Ne.symm (ne b x hb n c))).trans hb
 · exact (Heap.get?_update_other h _ (Ne.symm (ne b x hb n c))).trans hb
noncomputable def frs (fs:List Env):List Addr:=fs.filterMap (·.frame)
section
variable {T:Tp}{A:Around}{fs:List Env}{d:Nat}{ι:Inj}{σ:Hp}{s:Shared}{F:List Addr}{env:Env}{ρ:Loc}{lo:Nat}{ea:Addr}{c:Str}
theorem AOk.mem {h:Heap}(x:AOk T A fs d ι h) {a:Addr}(ha:a∈frs fs):a∉own ι∧T.b0.objs.size≤a∧∃ o es ep,h.get? a=some o∧o.cls=.type "frame" ∧ o.data=.dict es ep:=by
 refine (List.mem_filterMap.mp ha).elim fun e h9=>h9.elim fun he hf=>?_
 obtain ⟨zz,L,o,es,ep,f,n,b,g,c,dd⟩:=x.funs e he
 rw [hf] at f; cases f
 exact ⟨n,b,o,es,ep,g,c,dd⟩
theorem Rep.own_cls {h:Heap}(r:Rep T ι σ h) {a:Addr}(ha:a∈own ι) {o:Obj}(ho:h.get? a=some o):o.cls≠.type "traceback" ∧ o.cls≠.type "frame":=by
 obtain ⟨p,hp,e⟩:=Yck.mp ha
 obtain ⟨l,hl,rfl⟩:=List.getElem_of_mem hp
 have hl':l < σ.length:=r.len▸hl
 refine ((r.objs l σ[l] ι[l] (Zp hl') (Zp hl)).cls e).elim fun o' h9=>h9.elim fun ho' hc=>?_
 rw [ho] at ho'
 rw [Yad ho']
 rcases hc with ⟨C,hc⟩ | hc | hc <;> rw [hc]
 · exact ⟨nofun,nofun⟩
 · exact ⟨fun q=>absurd (Value.type.inj q) (by decide),fun q=>absurd (Value.type.inj q) (by decide)⟩
 · exact ⟨fun q=>absurd (Value.type.inj q) (by decide),fun q=>absurd (Value.type.inj q) (by decide)⟩
theorem Ybr.mono {S:List Addr}{h h':Heap}(t:Ybr S lo ea h h') (hS:∀ a∈S,∃ o,h.get? a=some o∧o.cls=.type "frame") (he:∃ o C,h.get? ea=some o∧o.cls=.ref C) (ι:Inj):Yed ι h ι h' where
 pre:=⟨[],by simp⟩
 cls:=fun a o e zz=>t.cls a o e
 frz:=fun a o ho hf=>t.keep a o ho (fun q=>by
     obtain ⟨o',C,g,gc⟩:=he
     subst q; rw [ho] at g; cases g
     simp [Ya1,gc] at hf) (.inr fun q=>by simp [Ya1,q] at hf) fun q=>by
     obtain ⟨o',g,gc⟩:=hS a q
     rw [ho] at g; cases g
     simp [Ya1,gc] at hf
theorem Rep.touch {S:List Addr}{h h':Heap}(r:Rep T ι σ h) (t:Ybr S lo ea h h') (hS:∀ a∈S,a∉own ι∧T.b0.objs.size≤a∧∃ o,h.get? a=some o∧o.cls=.type "frame") (he:∃ o C,h.get? ea=some o∧o.cls=.ref C)
   (hn:ea∉own ι) (hl:T.b0.objs.size≤lo) (hle:lo≤ea):Rep T ι σ h' :=
 r.keeps (t.mono (fun a ha=>(hS a ha).2.2) he ι) t.size
   (fun a o e=>t.keep a o (r.base a o e) (fun q=>by
     have:=Zu e; rw [q] at this
     exact absurd (Za hl hle) (Nat.not_le.mpr this)) (.inl (Zz (Zu e) hl)) fun q=>absurd (hS a q).2.1 (Nat.not_le.mpr (Zu e)))
   fun a ha o e=>t.keep a o e (fun q=>hn (q▸ha)) (.inr (r.own_cls ha e).1) fun q=>(hS a q).1 ha
theorem Ext.touch {S:List Addr}{ι':Inj}{h₀ h h':Heap}(x:Ext T F ι h₀ ι' h) (t:Ybr S h₀.objs.size ea h h') (hS:∀ a∈S,∃ o,h.get? a=some o∧o.cls=.type "frame") (hle:h₀.objs.size≤ea):Ext T F ι h₀ ι' h' where
 pre:=x.pre
 size:=Za x.size t.size
 cls:=fun a o e i=>(by obtain ⟨o₁,e₁,c₁⟩:=x.cls a o e i; obtain ⟨o₂,e₂,c₂⟩:=t.cls a o₁ e₁; exact ⟨o₂,e₂,c₂.trans c₁⟩)
 frz:=fun a o e f=>t.keep a o (x.frz a o e f) (fun q=>absurd (Zu e) (Zo.mpr (q▸hle))) (.inl (Zu e)) fun q=>by
   obtain ⟨o',g,gc⟩:=hS a q
   rw [x.frz a o e f] at g; cases g
   simp [Ya1,gc] at f
 keep:=fun a o e n f c=>t.keep a o (x.keep a o e n f c) (fun q=>absurd (Zu e) (Zo.mpr (q▸hle))) (.inl (Zu e)) fun q=>by
   obtain ⟨o',g,gc⟩:=hS a q
   rw [x.keep a o e n f c] at g; cases g
   exact c gc
 frm:=fun a o e n f=>by
   obtain ⟨sl,e₁⟩:=x.frm a o e n f
   obtain ⟨sl',e₂⟩:=t.frm a _ e₁ (fun q=>absurd (Zu e) (Zo.mpr (q▸hle))) (.inl (Zu e))
   exact ⟨sl',e₂⟩
theorem AOk.touch {S:List Addr}{h h':Heap}(x:AOk T A fs d ι h) (hT:T.hd=false) (t:Ybr S lo ea h h') (he:∃ o C,h.get? ea=some o∧o.cls=.ref C):AOk T A fs d ι h' :=
 x.keeps (fun zz n zz=>n) (fun a o g zz c=>t.frm a o g (fun q=>Zh he fun zz he=>Zh he fun zz he=>Yoy he.2 (Yad ((q▸g).symm.trans he.1)▸c)) (.inr fun q=>absurd (Value.type.inj (c.symm.trans q)) (by decide))) (.none (x.hd hT))
theorem Frm.touch {S:List Addr}{h h':Heap}(x:Frm T env F ρ ι h) (t:Ybr S lo ea h h') (he:∃ o C,h.get? ea=some o∧o.cls=.ref C) (hS:∀ a∈S,∃ o,h.get? a=some o∧o.cls=.type "frame"):Frm T env F ρ ι h' :=
 x.keeps (t.mono hS he ι) (fun zz n zz=>n) (fun a o g zz zz=>t.cls a o g) fun a o g zz hc zz=>t.frm a o g (fun q=>Zh he fun zz he=>Zh he fun zz he=>Ynd hc.itr ((Yad (he.1.symm.trans (q▸g)))▸he.2)) (.inr hc.tb)
theorem Fly.hd {h:Heap}(x:Fly T lo ea c h):T.hd=false:=by obtain ⟨zz,zz,zz,zz,a,zz⟩:=x; exact a.1
theorem Fly.there {h:Heap}(x:Fly T lo ea c h):∃ o C vs,h.get? ea=some o∧o.cls=.ref C∧o.data=.fields vs:=by obtain ⟨C,oe,vs,zz,zz,zz,d,e,f,zz⟩:=x; exact ⟨oe,C,vs,d,e,f⟩
theorem Inv.touch {h':Heap}(I:Inv T A fs d env F ρ ι σ s) (t:Ybr (frs fs) lo ea s.heap h') (f:Fly T lo ea c s.heap) (hn:ea∉own ι) (hl:T.b0.objs.size≤lo) (hle:lo≤ea):Inv T A fs d env F ρ ι σ { s with heap:=h' }:=by
 have hS:∀ a∈frs fs,a∉own ι∧T.b0.objs.size≤a∧∃ o,s.heap.get? a=some o∧o.cls=.type "frame":=fun a ha=>(by obtain ⟨a1,a2,o,_,_,a3,a4,_⟩:=I.aok.mem ha; exact ⟨a1,a2,o,a3,a4⟩)
 refine ex3 f.there fun o C vs h9=>Ygi h9 fun e1 e2 e3=>?_
 exact ⟨I.rep.touch t hS ⟨o,C,e1,e2⟩ hn hl hle,I.aok.touch f.hd t ⟨o,C,e1,e2⟩,I.frm.touch t ⟨o,C,e1,e2⟩ fun a ha=>(hS a ha).2.2,I.top,I.gens,I.os⟩
theorem AOk.funFrames {h:Heap}(x:AOk T A fs d ι h):h.FunFrames T.b0 fs:=by
 have:∀ l:List Env,(∀ e∈l,e∈fs)→h.FunFrames T.b0 l:=by
   intro l
   induction l with
   | nil=>intro zz; trivial
   | cons e r ih =>
     intro hl
     obtain ⟨k,L,o,es,ep,f,n,b,g,c,dd⟩:=x.funs e (hl e Zt)
     exact ⟨by rw [k]; decide,⟨L,o,f,Heap.get?_none_of_le b,g,fun vs q=>by rw [dd] at q; cases q⟩,ih fun y hy=>hl y (Zd _ hy)⟩
 exact this fs fun zz h=>h
theorem Yj5 {M:Model}{E:Value→Shared→Prop}{e:Env}{r:List Env}{L:Addr}{base:Heap}{Q:Value→Shared→Prop}(hfr:A.frames=some (e::r)) (hl:s.heap.FunFrames base (e::r)) (hf:e.frame=some L) (hv:env.frame=some L)
   (h:∀ h',Heap.SlotsOnly (frs (e::r)) s.heap h'→Q (.ref L) { s with heap:=h' }):wpAny M A (PySem.frameOf env) Q E s:=by
 unfold PySem.frameOf
 refine Zhb (wpAny_frameEnvs hfr ?_)
 have hdw:((e::r).dropWhile fun x=>x.frame != env.frame)=e::r:=by simp [List.dropWhile,hf,hv]
 rw [hdw]
 unfold frameObject
 refine Zhb (Zhb (wpAny_readyFrames_fun hl fun h₁ hs₁=>Zjb ?_))
 rw [hf]
 exact Zjb (h h₁ hs₁)
theorem Ysd {M:Model}{E:Value→Shared→Prop}{e:Env}{r:List Env}{L:Addr}{base:Heap}{head:Value}{hadNext:Bool}{Q:Unit→Shared→Prop}{oe:Obj}{vs:Array Value}(hfr:A.frames=some (e::r)) (hl:s.heap.FunFrames base (e::r))
   (hf:e.frame=some L) (hv:env.frame=some L) (he:s.heap.get? ea=some oe) (hd:oe.data=.fields vs) (hsz:1 < vs.size) (hlo:lo≤s.heap.objs.size)
   (h:∀ h' tb,Ybr (frs (e::r)) lo ea s.heap h'→(∃ oe',h'.get? ea=some oe'∧oe'.cls=oe.cls∧oe'.data=.fields (vs.setIfInBounds 1 (.ref tb)))→Yvp lo ea h' (.ref tb)→Q () { s with heap:=h' }) :
   wpAny M A (do let a ← PySem.frameOf env; let pl ← entryPlaceOf L hadNext; let b ← EntryCells.newEntry head a .none (rawInt L) .none pl; setField (.ref ea) 1 b) Q E s:=by
 have hene:ea∉frs (e::r):=fun hm=>by
   obtain ⟨zz,o,ho,hnf⟩:=hl.mem hm
   rw [he] at ho; injection ho with ho; subst ho; exact hnf vs hd
 refine Zhb (Yj5 hfr hl hf hv fun h₁ hs₁=>?_)
 refine Zhb (wpAny_entryPlaceOf fun pl hpl=>?_)
 unfold EntryCells.newEntry newFields
 refine Zhb (wpAny_newObj_type ?_ (hpl.sizeOk5 _ _ _ _ _))
 have he₁:h₁.get? ea=some oe:=(hs₁.2.1 ea hene).trans he
 have he₂:=Zx (h:=h₁) { cls:=.type "traceback",dict:=none,data:=.fields ([head,.ref L,.none,rawInt L,.none]++(if pl.isEmpty then List.replicate 6 Value.none else pl)).toArray } he₁
 refine wpAny_setField he₂ hd hsz ?_
 have hTe:h₁.objs.size≠ea:=Zoc (Zu he₁)
 have hd₃:=Obj.data_mapFields hd (·.setIfInBounds 1 (Value.ref h₁.objs.size))
 have he₃:=Heap.get?_update_self (Obj.mapFields (·.setIfInBounds 1 (Value.ref h₁.objs.size))) he₂ (Obj.isFreed_of_fields hd₃)
 have hT₃:=(Heap.get?_update_other (h₁.push { cls:=.type "traceback",dict:=none,data:=.fields ([head,.ref L,.none,rawInt L,.none]++(if pl.isEmpty then List.replicate 6 Value.none else pl)).toArray })
   (Obj.mapFields (·.setIfInBounds 1 (Value.ref h₁.objs.size))) (Ne.symm hTe)).trans (Zsc h₁ rfl)
 refine h _ h₁.objs.size (((Ybr.of_slots hs₁).trans (.of_push ..)).trans (.of_set he₂ hd _ (.inl rfl))) ⟨_,he₃,Obj.cls_mapFields _ _,hd₃⟩ ⟨_,_,_,rfl,?_,hTe,hT₃,rfl,rfl,?_⟩
 · rw [hs₁.1]; exact hlo
 · simp only [List.size_toArray,Zf,List.length_cons,List.length_nil]; (clear hsz hlo h he₂ hTe hd₃ he₃ hT₃; lia)
theorem Ypc {M:Model}{E:Value→Shared→Prop}{Q:Unit→Shared→Prop}(I:Inv T A fs d env F ρ ι σ s) (f:Fly T lo ea c s.heap) (hlo:lo≤s.heap.objs.size)
   (h:∀ h',Ybr (frs fs) lo ea s.heap h'→Yob T lo ea c h'→Q () { s with heap:=h' }):wpAny M A (noteFrame (.ref ea) env) Q E s:=by
 obtain ⟨e,r,L,rfl,hf,hv⟩:=I.top
 obtain ⟨C,oe,vs,v,f1,f2,f3,f4,f5,f6,f7,f8,f9⟩:=f
 unfold noteFrame
 simp only [hv]
 refine Zhb (wpAny_field f3 f5 f8 ?_)
 have fin:∀ (s':Shared) (head:Value) (hn:Bool),s'.heap.get? ea=some oe→s'.heap.FunFrames T.b0 (e::r)→lo≤s'.heap.objs.size→(∀ h',Ybr (frs (e::r)) lo ea s'.heap h'→Yob T lo ea c h'→Q () { s' with heap:=h' }) →
     wpAny M A (do let a ← PySem.frameOf env; let pl ← entryPlaceOf L hn; let b ← EntryCells.newEntry head a .none (rawInt L) .none pl; setField (.ref ea) 1 b) Q E s':=fun s' head hn g1 g2 g3 k =>
   Ysd I.aok.frames g2 hf hv g1 f5 (by (clear f7 f8 g3 f2 hlo; lia)) g3 fun h' tb t o tb'=>k h' t (by
     refine o.elim fun oe' h9=>Ygi h9 fun o1 o2 o3=>?_
     refine ⟨C,oe',_,.ref tb,f1,f2,o1,o2.trans f4,o3,by simpa using f6,?_,?_,tb'⟩
     · rw [Array.getElem?_setIfInBounds_ne (by decide)]; exact f7
     · rw [Array.getElem?_setIfInBounds_self_of_lt (by (clear f7 f8 g3 o3 f2 hlo; lia))])
 rcases f9 with rfl | ⟨tb,ot,ts,rfl,t2,t3,t4,t5,t6,t7⟩
 · rw [if_neg (by decide)]
   exact fin s _ _ f3 I.aok.funFrames hlo h
 · rw [if_pos (show (Value.ref tb != Value.none)=true from by simp)]
   have t8:ts[3]?=some ts[3]:=Array.getElem?_eq_getElem t7
   refine Zhb (wpAny_field t4 t6 t8 ?_)
   by_cases q:(ts[3] == rawInt L)=true
   · rw [if_pos q]
     exact Zjb (h _ (.refl _) ⟨C,oe,vs,_,f1,f2,f3,f4,f5,f6,f7,f8,⟨tb,ot,ts,rfl,t2,t3,t4,t5,t6,t7⟩⟩)
   · rw [if_neg q]
     refine Zhb (wpAny_setField t4 t6 t7 ?_)
     have other:∀ b,b≠tb→(s.heap.update tb (Obj.mapFields (·.setIfInBounds 3 Value.none))).get? b=s.heap.get? b:=fun b hb=>Heap.get?_update_other _ _ (Ne.symm hb)
     have tt:Ybr (frs (e::r)) lo ea s.heap (s.heap.update tb (Obj.mapFields (·.setIfInBounds 3 Value.none))):=.of_set t4 t6 _ (.inr ⟨t2,t5⟩)
     refine fin _ _ _ ((other ea (Ne.symm t3)).trans f3) (I.aok.touch f1.1 tt ⟨oe,C,f3,f4⟩).funFrames ?_ fun h' t k=>h h' (tt.trans t) k
     rw [Heap.size_after_update]; exact hlo
theorem Ydh {M:Model}{E:Value→Shared→Prop}{Q:Unit→Shared→Prop}{fr:Option Addr}{S:List Addr}(f:Yob T lo ea c s.heap)
   (h:∀ h',Ybr S lo ea s.heap h'→Yob T lo ea c h'→Q () { s with heap:=h' }):wpAny M A (setFlight (.ref ea) fr) Q E s:=by
 obtain ⟨C,oe,vs,v,f1,f2,f3,f4,f5,f6,f7,f8,tb,ot,ts,rfl,t2,t3,t4,t5,t6,t7⟩:=f
 unfold setFlight
 refine Zhb (wpAny_field f3 f5 f8 ?_)
 rw [if_pos (show (Value.ref tb != Value.none)=true from by simp)]
 refine wpAny_setField t4 t6 t7 (h _ (.of_set t4 t6 _ (.inr ⟨t2,t5⟩)) ⟨C,oe,vs,_,f1,f2,(Heap.get?_update_other _ _ t3).trans f3,f4,f5,f6,f7,f8,tb,_,_,rfl,t2,t3,Heap.get?_update_self _ t4 (Obj.isFreed_of_fields (Obj.data_mapFields t6 _)),(Obj.cls_mapFields _ _).trans t5,Obj.data_mapFields t6 _,by simpa using t7⟩)
end
end
set_option genSizeOf false
section
set_option genCtorIdx false in
inductive Fl where
 | next | brk | cont
 | ret (v:V)
inductive Yid (T:Tp) (ι:Inj) (h:Heap):Fl→Flow→Prop where
 | next:Yid T ι h .next .next
 | brk:Yid T ι h .brk .brk
 | cont:Yid T ι h .cont .cont
 | ret {v:V}{x:Value}(r:Yau T ι h v x):Yid T ι h (.ret v) (.ret x)
theorem Yid.imp {T T':Tp}{ι ι':Inj}{h h':Heap}{fl:Fl}{f:Flow}(r:Yid T ι h fl f) (k:∀ v x,Yau T ι h v x→Yau T' ι' h' v x):Yid T' ι' h' fl f:=r.rec .next .brk .cont fun r=>.ret (k _ _ r)
noncomputable abbrev QS:=Fl→Loc→Hp→Prop
noncomputable abbrev XS:=Str→Hp→Prop
inductive Ye2 (T:Tp) (A:Around) (fs:List Env) (d:Nat) (env:Env) (F:List Addr) (Q:QS) (ι:Inj) (h:Heap) (f:Flow) (s':Shared):Prop where
 | mk (fl:Fl) (ρ':Loc) (σ':Hp) (ι':Inj) (h0:Q fl ρ' σ') (h1:Yid T ι' s'.heap fl f) (h2:Inv T A fs d env F ρ' ι' σ' s') (h3:Ext T F ι h ι' s'.heap):Ye2 T A fs d env F Q ι h f s'
inductive Ybk (T:Tp) (A:Around) (fs:List Env) (d:Nat) (env:Env) (F:List Addr) (X:XS) (ι:Inj) (h:Heap) (x:Value) (s':Shared):Prop where
 | mk (ea:Addr) (c:Str) (ρ':Loc) (σ':Hp) (ι':Inj) (h0:x=.ref ea) (h1:X c σ') (h2:Fly T h.objs.size ea c s'.heap) (h3:ea∉own ι') (h4:Inv T A fs d env F ρ' ι' σ' s') (h5:Ext T F ι h ι' s'.heap):Ybk T A fs d env F X ι h x s'
noncomputable def Yda (T:Tp) (d:Nat) (sc:Scope) (ρ:Loc) (X:XS) (ss:List Stmt) (Q:QS) (σ:Hp):Prop :=
 ∀ env A fs F ι s,env.scope=sc→Inv T A fs d env F ρ ι σ s→wpAny (model T.prog T.w) A (execs ss env) (Ye2 T A fs d env F Q ι s.heap) (Ybk T A fs d env F X ι s.heap) s
noncomputable def Ybe (T:Tp) (d:Nat) (sc:Scope) (ρ:Loc) (X:XS) (st:Stmt) (Q:QS) (σ:Hp):Prop :=
 ∀ env A fs F ι s,env.scope=sc→Inv T A fs d env F ρ ι σ s→wpAny (model T.prog T.w) A (exec st env) (Ye2 T A fs d env F Q ι s.heap) (Ybk T A fs d env F X ι s.heap) s
section
variable {T:Tp}{A:Around}{fs:List Env}{d:Nat}{env:Env}{F:List Addr}{ι ι₁:Inj}{h h₁:Heap}{s s':Shared}{ρ:Loc}{σ:Hp}{sc:Scope}
theorem Ye2.trans {Q:QS}{f:Flow}(e:Ext T F ι h ι₁ h₁) (p:Ye2 T A fs d env F Q ι₁ h₁ f s'):Ye2 T A fs d env F Q ι h f s' :=
 by obtain ⟨fl,ρ',σ',ι',q,r,i,e'⟩:=p; exact ⟨fl,ρ',σ',ι',q,r,i,e.trans e'⟩
theorem Ybk.trans {X:XS}{x:Value}(e:Ext T F ι h ι₁ h₁) (p:Ybk T A fs d env F X ι₁ h₁ x s'):Ybk T A fs d env F X ι h x s' :=
 by obtain ⟨ea,c,ρ',σ',ι',a,b,f,n,i,e'⟩:=p; exact ⟨ea,c,ρ',σ',ι',a,b,f.lo e.size,n,i,e.trans e'⟩
theorem Ye2.mono {Q Q':QS}{f:Flow}(p:Ye2 T A fs d env F Q ι h f s') (k:∀ fl ρ σ,Q fl ρ σ→Q' fl ρ σ):Ye2 T A fs d env F Q' ι h f s' :=
 by obtain ⟨fl,ρ',σ',ι',q,r,i,e'⟩:=p; exact ⟨fl,ρ',σ',ι',k _ _ _ q,r,i,e'⟩
theorem Ybk.mono {X X':XS}{x:Value}(p:Ybk T A fs d env F X ι h x s') (k:∀ c σ,X c σ→X' c σ):Ybk T A fs d env F X' ι h x s' :=
 by obtain ⟨ea,c,ρ',σ',ι',a,b,f,n,i,e'⟩:=p; exact ⟨ea,c,ρ',σ',ι',a,k _ _ b,f,n,i,e'⟩
theorem Ext.up (e:Ext T [] ι h ι₁ h₁):Ext T F ι h ι₁ h₁:=e.weaken fun a ha=>by simp at ha
theorem Yaz.sx {X:QX}{XX:XS}{x:Value}(I:Inv T A fs d env F ρ ι σ s) (p:Yaz T [] X ι s.heap x s') (k:∀ c σ,X c σ→XX c σ):Ybk T A fs d env F XX ι s.heap x s' :=
 by obtain ⟨ea,c,σ',ι',a,b,f,n,rp,e',g,o⟩:=p; exact ⟨ea,c,ρ,σ',ι',a,k _ _ b,f,n,I.ext e' rp g o,e'.up⟩
theorem Ybe.mono {X X':XS}{st:Stmt}{Q Q':QS}(x:Ybe T d sc ρ X st Q σ) (k:∀ fl ρ σ,Q fl ρ σ→Q' fl ρ σ) (kx:∀ c σ,X c σ→X' c σ):Ybe T d sc ρ X' st Q' σ :=
 fun env A fs F ι s hsc I=>Zib (x env A fs F ι s hsc I) (fun zz zz p=>p.mono k) fun zz zz p=>p.mono kx
theorem Yda.mono {X X':XS}{st:List Stmt}{Q Q':QS}(x:Yda T d sc ρ X st Q σ) (k:∀ fl ρ σ,Q fl ρ σ→Q' fl ρ σ) (kx:∀ c σ,X c σ→X' c σ):Yda T d sc ρ X' st Q' σ :=
 fun env A fs F ι s hsc I=>Zib (x env A fs F ι s hsc I) (fun zz zz p=>p.mono k) fun zz zz p=>p.mono kx
theorem Yda.nil {X:XS}{Q:QS}(q:Q .next ρ σ):Yda T d sc ρ X [] Q σ:=fun env A fs F ι s zz I=>wpAny_execs_nil ⟨.next,ρ,σ,ι,q,.next,I,.refl ..⟩
theorem Yda.cons {X:XS}{Q:QS}{st:Stmt}{r:List Stmt}(x:Ybe T d sc ρ X st (fun fl ρ' σ'=>match fl with | .next=>Yda T d sc ρ' X r Q σ' | fl=>Q fl ρ' σ') σ):Yda T d sc ρ X (st::r) Q σ:=by
 intro env A fs F ι s hsc I
 refine wpAny_execs_cons (Zib (x env A fs F ι s hsc I) (fun f s₁ p=>?_) fun zz zz p=>p)
 obtain ⟨fl,ρ',σ',ι',q,r,i,e⟩:=p
 induction r with
 | next=>exact Zib (q env A fs F ι' s₁ hsc i) (fun zz zz p=>p.trans e) fun zz zz p=>p.trans e
 | brk=>exact ⟨_,ρ',σ',ι',q,.brk,i,e⟩
 | cont=>exact ⟨_,ρ',σ',ι',q,.cont,i,e⟩
 | ret r=>exact ⟨_,ρ',σ',ι',q,.ret r,i,e⟩
theorem Ybe.pass {X:XS}{Q:QS}{pos}(q:Q .next ρ σ):Ybe T d sc ρ X (.Pass pos) Q σ:=fun env A fs F ι s zz I=>wpAny_Pass ⟨.next,ρ,σ,ι,q,.next,I,.refl ..⟩
theorem Ybe.brk {X:XS}{Q:QS}{pos}(q:Q .brk ρ σ):Ybe T d sc ρ X (.Break pos) Q σ:=fun env A fs F ι s zz I=>wpAny_Break ⟨.brk,ρ,σ,ι,q,.brk,I,.refl ..⟩
theorem Ybe.cont {X:XS}{Q:QS}{pos}(q:Q .cont ρ σ):Ybe T d sc ρ X (.Continue pos) Q σ:=fun env A fs F ι s zz I=>wpAny_Continue ⟨.cont,ρ,σ,ι,q,.cont,I,.refl ..⟩
theorem Ybe.retNone {X:XS}{Q:QS}{pos}(q:Q (.ret .none) ρ σ):Ybe T d sc ρ X (.Return none pos) Q σ:=fun env A fs F ι s zz I=>wpAny_Return_none ⟨.ret .none,ρ,σ,ι,q,.ret (Yau.none_mk (T:=T) (ι:=ι) (h:=s.heap)),I,.refl ..⟩
theorem Ybe.ret {X:XS}{Q:QS}{e:Expr}{pos}(q:Yai T d sc ρ X e (fun v σ'=>Q (.ret v) ρ σ') σ):Ybe T d sc ρ X (.Return (some e) pos) Q σ:=by
 intro env A fs F ι s hsc I
 refine wpAny_Return_some (Zib (q env A fs F ι s hsc I) (fun x s₁ p=>?_) fun zz zz p=>p.sx I fun zz zz k=>k)
 obtain ⟨v,σ₁,ι₁,q,rv,rp,ex,g,o⟩:=p
 exact ⟨.ret v,ρ,σ₁,ι₁,q,.ret rv,I.ext ex rp g o,ex.up⟩
noncomputable def Yfi (e:Expr):Bool:=!(Nat.beq e.ctorIdx 8 || Nat.beq e.ctorIdx 9 || Nat.beq e.ctorIdx 10)
theorem Yfr {e:Expr}{t:Option Expr}{l:Nat}(h:Yfi e=true):swapsWith e t l env=pure false:=by
 cases e <;> first | rfl | exact (Zv h).elim
theorem Inv.inter (I:Inv T A fs d env F ρ ι σ s):interactive env=false:=by simp [interactive,I.frm.kind]
theorem Ybe.expr {X:XS}{Q:QS}{e:Expr}{pos}(q:Yai T d sc ρ X e (fun zz σ'=>Q .next ρ σ') σ) (hc:Yfi e=true):Ybe T d sc ρ X (.Expr e pos) Q σ:=by
 intro env A fs F ι s hsc I
 refine wpAny_Expr_any (Zib (q env A fs F ι s hsc I) (fun x s₁ p=>?_) fun zz zz p=>p.sx I fun zz zz k=>k) I.inter (Yfr hc)
 obtain ⟨v,σ₁,ι₁,q,rv,rp,ex,g,o⟩:=p
 exact ⟨.next,ρ,σ₁,ι₁,q,.next,I.ext ex rp g o,ex.up⟩
theorem Ybe.ite {X:XS}{Q:QS}{e:Expr}{b o:List Stmt}{pos}(q:Yd1 T d sc ρ X e (fun t σ'=>if t then Yda T d sc ρ X b Q σ' else Yda T d sc ρ X o Q σ') σ):Ybe T d sc ρ X (.If e b o pos) Q σ:=by
 intro env A fs F ι s hsc I
 refine wpAny_If (Zib (q env A fs F ι s hsc I) (fun t s₁ p=>?_) fun zz zz p=>p.sx I fun zz zz k=>k)
 obtain ⟨σ₁,ι₁,q,rp,ex,g,o⟩:=p
 have I₁:=I.ext ex rp g o
 cases t
 · exact Zib (q env A fs F ι₁ s₁ hsc I₁) (fun zz zz p=>p.trans ex.up) fun zz zz p=>p.trans ex.up
 · exact Zib (q env A fs F ι₁ s₁ hsc I₁) (fun zz zz p=>p.trans ex.up) fun zz zz p=>p.trans ex.up
noncomputable def Yix (h h':Heap):Prop:=∀ a o es ep,h.get? a=some o→o.data=.dict es ep→∃ o' es' ep',h'.get? a=some o'∧o'.data=.dict es' ep'
noncomputable def Yar (sc:Scope) (x:Str):Bool:=match sc.names.lookup x with
 | some .local | some .cell=>true
 | z1=>false
theorem Yeb {sc:Scope}{x:Str}(h:Yar sc x=true):sc.names.lookup x=some .local∨sc.names.lookup x=some .cell:=by
 unfold Yar at h
 generalize sc.names.lookup x=o at h ⊢
 rcases o with zz | k
 · exact (Zv h).elim
 · cases k <;> first | exact .inl rfl | exact .inr rfl | exact (Zv h).elim
theorem Ylz {sc:Scope}{x:Str}(h:sc.names.lookup x=some .local∨sc.names.lookup x=some .cell):Yar sc x=true:=by
 unfold Yar; rcases h with h | h <;> rw [h]
theorem Yn6 {M:Model}{A:Around}{E:Value→Shared→Prop}{x:Str}{c:Addr}{o:Obj}{v₀:Option Value}{y:Value}{Q:Unit→Shared→Prop}(hk:env.scope.kind=.function) (hl:env.kindOf x=some .cell) (hc:env.cells.lookup x=some c)
   (ho:s.heap.get? c=some o) (hd:o.data=.cell v₀) (k:∀ h',h'.get? c=some { o with data:=.cell (some y) }→Heap.SameBut c s.heap h'→Q () { s with heap:=h' }):wpAny M A (storeName env x y) Q E s:=by
 unfold storeName
 rw [hl,hk]
 refine Zhb (wpAny_cellOf hc ?_)
 unfold cellSet
 refine Zhb (wpAny_load ho ?_)
 rw [hd]
 exact wpAny_update ho (k _ (Heap.get?_update_self _ ho rfl) (Heap.SameBut.update ..))
theorem Frm.at1 {a:Addr}{o:Obj}(H:Frm T env F ρ ι h) (ha:a∈F) (ho:h.get? a=some o):Ya1 o=false∧itr o=false:=(H.there a ha).at ho
structure Yqf (F:List Addr) (h h':Heap) (a:Addr) (o o':Obj):Prop where
 mem:a∈F
 get:h.get? a=some o
 get':h'.get? a=some o'
 cls:o'.cls=o.cls
 same:Heap.SameBut a h h'
section
variable {h':Heap}{a:Addr}{o o':Obj}
theorem Yqf.ext (x:Yqf F h h' a o o') (H:Frm T env F ρ ι h):Ext T F ι h ι h':=.of_sameBut x.same x.get x.get' x.cls (H.at1 x.mem x.get).1 (.inr x.mem)
theorem Yqf.rep (x:Yqf F h h' a o o') (R:Rep T ι σ h) (H:Frm T env F ρ ι h):Rep T ι σ h' :=
 R.keeps (x.ext H).mono (x.ext H).size (fun b z hz=>(x.same.2 b fun q=>absurd (Zu hz) (Zo.mpr (q▸(H.apart a x.mem).2))).trans (R.base b z hz)) fun b hb z hz=>(x.same.2 b fun q=>(H.apart a x.mem).1 (q▸hb)).trans hz
theorem Yqf.there (x:Yqf F h h' a o o') (H:Frm T env F ρ ι h):∀ b∈F,Yj9 h' b:=fun b hb =>
 if q:b=a then ⟨o',q▸x.get',(Yjf x.cls).trans (H.at1 x.mem x.get).1,(Ytp x.cls).trans (H.at1 x.mem x.get).2⟩ else (H.there b hb).rec fun z g1 g2 g3=>⟨z,(x.same.2 b q).trans g1,g2,g3⟩
theorem Yqf.stay (x:Yqf F h h' a o o') (hd:∀ es ep,o.data=.dict es ep→∃ es' ep',o'.data=.dict es' ep'):Yix h h':=fun b z es ep hz hzd =>
 if q:b=a then Zh (hd es ep (Zab (x.get.symm.trans (q▸hz))▸hzd)) fun es' g=>Zh g fun ep' g=>⟨o',es',ep',q▸x.get',g⟩ else ⟨z,es,ep,(x.same.2 b q).trans hz,hzd⟩
end
theorem Ytc {x:Str}{v:Option V}:upd ρ x v x=v:=if_pos rfl
theorem Yll {x z:Str}{v:Option V}(h:z≠x):upd ρ x v z=ρ z:=if_neg h
theorem Yc3.upd {x z:Str}{v:V}{y:Value}{m:Option Value}(r:Yau T ι h v y) (k:Yc3 T ι h (ρ z) m):Yc3 T ι h (Mine.upd ρ x (some v) z) (if z=x then some y else m) :=
 if q:z=x then by rw [q,Ytc,if_pos rfl]; exact .some r else by rw [Yll q,if_neg q]; exact k
theorem Frm.locTurn {h':Heap}{x:Str}{v:Option V}{c:String}{m m':Str→Option Value}(R:Rep T ι σ h) (H:Frm T env F ρ ι h) (hk:env.kindOf x=some .local) (hc:Yyc env c) (hn:NsC h env.locals c m) (hn':NsC h' env.locals c m') (hs:Heap.SameBut env.locals h h')
   (hm:∀ z,env.kindOf z=some .local→Yed ι h ι h'→Yc3 T ι h' (upd ρ x v z) (m' z)):Rep T ι σ h'∧Frm T env F (upd ρ x v) ι h'∧Ext T F ι h ι h'∧Yix h h':=by
 obtain ⟨o,es,ep,ho,ocl,zz⟩:=hn
 obtain ⟨o',es',ep',ho',ocl',zz,od',zz⟩:=id hn'
 have tn:Yqf F h h' env.locals o o':=⟨H.loc,ho,ho',ocl'.trans ocl.symm,hs⟩
 have e:=tn.ext H
 refine ⟨tn.rep R H,⟨H.kind,H.glb,H.blt,⟨c,_,hc,hn',fun z hz=>hm z hz e.mono⟩,fun z hz=>?_,H.inj,H.loc,H.cin,H.apart,tn.there H⟩,e,tn.stay fun zz zz zz=>⟨_,_,od'⟩⟩
 obtain ⟨cc,oc,vc,e1,e2,e3,e4,e5,e6⟩:=H.cells z hz
 have ne:cc≠env.locals:=fun q=>by
   rw [q,ho] at e2; rw [← Yad e2,ocl] at e3
   rcases hc.1 with q | q <;> rw [q] at e3 <;> exact absurd (Value.type.inj e3) (by decide)
 have ne2:z≠x:=fun q=>by rw [q,hk] at hz; rcases hz with hz | hz <;> cases hz
 exact ⟨cc,oc,vc,e1,(hs.2 cc ne).trans e2,e3,e4,Yll ne2▸e5.mono e.mono,e6⟩
theorem Ykh {M:Model}{A:Around}{E:Value→Shared→Prop}{x:Str}{v:V}{y:Value}{Q:Unit→Shared→Prop}(R:Rep T ι σ s.heap) (H:Frm T env F ρ ι s.heap) (hk:env.kindOf x=some .local) (r:Yau T ι s.heap v y)
   (k:∀ h' t,Rep T ι σ h'→Frm T env F (upd ρ x (some v)) ι h'→Ext T F ι s.heap ι h'→Yix s.heap h'→(∃ a,Heap.SameBut a s.heap h'∧(a=env.locals∨(env.kindOf x=some .cell∧env.cells.lookup x=some a)))→Q () { s with heap:=h',toks:=t }):wpAny M A (storeName env x y) Q E s:=by
 obtain ⟨c,m,hc,hn,hr⟩:=H.ns
 rw [storeName_local hk (by rw [H.kind]; rfl)]
 refine Yth hn fun h' hn' hs=>?_
 refine (H.locTurn R hk hc hn hn' hs fun z hz mo=>.upd (r.mono mo) ((hr z hz).mono mo)).elim fun R' h9=>Ygi h9 fun H' e ds=>?_
 exact k h' _ R' H' e ds ⟨env.locals,hs,.inl rfl⟩
theorem Yma {M:Model}{A:Around}{E:Value→Shared→Prop}{x:Str}{v:V}{y:Value}{Q:Unit→Shared→Prop}(R:Rep T ι σ s.heap) (H:Frm T env F ρ ι s.heap) (hk:env.kindOf x=some .cell) (r:Yau T ι s.heap v y)
   (k:∀ h' t,Rep T ι σ h'→Frm T env F (upd ρ x (some v)) ι h'→Ext T F ι s.heap ι h'→Yix s.heap h'→(∃ a,Heap.SameBut a s.heap h'∧(a=env.locals∨(env.kindOf x=some .cell∧env.cells.lookup x=some a)))→Q () { s with heap:=h',toks:=t }):wpAny M A (storeName env x y) Q E s:=by
 obtain ⟨c,m,hc,hn,hr⟩:=H.ns
 obtain ⟨cc,oc,vc,e1,e2,e3,e4,e5,e6⟩:=H.cells x (.inl hk)
 refine Yn6 H.kind hk e1 e2 e4 fun h' ho' hs=>?_
 have tn:Yqf F s.heap h' cc oc { oc with data:=.cell (some y) }:=⟨H.cin x cc hk e1,e2,ho',rfl,hs⟩
 have e:=tn.ext H
 have lne:env.locals≠cc:=fun q=>by
   obtain ⟨o,es,ep,ho,zz,zz,od,zz⟩:=id hn
   rw [q,e2] at ho; rw [← Yad ho,e4] at od; cases od
 refine k h' _ (tn.rep R H) ⟨H.kind,H.glb,H.blt,⟨c,m,hc,hn.sameBut hs lne,fun z hz=>?_⟩,fun z hz=>?_,H.inj,H.loc,H.cin,H.apart,tn.there H⟩ e (tn.stay fun zz zz q=>by rw [e4] at q; cases q) ⟨cc,hs,.inr ⟨hk,e1⟩⟩
 · have ne:z≠x:=fun q=>by rw [q,hk] at hz; cases hz
   exact Yll ne▸(hr z hz).mono e.mono
 · by_cases q:z=x
   · exact ⟨cc,_,some y,q▸e1,ho',e3,rfl,by rw [q,Ytc]; exact .some (r.mono e.mono),e6⟩
   · obtain ⟨c2,o2,v2,f1,f2,f3,f4,f5,f6⟩:=H.cells z hz
     have ne:c2≠cc:=fun p=>q (H.inj z x c2 hz (.inl hk) f1 (p▸e1))
     exact ⟨c2,o2,v2,f1,(hs.2 c2 ne).trans f2,f3,f4,Yll q▸f5.mono e.mono,f6⟩
theorem Yhx {M:Model}{A:Around}{E:Value→Shared→Prop}{x:Str}{v:V}{y:Value}{Q:Unit→Shared→Prop}(R:Rep T ι σ s.heap) (H:Frm T env F ρ ι s.heap) (hk:Yar env.scope x=true) (r:Yau T ι s.heap v y)
   (k:∀ h' t,Rep T ι σ h'→Frm T env F (upd ρ x (some v)) ι h'→Ext T F ι s.heap ι h'→Yix s.heap h'→(∃ a,Heap.SameBut a s.heap h'∧(a=env.locals∨(env.kindOf x=some .cell∧env.cells.lookup x=some a)))→Q () { s with heap:=h',toks:=t }):wpAny M A (storeName env x y) Q E s :=
 (Yeb hk).elim (fun e=>Ykh R H e r k) fun e=>Yma R H e r k
theorem Yfq {M:Model}{A:Around}{E:Value→Shared→Prop}{x:Str}{v:V}{y:Value}{Q:Unit→Shared→Prop}(R:Rep T ι σ s.heap) (H:Frm T env F ρ ι s.heap) (hk:Yar env.scope x=true) (r:Yau T ι s.heap v y)
   (k:∀ h' t,Rep T ι σ h'→Frm T env F (upd ρ x (some v)) ι h'→Ext T F ι s.heap ι h'→Yix s.heap h'→Q () { s with heap:=h',toks:=t }):wpAny M A (storeName env x y) Q E s :=
 Yhx R H hk r fun h' t R' H' e ds zz=>k h' t R' H' e ds
theorem Inv.stored {ρ':Loc}{h':Heap}{t:Nat}(I:Inv T A fs d env F ρ ι σ s) (R:Rep T ι σ h') (H:Frm T env F ρ' ι h') (e:Ext T F ι s.heap ι h') (ds:Yix s.heap h'):Inv T A fs d env F ρ' ι σ { s with heap:=h',toks:=t } :=
 ⟨R,I.aok.ext e (fun en hen L hf zz=>by
   obtain ⟨zz,L',o,es,ep,f,zz,zz,g,zz,dd⟩:=I.aok.funs en hen
   rw [hf] at f; cases f
   exact ds L o es ep g dd) (fun a ha=>(by obtain ⟨o,g,_,gi⟩:=I.frm.there a ha; exact ⟨o,g,gi⟩)),H,I.top,I.gens,I.os⟩
theorem Ybe.assign {X:XS}{Q:QS}{x:Str}{pos' pos:Pos}{e:Expr}(q:Yai T d sc ρ X e (fun v σ'=>Q .next (upd ρ x (some v)) σ') σ) (hc:Yfi e=true) (hk:Yar sc x=true) :
   Ybe T d sc ρ X (.Assign [.Name x pos'] e pos) Q σ:=by
 intro env A fs F ι s hsc I
 refine wpAny_Assign_Name (Zib (q env A fs F ι s hsc I) (fun y s₁ p=>?_) fun zz zz p=>p.sx I fun zz zz k=>k) (Yfr hc)
 obtain ⟨v,σ₁,ι₁,q,rv,rp,ex,g,o⟩:=p
 have I₁:=I.ext ex rp g o
 refine Yfq I₁.rep I₁.frm (hsc▸hk) rv fun h' t R' H' e' ds=>?_
 exact ⟨.next,_,σ₁,ι₁,q,.next,I₁.stored R' H' e' ds,ex.up.trans e'⟩
end
end
section
noncomputable def Ycl (ρ:Loc):List Str→List V→Loc
 | p::ps,v::vs=>Ycl (upd ρ p (some v)) ps vs
 | z1,z2=>ρ
noncomputable def Ynb (sc:Scope):Bool:=sc.names.all fun p=>p.2 != .free
inductive Ywc (T:Tp) (v:Value) (ps:List Str) (body:List Stmt) (sc:Scope):Prop where
 | mk (f:Addr) (o:Obj) (fd:FuncData) (h0:v=.ref f) (ho:T.K.lookup f=some o) (hd:o.data=.func fd) (hs:fd.scope=sc) (hbody:fd.body=.stmts body) (hclo:fd.closure=[]) (hg:fd.globals=mainGlobals) (hbu:fd.builtins=builtinsNs) (hcd:PySem.W.codeIn T.K fd.code fd.qualname=true)
     (hbind:∀ vals:List Value,vals.length=ps.length→bindArgs fd ⟨vals,[]⟩=pure (ps.zip vals)) (co:sc.isCoroutine=false) (gen:sc.isGenerator=false) (kind:sc.kind=.function) (par:(ps.all fun p=>Yar sc p)=true) (free:Ynb sc=true):Ywc T v ps body sc
noncomputable def Ylh:List Str→Bool
 | []=>true
 | x::r => !r.contains x && Ylh r
theorem Ygs {n:Str}:∀ {ps:List Str}{vs:List Value},vs.length=ps.length→n∈ps→((ps.zip vs).lookup n).isNone=false
 | p::ps,v::vs,hl,hn=>by
   rw [List.zip_cons_cons,List.lookup_cons]
   cases h:n == p
   · exact Ygs (Nat.succ.inj hl) ((Zg.mp hn).resolve_left fun e=>by rw [e,beq_self_eq_true] at h; cases h)
   · rfl
 | p::ps,[],hl,z1=>(by cases hl)
theorem Yvf {α β:Type}{f g:α→Option β}:∀ {l:List α},(∀ x∈l,f x=g x)→l.filterMap f=l.filterMap g:=by
 intro xx
 induction xx with
 | nil =>
   intro z1
   exact rfl
 | cons x r ih =>
   intro h
   rw [List.filterMap_cons,List.filterMap_cons,h x Zt,ih fun y hy=>h y (Zd _ hy)]
theorem Yk5:∀ {ps:List Str}{vs:List Value},vs.length=ps.length→Ylh ps=true→ps.filterMap (fun n=>((ps.zip vs).lookup n).map (n,·))=ps.zip vs
 | [],z1,z2,z3=>rfl
 | p::ps,[],hl,z1=>(by cases hl)
 | p::ps,v::vs,hl,hn=>by
   have h:=Bool.and_eq_true_iff.mp hn
   have hp:p∉ps:=fun q=>by have:=h.1; rw [List.contains_iff_mem.mpr q] at this; cases this
   rw [List.zip_cons_cons,List.filterMap_cons_some (b:=(p,v)) (by rw [List.lookup_cons,beq_self_eq_true]; rfl)]
   refine congrArg ((p,v) :: ·) (.trans (Yvf fun n hn=>?_) (Yk5 (Nat.succ.inj hl) h.2))
   have ne:(n == p)=false:=Zmc.mpr fun e=>hp (e▸hn)
   rw [List.lookup_cons,ne]
theorem Ymo {fd:FuncData}{as:List Arg}{kd:List (Option Expr)}{df:List Expr}{vals:List Value}(hp:fd.params=⟨[],as,none,[],kd,none,df⟩) (hd:fd.defaults=.none) (hn:Ylh (as.map Arg.arg)=true) (hl:vals.length=(as.map Arg.arg).length) :
   bindArgs fd ⟨vals,[]⟩=pure ((as.map Arg.arg).zip vals):=by
 have e1:((as.map Arg.arg).filter fun n=>(((as.map Arg.arg).zip vals).lookup n).isNone)=[]:=List.filter_eq_nil_iff.mpr fun n h=>by rw [Ygs hl h]; exact Zv
 have e2:=Yk5 hl hn
 obtain ⟨nm,qn,pr,bd,sc,g,clo,dfl,kdf,doc,pm,an,code,ct,bu⟩:=fd
 cases hp; cases hd
 have n1:¬ (decide (vals.length > (as.map Arg.arg).length) && (none:Option Arg).isNone)=true:=by rw [hl,Zrc (Zub _)]; exact Zv
 have n2:¬ (!(List.filter (fun n=>(List.lookup n ((as.map Arg.arg).zip vals)).isNone) (List.take ((as.map Arg.arg).length - (List.drop (([]:List Value).length - (as.map Arg.arg).length) ([]:List Value)).length) (as.map Arg.arg))).isEmpty)=true:=by
   rw [List.drop_nil]; show ¬ (!(List.filter _ (List.take (as.map Arg.arg).length (as.map Arg.arg))).isEmpty)=true; rw [Zgc,e1]; exact Zv
 have n3:∀ {α:Type}{f:List (Str×Value)→Sem α}{g:Str×Value→List (Str×Value)→Sem (ForInStep (List (Str×Value)))}{k m:Nat},((forIn ((List.drop k (as.map Arg.arg)).zip (List.drop m ([]:List Value))) ((as.map Arg.arg).zip vals) g:Sem _) >>= f)=f ((as.map Arg.arg).zip vals):=fun {zz f g k m}=>by rw [List.drop_nil,List.zip_nil_right]; rfl
 show (if (decide (vals.length > (as.map Arg.arg).length) && (none:Option Arg).isNone)=true then _ else _)=_
 refine (if_neg n1).trans ?_
 show (if (!(List.filter (fun n=>(List.lookup n ((as.map Arg.arg).zip vals)).isNone) (List.take ((as.map Arg.arg).length - (List.drop (([]:List Value).length - (as.map Arg.arg).length) ([]:List Value)).length) (as.map Arg.arg))).isEmpty)=true then _ else _)=_
 refine (if_neg n2).trans ?_
 show ((forIn ((List.drop _ (as.map Arg.arg)).zip (List.drop _ ([]:List Value))) ((as.map Arg.arg).zip vals) _:Sem _) >>= _)=_
 refine n3.trans ?_
 show (pure (((as.map Arg.arg)++[]).filterMap fun n=>(((as.map Arg.arg).zip vals).lookup n).map (n,·)):Sem _)=_
 rw [Zlc,e2]
noncomputable def Yta (ps:List Str) (sc:Scope):Bool:=(!sc.isCoroutine && !sc.isGenerator) && ((sc.kind == .function && (ps.all fun p=>Yar sc p)) && (Ynb sc && Yem sc))
noncomputable def Yp9 (p:Arguments):Bool:=(p.posonlyargs.isEmpty && p.vararg.isNone) && (p.kwonlyargs.isEmpty && p.kwarg.isNone)
noncomputable def Yts:FuncBody→Option (List Stmt)
 | .stmts b=>some b
 | z1=>none
noncomputable def Y04 (K:PySem.W.Frag):FuncData→Option (List Str×List Stmt×Scope)
 | ⟨z1,qual,pr,bd,sc,g,clo,dfl,z2,z3,z4,z5,code,z6,bu⟩ =>
   (Yts bd).bind fun body=>bif ((g == mainGlobals && bu == builtinsNs) && ((clo.isEmpty && dfl == .none) && Yp9 pr)) && (PySem.W.codeIn K code qual && (Ylh (pr.args.map (·.arg)) && Yta (pr.args.map (·.arg)) sc)) then some (pr.args.map (·.arg),body,sc) else none
theorem Yj2 {p:Arguments}(h:Yp9 p=true):p=⟨[],p.args,none,[],p.kw_defaults,none,p.defaults⟩:=by
 obtain ⟨po,as,va,ko,kd,kw,df⟩:=p
 have h:=Bool.and_eq_true_iff.mp h
 cases List.isEmpty_iff.mp (Bool.and_eq_true_iff.mp h.1).1; cases Option.isNone_iff_eq_none.mp (Bool.and_eq_true_iff.mp h.1).2
 cases List.isEmpty_iff.mp (Bool.and_eq_true_iff.mp h.2).1; cases Option.isNone_iff_eq_none.mp (Bool.and_eq_true_iff.mp h.2).2
 rfl
theorem Ymr {b:FuncBody}{x:List Stmt}(h:Yts b=some x):b=.stmts x:=by
 cases b <;> first | exact (Yaf h).elim | exact congrArg _ (Yad h)
theorem Yqc {α:Type}{c:Bool}{a x:α}(h:(bif c then some a else none)=some x):c=true∧a=x:=by
 cases c
 · exact (Yaf h).elim
 · exact ⟨rfl,Yad h⟩
noncomputable def Yw1 (K:PySem.W.Frag):Data→Option (List Str×List Stmt×Scope)
 | .func fd=>Y04 K fd
 | z1=>none
noncomputable def Yxc (K:PySem.W.Frag):Value→Option (List Str×List Stmt×Scope)
 | .ref f=>(K.lookup f).bind fun o=>Yw1 K o.data
 | z1=>none
theorem Yrc {T:Tp}{f:Addr}{o:Obj}{fd:FuncData}{r:List Str×List Stmt×Scope}(ho:T.K.lookup f=some o) (hd:o.data=.func fd) (h:Y04 T.K fd=some r):Ywc T (.ref f) r.1 r.2.1 r.2.2∧Yem r.2.2=true:=by
 refine (Option.bind_eq_some_iff.mp h).elim fun body h9=>h9.elim fun h0 h=>?_
 obtain ⟨hb,h⟩:=Yqc h
 rw [← h]
 unfold Yta at hb
 simp only [Zob,Bool.not_eq_true',beq_iff_eq] at hb
 obtain ⟨⟨⟨h1,h2⟩,⟨hc,hn⟩,hp⟩,h3,h4,⟨h5,h6⟩,⟨h7,h8⟩,h9,h10⟩:=hb
 exact ⟨⟨_,o,fd,rfl,ho,hd,rfl,Ymr h0,List.isEmpty_iff.mp hc,h1,h2,h3,fun vals hl=>Ymo (Yj2 hp) hn h4 hl,h5,h6,h7,h8,h9⟩,h10⟩
theorem Yei {T:Tp}{v:Value}{ps:List Str}{body:List Stmt}{sc:Scope}(h:Yxc T.K v=some (ps,body,sc)):Ywc T v ps body sc∧Yem sc=true:=by
 cases v <;> first | exact (Yaf h).elim | skip
 obtain ⟨o,ho,h⟩:=Option.bind_eq_some_iff.mp h
 generalize hd:o.data=dt at h
 cases dt <;> first | exact (Yaf h).elim | exact Yrc ho hd h
noncomputable def FnV (T:Tp) (f:V) (ps:List Str) (body:List Stmt) (sc:Scope):Prop:=∀ ι h fv,Yau T ι h f fv→Ywc T fv ps body sc
theorem FnV.glob {T:Tp}{x:Str}{v:Value}{ps body sc}(e:T.g x=some v) (h:Ywc T v ps body sc):FnV T (.glob x) ps body sc:=fun zz zz fv r=>by
 cases e.symm.trans r; exact h
theorem FnV.mth {T:Tp}{c x:Str}{v:Value}{ps body sc}(e:T.m c x=some v) (h:Ywc T v ps body sc):FnV T (.mth c x) ps body sc:=fun zz zz fv r=>by
 cases e.symm.trans r; exact h
noncomputable def Yva (Q:QE):QS:=fun fl zz σ=>match fl with | .ret v=>Q v σ | _=>Q .none σ
theorem Yev:∀ (names:List (Str×NameKind)) (h:Heap) (c:Addr) (o:Obj),(pushCells h names).get? c=some o→h.objs.size≤c→o.cls=.type "cell":=by
 intro xx
 induction xx with
 | nil =>
   intro h c o e hl
   exact absurd (Zu e) (Zo.mpr hl)
 | cons pp r ih =>
   obtain ⟨z1,kind⟩:=pp
   intro h c o e hl
   unfold pushCells at e
   split at e
   · by_cases q:c=h.objs.size
     · subst q
       rw [pushCells_keeps r _ _ _ (Zsc h rfl)] at e
       cases e; rfl
     · exact ih _ c o e (by rw [Zqb]; exact Nat.lt_of_le_of_ne hl (Ne.symm q))
   · exact ih h c o e hl
theorem Yd2:∀ (names:List (Str×NameKind)) (h:Heap),h.objs.size≤(pushCells h names).objs.size:=by
 intro xx
 induction xx with
 | nil =>
   intro z1
   exact Zl _
 | cons pp r ih =>
   obtain ⟨z1,kind⟩:=pp
   intro h
   unfold pushCells
   split
   · exact Za (by rw [Zqb]; exact Zq (Zs h.objs.size)) (ih _)
   · exact ih h
theorem Yh4:∀ (names:List (Str×NameKind)) (n:Nat) (acc:List (Str×Addr)) (x:Str×Addr),x∈acc→x∈cellsFrom n names acc:=by
 intro xx
 induction xx with
 | nil =>
   intro z1 z2 z3 h
   exact h
 | cons pp r ih =>
   obtain ⟨z1,kind⟩:=pp
   intro n acc x h
   unfold cellsFrom
   split
   · exact ih _ _ x (Zd _ h)
   · exact ih _ _ x h
theorem Yey:∀ (names:List (Str×NameKind)) (n:Nat) (acc:List (Str×Addr)) (x:Str),(x,NameKind.cell)∈names→∃ c,(x,c)∈cellsFrom n names acc:=by
 intro xx
 induction xx with
 | nil=>intros; contradiction
 | cons pp r ih =>
   obtain ⟨y,kind⟩:=pp
   intro n acc x h
   unfold cellsFrom
   rcases Zg.mp h with e | h
   · cases e
     exact ⟨n,Yh4 r _ _ _ (by simp)⟩
   · split
     · exact ih _ _ x h
     · exact ih _ _ x h
theorem Ybw {α:Type}:∀ {l:List (Str×α)}{x:Str}{c:α},(x,c)∈l→∃ c',l.lookup x=some c':=by
 intro xx
 induction xx with
 | nil=>intros; contradiction
 | cons pp r ih =>
   obtain ⟨k,v⟩:=pp
   intro x c h
   rw [List.lookup_cons]
   cases hb:x == k with
   | true=>exact ⟨v,rfl⟩
   | false =>
     rcases Zg.mp h with e | h
     · cases e; simp at hb
     · exact ih h
section
variable {T:Tp}{A:Around}{fs:List Env}{d:Nat}{ι:Inj}{σ:Hp}{s:Shared}{sc:Scope}
theorem Ylo {M:Model}{A:Around}{E:Value→Shared→Prop}{env:Env}{F:List Addr}(f:Str×Value→PUnit→Sem (ForInStep PUnit)) (hf:∀ n v u,f (n,v) u=(do storeName env n v; pure (.yield ⟨⟩))) :
   ∀ (ps:List Str) (vs:List V) (xs:List Value) (ρ:Loc) (s:Shared) (Q:PUnit→Shared→Prop),Rep T ι σ s.heap→Frm T env F ρ ι s.heap→VRels T ι s.heap vs xs→xs.length=ps.length→(ps.all fun p=>Yar env.scope p)=true →
     (∀ h' t,Rep T ι σ h'→Frm T env F (Ycl ρ ps vs) ι h'→Ext T F ι s.heap ι h'→Yix s.heap h'→Q ⟨⟩ { s with heap:=h',toks:=t })→wpAny M A (forIn (ps.zip xs) ⟨⟩ f) Q E s
 | [],vs,xs,ρ,s,Q,R,H,r,hl,z1,k=>by
   cases xs with
   | nil =>
     cases vs with
     | nil=>rw [List.zip_nil_left,List.forIn_nil]; exact Zjb (k s.heap s.toks R H (.refl ..) fun a o es ep e q=>⟨o,es,ep,e,q⟩)
     | cons=>exact (show False from r).elim
   | cons=>simp at hl
 | p::ps,vs,xs,ρ,s,Q,R,H,r,hl,ha,k=>by
   cases xs with
   | nil=>simp at hl
   | cons x xs =>
     cases vs with
     | nil=>exact (show False from r).elim
     | cons v vs =>
       rw [List.zip_cons_cons,List.forIn_cons,hf]
       simp only [List.all_cons,Zob] at ha
       refine Zhb (Zhb (Yfq R H ha.1 r.1 fun h' t R' H' e' ds=>Zjb ?_))
       refine Ylo f hf ps vs xs _ _ Q R' H' (r.2.mono e'.mono) (by simpa using hl) (by simpa using ha.2) fun h'' t' R'' H'' e'' ds'=>?_
       exact k h'' t' R'' H'' (e'.trans e'') fun a o es ep e q=>by
         refine ex3 (ds a o es ep e q) fun o₁ es₁ ep₁ h9=>h9.elim fun g gd=>?_
         exact ds' a o₁ es₁ ep₁ g gd
theorem Yox {L:Addr}{qual:Str}{func:Option Addr}{code:Value}(R:Rep T ι σ s.heap) (hL:L=s.heap.objs.size) (hk:sc.kind=.function) (hf:Ynb sc=true) (h₁:Heap) (hh:h₁=pushCells (s.heap.push { cls:=.type "frame",data:=.dict #[] }) sc.names)
   (env:Env) (he:env=newEnv sc L mainGlobals (cellsFrom (L+1) sc.names []) qual func code none builtinsNs) :
   ∃ F,(∀ a∈F,s.heap.objs.size≤a)∧Rep T ι σ h₁∧Frm T env F (fun zz=>none) ι h₁∧Ext T F ι s.heap ι h₁∧(∃ o,h₁.get? L=some o∧o.cls=.type "frame" ∧ o.data=.dict #[] 0):=by
 subst hh he hL
 have ok:=cellsFrom_ok sc.names (s.heap.push { cls:=.type "frame",data:=.dict #[] }) (s.heap.objs.size+1) [] ⟨fun zz zz hm=>((by cases hm)),List.Pairwise.nil⟩ (by rw [Zqb]; exact Zl _)
 rw [Zqb] at ok
 have keep:∀ b o,s.heap.get? b=some o→(pushCells (s.heap.push { cls:=.type "frame",data:=.dict #[] }) sc.names).get? b=some o:=fun b o e=>pushCells_keeps _ _ b o (Zx _ e)
 have hsz:s.heap.objs.size≤(pushCells (s.heap.push { cls:=.type "frame",data:=.dict #[] }) sc.names).objs.size:=Za (by rw [Zqb]; (clear ok keep; exact Zq (Zs s.heap.objs.size))) (Yd2 _ _)
 have hL:=pushCells_keeps sc.names (s.heap.push { cls:=.type "frame",data:=.dict #[] }) _ _ (Zsc s.heap rfl)
 have no:∀ a,s.heap.objs.size≤a→a∉own ι:=fun a ha q=>absurd (R.own_lt q) (Zo.mpr ha)
 have cellAt:∀ x c,(x,c)∈cellsFrom (s.heap.objs.size+1) sc.names []→s.heap.objs.size+1≤c∧∃ o,(pushCells (s.heap.push { cls:=.type "frame",data:=.dict #[] }) sc.names).get? c=some o∧o.cls=.type "cell" ∧ o.data=.cell none:=fun x c hm=>by
   obtain ⟨⟨o,g,gd⟩,hc⟩:=ok.empty x c hm
   exact ⟨hc,o,g,Yev _ _ c o g (by rw [Zqb]; exact hc),gd⟩
 refine ⟨s.heap.objs.size::(cellsFrom (s.heap.objs.size+1) sc.names []).map (·.2),fun a ha=>?_,R.grow hsz keep,?_,.of_keeps hsz keep,⟨_,hL,rfl,rfl⟩⟩
 · rcases Zg.mp ha with rfl | ha
   · exact Zl _
   · obtain ⟨⟨x,c⟩,hm,rfl⟩:=Zsb.mp ha
     exact Zkc (cellAt x c hm).1
 · refine ⟨hk,rfl,rfl,⟨"frame",fun zz=>none,⟨.inl rfl,fun q=>absurd rfl q⟩,⟨_,#[],0,hL,rfl,rfl,rfl,fun e he=>by simp at he,List.Pairwise.nil,fun zz=>rfl⟩,fun x zz=>.none⟩,fun x hx=>?_,fun x y c hx hy h1 h2=>name_of_addr ok.apart (mem_of_lookup h1) (mem_of_lookup h2),Zt,fun x c zz h=>Zd _ (Zsb.mpr ⟨(x,c),mem_of_lookup h,rfl⟩),fun a ha=>?_,fun a ha=>?_⟩
   · have hx':sc.names.lookup x=some .cell:=by
       rcases hx with hx | hx
       · exact hx
       · have:=List.all_eq_true.mp hf _ (mem_of_lookup (show sc.names.lookup x=some .free from hx))
         simp at this
     obtain ⟨c,hc⟩:=Yey sc.names (s.heap.objs.size+1) [] x (mem_of_lookup hx')
     obtain ⟨c',hc'⟩:=Ybw hc
     obtain ⟨g1,o,g2,g3,g4⟩:=cellAt x c' (mem_of_lookup hc')
     exact ⟨c',o,none,hc',g2,g3,g4,.none,no c' (Zkc g1)⟩
   · have hs:s.heap.objs.size≤a:=by
       rcases Zg.mp ha with rfl | ha
       · exact Zl _
       · obtain ⟨⟨x,c⟩,hm,rfl⟩:=Zsb.mp ha
         exact Zkc (cellAt x c hm).1
     exact ⟨no a hs,Za R.size hs⟩
   · rcases Zg.mp ha with rfl | ha
     · exact ⟨_,hL,rfl,rfl⟩
     · obtain ⟨⟨x,c⟩,hm,rfl⟩:=Zsb.mp ha
       obtain ⟨zz,o,g2,g3,zz⟩:=cellAt x c hm
       exact ⟨o,g2,by simp [Ya1,g3],Ypv g3 (by decide)⟩
end
end
section
section
variable {T:Tp}{A:Around}{fs:List Env}{d:Nat}{ι:Inj}{σ:Hp}{s:Shared}{sc:Scope}
theorem Ybk.touched {env:Env}{F:List Addr}{X:XS}{h:Heap}{ρ':Loc}{σ':Hp}{ι':Inj}{ea:Addr}{c:Str}{h':Heap}(x:X c σ') (hn:ea∉own ι') (I:Inv T A fs d env F ρ' ι' σ' s) (e:Ext T F ι h ι' s.heap) (f:Fly T h.objs.size ea c s.heap) (hb:T.b0.objs.size≤h.objs.size)
   (t:Ybr (frs fs) h.objs.size ea s.heap h'):Inv T A fs d env F ρ' ι' σ' { s with heap:=h' }∧Ext T F ι h ι' h':=by
 have hle:h.objs.size≤ea:=by obtain ⟨zz,zz,zz,zz,zz,q,zz⟩:=f; exact q
 exact ⟨I.touch t f hn hb hle,e.touch t (fun a ha=>(by obtain ⟨_,_,o,_,_,g,gc,_⟩:=I.aok.mem ha; exact ⟨o,g,gc⟩)) hle⟩
theorem Yho {env:Env}{F:List Addr}{X:XS}{h:Heap}{x:Value}{E:Value→Shared→Prop}{Q:Unit→Shared→Prop}(hb:T.b0.objs.size≤h.objs.size) (p:Ybk T A fs d env F X ι h x s)
   (k:∀ ea c ρ' σ' ι' h',x=.ref ea→X c σ'→Yob T h.objs.size ea c h'→ea∉own ι'→Inv T A fs d env F ρ' ι' σ' { s with heap:=h' }→Ext T F ι h ι' h'→Q () { s with heap:=h' }) :
   wpAny (model T.prog T.w) A (noteFrame x env) Q E s:=by
 obtain ⟨ea,c,ρ',σ',ι',rfl,b,f,n,I,e⟩:=p
 refine Ypc I f e.size fun h' t f'=>?_
 obtain ⟨I',e'⟩:=Ybk.touched b n I e f hb t
 exact k ea c ρ' σ' ι' h' rfl b f' n I' e'
theorem Ylu {env:Env}{F:List Addr}{X:XS}{h:Heap}{x:Value}{E:Value→Shared→Prop}{Q:Unit→Shared→Prop}(hb:T.b0.objs.size≤h.objs.size) (p:Ybk T A fs d env F X ι h x s)
   (k:∀ s',Ybk T A fs d env F X ι h x s'→Q () s'):wpAny (model T.prog T.w) A (leaving env x) Q E s:=by
 unfold leaving
 refine Zhb (Yho hb p fun ea c ρ' σ' ι' h' hx b f n I e=>?_)
 subst hx
 refine Ydh (S:=frs fs) f fun h'' t f'=>?_
 obtain ⟨I',e'⟩:=Ybk.touched b n I e f.fly hb t
 exact k _ ⟨ea,c,ρ',σ',ι',rfl,b,f'.fly,n,I',e'⟩
theorem Yj1 {env:Env}{F:List Addr}{X:XS}{h:Heap}{x:Value}(hb:T.b0.objs.size≤h.objs.size) (p:Ybk T A fs d env F X ι h x s) :
   notedBy (model T.prog T.w) A env (fun e s'=>cameBackBy (model T.prog T.w) A env (Ybk T A fs d env F X ι h) e s') x s:=by
 unfold notedBy
 refine Yho hb p fun ea c ρ' σ' ι' h' hx b f n I e=>?_
 subst hx
 unfold cameBackBy
 have f₀:=f
 obtain ⟨C,oe,vs,v,f1,f2,f3,f4,f5,f6,f7,f8,tb,ot,ts,rfl,zz⟩:=f
 refine Zhb (wpAny_field f3 f5 f8 ?_)
 rw [if_neg (by simp)]
 refine Ydh (S:=frs fs) f₀ fun h'' t f'=>?_
 obtain ⟨I',e'⟩:=Ybk.touched b n I e f₀.fly hb t
 exact ⟨ea,c,ρ',σ',ι',rfl,b,f'.fly,n,I',e'⟩
noncomputable def Ycc (T:Tp) (d:Nat) (X:QX) (f:V) (args:List V) (Q:QE) (σ:Hp):Prop :=
 ∀ A fs ι s fv xs,St T A fs d ι σ s→Yau T ι s.heap f fv→VRels T ι s.heap args xs→codeAny (model T.prog T.w) A (.call fv ⟨xs,[]⟩)
   (fun r s'=>match r with | .ok (.ret v)=>Ybf T [] Q ι s.heap v s' | .ok _=>False | .error e=>Yaz T [] X ι s.heap e s') s
theorem Ycc.call {f:V}{args:List V}{Q:QE}{X:QX}(h:Ycc T d X f args Q σ):Yaa T d X f args Q σ:=fun A fs ι s fv xs S rf rxs=>wpAny_call (h A fs ι s fv xs S rf rxs)
set_option tactic.hygienic true in
theorem Ycc.fn {f:V}{ps:List Str}{body:List Stmt}{args:List V}{Q:QE}{X:QX}(TO:Yag T) (hf:FnV T f ps body sc) (hl:args.length=ps.length)
   (hb:Yda T d sc (Ycl (fun _=>none) ps args) X body (Yva Q) σ):Ycc T (d+1) X f args Q σ:=by
 intro A fs ι s fv xs S rf rxs
 obtain ⟨fa,o,fd,rfl,ho,hd,rfl,hbody,hclo,hg,hbu,hcd,hbind,co,gen,kind,par,free⟩:=hf ι s.heap fv rf
 have X₁:=TO.X0.keeps S.rep.base
 refine codeAny_call_function (by have:=S.aok.depth; (clear hbind hl S; lia)) (X₁ _ _ ho) hd co gen hbody (PySem.W.codeRec_of X₁ hcd) ?_
 have hlen:xs.length=ps.length:=rxs.length.trans hl
 rw [hbind xs hlen,hclo,hg,hbu]
 refine Zjb ?_
 simp only [newFunctionEnv,Option.isSome_none,Bool.false_eq_true,if_false]
 refine Zhb (wpAny_alloc ?_)
 refine Zhb (wpAny_layCells _ (fun name kind cells=>by cases hkc:kind == NameKind.cell <;> simp [hkc]) _ _ _ _ ?_)
 rw [show ({ s with heap:=s.heap.push { cls:=.type "frame",data:=.dict #[] } }:Shared).heap.objs.size=s.heap.objs.size+1 from Zqb ..]
 refine (Yox (T:=T) (L:=s.heap.objs.size) (sc:=fd.scope) (qual:=fd.qualname ++ ".<locals>.") (func:=some fa) (code:=fd.code) S.rep rfl kind free _ rfl _ rfl).elim fun F h=>Yzk h fun hF R₁ H₁ e₁ h=>h.elim fun oL h=>Ygi h fun hoL hcL hdL=>?_
 have d0:A.depth+1+d≤recursionLimit:=Za (Zr (Nat.succ_add_eq_add_succ A.depth d)) S.aok.depth
 have u0:A.units+3+10*d+50≤cLine:=by have:=S.aok.units; clear hbind hl hlen hF R₁ H₁ e₁ hoL hdL; lia
 unfold newEnv at H₁
 generalize hE:({ scope:=fd.scope,locals:=s.heap.objs.size,globals:=mainGlobals,cells:=cellsFrom (s.heap.objs.size+1) fd.scope.names [],qual:=fd.qualname ++ ".<locals>.",func:=some fa,code:=fd.code,frame:=some s.heap.objs.size,builtins:=builtinsNs }:Env)=env at H₁ ⊢
 have fE:env.frame=some s.heap.objs.size:=hE▸rfl
 have sE:env.scope=fd.scope:=hE▸rfl
 refine Zhb (Ylo (T:=T) (ι:=ι) (σ:=σ) (env:=env) (F:=F) _ (fun _ _ _=>rfl) ps args xs (fun _=>none) _ _ R₁ H₁ (rxs.mono e₁.mono) hlen (sE▸par) fun h₂ t R₂ H₂ e₂ ds=>Zjb ⟨?_,codeAny_func ?_⟩)
 · exact TO.lim.keeps R₂.base
 have e₃:=e₁.trans e₂
 clear e₁ H₁ R₁
 refine ex3 (ds _ _ _ _ hoL hdL) fun oL₂ es ep hL2=>(e₂.cls _ _ hoL (by simp [Yb1,hcL])).elim fun oL' hL'=>?_
 have hcL₂:oL₂.cls=.type "frame":=(congrArg Obj.cls (Yad (hL2.1.symm.trans hL'.1))).trans (hL'.2.trans hcL)
 clear hL' ds e₂ hoL hdL
 have no:∀ a,s.heap.objs.size≤a→a∉own ι:=fun a ha q=>absurd (S.rep.own_lt q) (Zo.mpr ha)
 have aok:AOk T (A.deeper env) (env::fs) d ι h₂ :=
   ⟨Around.frames_deeper S.aok.frames,fun e he=>(Zg.mp he).elim (fun q=>q▸⟨sE▸kind,s.heap.objs.size,oL₂,es,ep,fE,no _ (Zl _),S.rep.size,hL2.1,hcL₂,hL2.2⟩) fun he=>(S.aok.funs e he).rec fun k1 L' o' es' ep' f1 n1 b1 g1 c1 d1=>(e₃.frm L' o' g1 n1 fun q=>absurd (Zu g1) (Zo.mpr (hF L' q))).elim fun sl g2=>⟨k1,L',_,es',ep',f1,n1,b1,g2,c1,d1⟩,
     d0,u0,S.aok.hd,S.aok.hx.keep fun a o C e1 e2 e3=>⟨e₃.keep a o e1 e3 (fun q=>absurd (Zu e1) (Zo.mpr (hF a q))) (by rw [e2]; simp),e3⟩⟩
 have I:Inv T (A.deeper env) (env::fs) d _ F (Ycl (fun _=>none) ps args) ι σ { s with heap:=h₂,toks:=t }:=⟨R₂,aok,H₂,⟨env,fs,s.heap.objs.size,rfl,fE,fE⟩,S.gens,S.os⟩
 have dn:∀ {ι':Inj}{h':Heap},Ext T F ι s.heap ι' h'→Ext T [] ι s.heap ι' h':=fun e=>e.weaken fun a ha hlt=>absurd hlt (Zo.mpr (hF a ha))
 refine Zib (hb _ _ _ F ι _ sE I) (fun fl s' p=>?_) fun e s' p=>?_
 · exact p.rec fun fl' ρ' σ' ι' q r i ex=>by
     have ex':=dn (e₃.trans ex)
     induction r with
     | ret r=>exact ⟨_,σ',ι',q,r,i.rep,ex',i.gens,i.os⟩
     | _=>exact ⟨.none,σ',ι',q,.none_mk,i.rep,ex',i.gens,i.os⟩
 · refine Ylu R₂.size p fun s'' p'=>?_
   obtain ⟨ea,c,ρ',σ',ι',rfl,b,f,n,i,ex⟩:=p'
   exact ⟨ea,c,σ',ι',rfl,b,f.lo e₃.size,n,i.rep,dn (e₃.trans ex),i.gens,i.os⟩
theorem Yaa.fn {f:V}{ps:List Str}{body:List Stmt}{args:List V}{Q:QE}{X:QX}(TO:Yag T) (hf:FnV T f ps body sc) (hl:args.length=ps.length)
 (hb:Yda T d sc (Ycl (fun zz=>none) ps args) X body (Yva Q) σ):Yaa T (d+1) X f args Q σ:=(Ycc.fn TO hf hl hb).call
end
end
section
structure Yzn (P:Heap→Prop):Prop where
 upd:∀ h a f,(h.get? a).isSome=true→P h→P (h.update a f)
 new:∀ h o,P h→P (h.push o)
set_option tactic.hygienic true in
theorem Yge {P:Heap→Prop}(K:Yzn P) {M:Model}{Γ:Ctx}{p:Pos}{t:Sem Fin}{fs:List Frame}{s s':Shared}{e:End}(h:Runs M Γ p t fs s e s'):P s.heap→P s'.heap:=by
 induction h with
 | done | raise | yield=>exact id
 | update ho _ ih=>exact fun x=>ih (K.upd _ _ _ ho x)
 | alloc _ ih=>exact fun x=>ih (K.new _ _ x)
 | call _ _ i1 i2=>exact fun x=>i2 (i1 x)
 | resumeFresh _ _ _ _ i1 i2=>exact fun x=>i2 (i1 x)
 | resumeSuspended _ _ _ _ i1 i2=>exact fun x=>i2 (i1 x)
 | segRet _ _ i1 i2=>exact fun x=>i2 (i1 x)
 | segGen _ _ i1 i2=>exact fun x=>i2 (i1 x)
 | segSuspGen _ _ _ _ i1 i2=>exact fun x=>i2 (i1 x)
 | _=>assumption
set_option tactic.hygienic true in
theorem Yu0 {P:Heap→Prop}(K:Yzn P) {α:Type}{M:Model}{Γ:Ctx}:∀ (m:Sem α) (Q:α→Pos→Shared→Prop) (E:Value→Pos→Shared→Prop) (p:Pos) (s:Shared),P s.heap→Sem.wp M Γ m Q E p s →
   Sem.wp M Γ m (fun a p' s'=>Q a p' s'∧P s'.heap) (fun a p' s'=>E a p' s'∧P s'.heap) p s:=by
 intro m
 induction m with
 | pure a=>intro Q E p s hn h; exact ⟨h,hn⟩
 | raise e=>intro Q E p s hn h; exact ⟨h,hn⟩
 | unsupported=>intro Q E p s hn h; exact h
 | finish=>intro Q E p s hn h; exact h
 | update a part f k ih=>intro Q E p s hn h; exact ⟨h.1,ih () Q E p _ (K.upd _ _ _ h.1 hn) h.2⟩
 | alloc o k ih=>intro Q E p s hn h; exact ih _ Q E p _ (K.new _ _ hn) h
 | load a part k ih=>intro Q E p s hn h; obtain ⟨o,ho,h⟩:=h; exact ⟨o,ho,ih o Q E p s hn h⟩
 | call c hh g l k ih=>intro Q E p s hn h; obtain ⟨r,s',hr,h⟩:=h; exact ⟨r,s',hr,ih r Q E p s' (Yge K hr hn) h⟩
 | choose src m k ih=>intro Q E p s hn h; exact ⟨h.1,ih _ Q E p _ hn h.2⟩
 | genState g k ih=>intro Q E p s hn h; obtain ⟨st,hs,h⟩:=h; exact ⟨st,hs,ih _ Q E p s hn h⟩
 | resume g r l k ih =>
   intro Q E p s hn h
   obtain ⟨res,s',hw,h⟩:=h
   refine ⟨res,s',hw,ih _ Q E p s' ?_ h⟩
   unfold Wakes at hw
   split at hw
   · exact hw.elim
   · split at hw
     · obtain ⟨e₁,s₁,hr,_,_,rfl⟩:=hw; exact (Yge K hr hn :)
     · rw [hw.2]; exact hn
     · rw [hw.2]; exact hn
   · obtain ⟨e₁,s₁,hr,_,_,rfl⟩:=hw; exact (Yge K hr hn :)
   · rw [hw.2]; exact hn
   · rw [hw.2]; exact hn
 | await=>intro Q E p s hn h; exact h.elim
 | register=>intro Q E p s hn h; exact h
 | yield=>intro Q E p s hn h; exact h
 | fork=>intro Q E p s hn h; exact h
 | _=>rename_i ih; intro Q E p s hn h; exact ih _ Q E _ _ hn h
theorem Ygt {P:Heap→Prop}(K:Yzn P) {α:Type}{M:Model}{A:Around}{m:Sem α}{Q:α→Shared→Prop}{E:Value→Shared→Prop}{s:Shared}(hn:P s.heap) (h:wpAny M A m Q E s) :
 wpAny M A m (fun a s'=>Q a s'∧P s'.heap) (fun a s'=>E a s'∧P s'.heap) s:=fun Γ p hΓ=>Yu0 K m _ _ p s hn (h Γ p hΓ)
theorem Ybo {α:Type}{M:Model}{A:Around}{m:Sem α}{Q:α→Shared→Prop}{E:Value→Shared→Prop}{s:Shared}(h:wpAny M A m Q E s) :
   wpAny M A m (fun a s'=>Q a s'∧s.heap.objs.size≤s'.heap.objs.size) (fun a s'=>E a s'∧s.heap.objs.size≤s'.heap.objs.size) s :=
 Ygt (P:=fun h=>s.heap.objs.size≤h.objs.size) ⟨fun zz zz zz zz x=>by rw [Heap.size_after_update]; exact x,fun zz zz x=>by rw [Zqb]; exact Zeb x⟩ (Zl _) h
end
section
noncomputable def Yef (σ:Hp) (vv:V):Option (List V):=vv.casesOn (none) (fun _=>none) (fun _=>none) (fun x=>some (x.cps.toList.map fun c=>.str ⟨#[c]⟩)) (fun vs=>some vs) (fun l=>atL some σ[l]?) (fun _=>none) (fun _ _=>none) (fun _=>none) (fun _=>none) (fun n=>if -(2 ^ 62)≤n∧n < 2 ^ 62 then some ((List.range n.toNat).map fun (k:Nat)=>.int k) else none) (fun _=>none) (fun _=>none) (fun l n=>atL (fun vs=>if vs.length=n then some vs.reverse else none) σ[l]?)
inductive ItI (T:Tp) (ι:Inj) (h:Heap) (I:Addr) (i:Nat):V→Prop where
 | asc (x:Str) (t:Tok) (it:h.IsStrIter I "str_ascii_iterator" x t i):ItI T ι h I i (.str x)
 | wide (x:Str) (t:Tok) (it:h.IsStrIter I "str_iterator" x t i):ItI T ι h I i (.str x)
 | tup (vs:List V) (a:Addr) (items:Array Value) (n:Nat) (ht:IsT h a items n) (hv:VRels T ι h vs items.toList) (it:h.IsTupleIter I a i):ItI T ι h I i (.tup vs)
 | lst (l:Nat) (a d:Addr) (e:ι[l]?=some (a,d)) (it:h.IsListIter I a i):ItI T ι h I i (.ref l)
 | rng (n:Int) (it:IsRangeIter h I i ((n.toNat:Int) - i) 1):ItI T ι h I i (.rng n)
 | rev (l n:Nat) (a d:Addr) (hi:i≤n) (e:ι[l]?=some (a,d)) (it:h.IsRevIter I a ((n:Int) - 1 - i)):ItI T ι h I i (.rev l n)
noncomputable abbrev Yi6 (T:Tp) (ι:Inj) (h:Heap) (v:V) (I:Addr) (i:Nat):Prop:=ItI T ι h I i v
section
variable {T:Tp}{A:Around}{fs:List Env}{d:Nat}{env:Env}{F:List Addr}{ι ι':Inj}{h h':Heap}{s:Shared}{ρ:Loc}{σ:Hp}{sc:Scope}{v:V}{I:Addr}{i:Nat}
inductive ItO (h:Heap) (I:Addr):Prop where
 | mk (o:Obj) (n:String) (vs:Array Value) (ho:h.get? I=some o) (hc:o.cls=.type n) (hn:n∈Yc5) (hd:o.data=.fields vs):ItO h I
theorem ItO.of {n:String}{P:Obj→Prop}(hn:n∈Yc5) (x:∃ o,h.get? I=some o∧o.cls=.type n∧P o) (k:∀ o,P o→∃ vs,o.data=.fields vs):ItO h I :=
 Zh x fun o x=>Zh (k o x.2.2) fun vs hd=>⟨o,n,vs,x.1,x.2.1,hn,hd⟩
theorem ItI.obj (x:Yi6 T ι h v I i):ItO h I:=by
 induction x with
 | asc x t it=>exact .of (by decide) it fun zz hd=>⟨_,hd⟩
 | wide x t it=>exact .of (by decide) it fun zz hd=>⟨_,hd⟩
 | tup vs a items n ht hv it=>exact .of (by decide) it fun zz hd=>⟨_,hd⟩
 | lst l a d e it=>exact .of (by decide) it fun zz hd=>⟨_,hd⟩
 | rng n it=>exact ⟨_,_,_,it,rfl,by decide,rfl⟩
 | rev l n a d hi e it=>exact .of (by decide) it fun zz hd=>⟨_,hd⟩
theorem ItI.iterish (x:Yi6 T ι h v I i):∃ o,h.get? I=some o∧iterish o=true:=x.obj.rec fun o n zz ho hc hn zz=>⟨o,ho,Yme hc hn⟩
theorem Ygh {P:Obj→Prop}(k:∀ o,h.get? I=some o→h'.get? I=some o) (x:∃ o,h.get? I=some o∧P o):∃ o,h'.get? I=some o∧P o:=Zh x fun o x=>⟨o,k o x.1,x.2⟩
theorem ItI.keep (x:Yi6 T ι h v I i) (m:Yed ι h ι' h') (k:∀ o,h.get? I=some o→h'.get? I=some o):Yi6 T ι' h' v I i:=by
 induction x with
 | asc x t it=>exact .asc x t (Ygh k it)
 | wide x t it=>exact .wide x t (Ygh k it)
 | tup vs a items n ht hv it=>exact .tup vs a items n (m.frz a _ ht (by simp [Ya1])) (hv.mono m) (Ygh k it)
 | lst l a d e it=>exact .lst l a d (m.get e) (Ygh k it)
 | rng n it=>exact .rng n (k _ it)
 | rev l n a d hi e it=>exact .rev l n a d hi (m.get e) (Ygh k it)
theorem Yed.but (hs:∀ b o,b≠I→h.get? b=some o→h'.get? b=some o) (ho:∃ o,h.get? I=some o∧Yb1 o=true∧Ya1 o=false) (ι:Inj):Yed ι h ι h' where
 pre:=⟨[],by simp⟩
 cls:=fun b o e i=>⟨o,hs b o (fun q=>by obtain ⟨o',g,gi,zz⟩:=ho; subst q; rw [e] at g; cases g; rw [i] at gi; cases gi) e,rfl⟩
 frz:=fun b o e f=>hs b o (fun q=>by
   obtain ⟨o',g,zz,gi⟩:=ho; subst q; rw [e] at g; cases g
   rw [f] at gi; cases gi) e
theorem Ygp {o:Obj}(h:iterish o=true):Ya1 o=false:=by
 cases f:Ya1 o with
 | false=>rfl
 | true =>
   simp only [Ya1,Bool.or_eq_true,beq_iff_eq] at f
   rcases f with f | f <;> rw [Yco f (by decide)] at h <;> cases h
theorem Yed.free (hs:∀ b o,b≠I→h.get? b=some o→h'.get? b=some o) (ho:∃ o,h.get? I=some o∧iterish o=true) (ι:Inj):Yed ι h ι h' :=
 .but hs ((by obtain ⟨o,a,b⟩:=ho; exact ⟨o,a,Yhn b,Ygp b⟩)) ι
theorem Inv.free {t:Nat}(I0:Inv T A fs d env F ρ ι σ s) (hs:∀ b o,b≠I→s.heap.get? b=some o→h'.get? b=some o) (hz:s.heap.objs.size≤h'.objs.size) (ho:∃ o,s.heap.get? I=some o∧iterish o=true) (hn:I∉own ι) (hb:T.b0.objs.size≤I) :
   Inv T A fs d env F ρ ι σ { s with heap:=h',toks:=t }:=by
 have m:Yed ι s.heap ι h':=.free hs ho ι
 have ne:∀ b o,s.heap.get? b=some o→iterish o=false→b≠I:=fun b o e i q=>Zh ho fun o' g=>Zv (i.symm.trans (Yad (g.1.symm.trans (q▸e))▸g.2))
 exact ⟨I0.rep.keeps m hz (fun a o e=>hs a o (fun q=>absurd (Zu e) (Zo.mpr (q▸hb))) (I0.rep.base a o e)) fun a ha o e=>hs a o (fun q=>hn (q▸ha)) e,
   I0.aok.keeps (fun zz n zz=>n) (fun a o g zz c=>⟨o.slots,hs a o (ne a o g (Yc2 (nsO.itr ⟨_,c,.inl rfl⟩))) g⟩) (I0.aok.hx.keep fun a o C e1 e2 e3=>⟨hs a o (ne a o e1 (Ykd e2)) e1,e3⟩),
   I0.frm.keeps m (fun zz n zz=>n) (fun a o g zz i=>⟨o,hs a o (ne a o g (Yc2 i)) g,rfl⟩) fun a o g zz c zz=>⟨o.slots,hs a o (ne a o g (Yc2 c.itr)) g⟩,I0.top,I0.gens,I0.os⟩
theorem Ext.free {h₀:Heap}(x:Ext T F ι h₀ ι' h) (hs:∀ b o,b≠I→h.get? b=some o→h'.get? b=some o) (hz:h.objs.size≤h'.objs.size) (hI:h₀.objs.size≤I):Ext T F ι h₀ ι' h':=by
 have ne:∀ b o,h₀.get? b=some o→b≠I:=fun b o e q=>absurd (Zu e) (Zo.mpr (q▸hI))
 refine ⟨x.pre,Za x.size hz,fun a o e i=>?_,fun a o e f=>hs a o (ne a o e) (x.frz a o e f),fun a o e n f c=>hs a o (ne a o e) (x.keep a o e n f c),fun a o e n f=>?_⟩
 · obtain ⟨o',g,gc⟩:=x.cls a o e i
   exact ⟨o',hs a o' (ne a o e) g,gc⟩
 · obtain ⟨sl,g⟩:=x.frm a o e n f
   exact ⟨sl,hs a _ (ne a o e) g⟩
set_option tactic.hygienic true in
theorem Yvz {E:Value→Shared→Prop}{x:Value}{items:List V}{Q:Value→Shared→Prop}(R:Rep T ι σ s.heap) (r:Yau T ι s.heap v x) (hi:Yef σ v=some items)
   (k:∀ o,Yi6 T ι (s.heap.push o) v s.heap.objs.size 0→Q (.ref s.heap.objs.size) { s with heap:=s.heap.push o }):wpAny (model T.prog T.w) A (pyIter x) Q E s:=by
 cases v <;> first | exact (Yaf hi).elim | skip
 · obtain ⟨t,rfl⟩:=r.str_inv
   rename_i x
   cases ha:x.cps.all (· < 128)
   · exact wpAny_pyIter_wide ha (k _ (.wide _ t ⟨_,Zsc _ rfl,rfl,rfl⟩))
   · exact wpAny_pyIter_ascii ha (k _ (.asc _ t ⟨_,Zsc _ rfl,rfl,rfl⟩))
 · obtain ⟨a,its,n,rfl,ht,hv⟩:=r.tup_inv
   exact wpAny_pyIter_tuple ⟨_,ht,rfl,n,rfl⟩ (k _ (.tup _ a its n (Zx _ ht) (hv.mono (Ext.push T [] ι s.heap _).mono) ⟨_,Zsc _ rfl,rfl,rfl⟩))
 · obtain ⟨a,dd,rfl,e⟩:=r.ref_inv
   obtain ⟨vs,hvs,hi⟩:=Ydo hi
   obtain ⟨its,n,hL,hv⟩:=R.list_at hvs e
   exact wpAny_pyIter_list hL.isList (k _ (.lst _ a dd e ⟨_,Zsc _ rfl,rfl,rfl⟩))
 · rename_i n
   obtain ⟨hn,hi⟩:=Ydv hi
   obtain ⟨a,t1,t2,t3,rfl,hr⟩:=r
   refine wpAny_pyIter_range hr (small_one (by decide) (by decide) hn.1 hn.2) (k _ (.rng n ?_))
   have:Builtin.Range.rangeSize 0 n 1=(n.toNat:Int):=by unfold Builtin.Range.rangeSize; simp; split <;> (clear k hn hi hr; lia)
   rw [this]
   show _=_
   rw [Zsc _ rfl]; simp [rawInt]
 · exact r.elim
theorem Ykp {x:Str}{i:Nat}{y:V}(hy:(x.cps.toList.map fun c=>V.str ⟨#[c]⟩)[i]?=some y):∃ c,x.cps[i]?=some c∧y=.str ⟨#[c]⟩:=by
 rw [Zdb] at hy
 obtain ⟨c,hc,e⟩:=Zpb.mp hy
 exact ⟨c,Array.getElem?_toList▸hc,e.symm⟩
theorem Ypf {E:Value→Shared→Prop}{items:List V}{y:V}{Q:Option Value→Shared→Prop}(R:Rep T ι σ s.heap) (it:Yi6 T ι s.heap v I i) (hn:I∉own ι) (hi:Yef σ v=some items) (hy:items[i]?=some y)
   (k:∀ h' t x,Heap.SameBut I s.heap h'→Yau T ι h' y x→Yi6 T ι h' v I (i+1)→Q (some x) { s with heap:=h',toks:=t }):wpAny (model T.prog T.w) A (pyNext (.ref I)) Q E s:=by
 have hit:=it.iterish
 have mono:∀ {h'},Heap.SameBut I s.heap h'→Yed ι s.heap ι h':=fun hs=>.free (fun b o hb e=>(hs.2 b hb).trans e) hit ι
 induction it with
 | asc x t it =>
   obtain ⟨c,hc,rfl⟩:=Ykp (Yad hi▸hy)
   exact wpAny_pyNext_ascii_item it hc fun h' it' hs=>k h' _ _ hs .str_mk (.asc x t it')
 | wide x t it =>
   obtain ⟨c,hc,rfl⟩:=Ykp (Yad hi▸hy)
   exact wpAny_pyNext_wide_item it hc fun h' it' hs=>k h' _ _ hs .str_mk (.wide x t it')
 | tup vs a its n ht hv it =>
   obtain ⟨x,hx,rx⟩:=hv.get (Yad hi▸hy)
   exact wpAny_pyNext_tuple_item it ⟨_,ht,rfl,n,rfl⟩ (Array.getElem?_toList▸hx) fun h' it' hs=>k h' s.toks x hs (rx.mono (mono hs)) (.tup vs a its n ((mono hs).frz a _ ht (by simp [Ya1])) (hv.mono (mono hs)) it')
 | lst l a dd e it =>
   obtain ⟨vs,hvs,hi⟩:=Ydo hi
   obtain ⟨its,n,hL,hv⟩:=R.list_at hvs e
   obtain ⟨x,hx,rx⟩:=hv.get (Yad hi▸hy)
   exact wpAny_pyNext_list_item it hL.isList (Array.getElem?_toList▸hx) fun h' it' hs=>k h' s.toks x hs (rx.mono (mono hs)) (.lst l a dd e it')
 | rng n it =>
   obtain ⟨zz,rfl⟩:=Ydv hi
   rw [Zdb] at hy
   obtain ⟨j,hj,rfl⟩:=Zpb.mp hy
   obtain ⟨hlt,hj⟩:=Zb.mp hj
   rw [List.getElem_range] at hj
   rw [List.length_range] at hlt
   subst hj
   refine wpAny_pyNext_range_item it (by (clear k it; lia)) fun h' it' hs=>k h' _ _ hs .int_mk (.rng n ?_)
   rw [show ((n.toNat:Int) - ((i+1:Nat):Int))=(n.toNat:Int) - i - 1 by (clear it hlt k it'; lia)]
   exact it'
 | rev l n a dd hin e it =>
   obtain ⟨vs,hvs,hi⟩:=Ydo hi
   obtain ⟨hl,rfl⟩:=Ydv hi
   subst hl
   obtain ⟨its,m,hL,hv⟩:=R.list_at hvs e
   have hlt:i < vs.length:=by have:=(Zb.mp hy).1; rwa [Zec] at this
   rw [List.getElem?_reverse hlt] at hy
   obtain ⟨x,hx,rx⟩:=hv.get hy
   have e1:(vs.length:Int) - 1 - i=((vs.length - 1 - i:Nat):Int):=by clear k hv it rx; lia
   rw [e1] at it
   refine wpAny_pyNext_rev_item it hL.isList (Array.getElem?_toList▸hx) fun h' it' hs=>k h' s.toks x hs (rx.mono (mono hs)) (.rev l _ a dd hlt e ?_)
   rw [show (vs.length:Int) - 1 - ((i+1:Nat):Int)=((vs.length - 1 - i:Nat):Int) - 1 by clear k hv it rx it'; lia]; exact it'
theorem Yhh:entryFor table "proto.unchain" = some Builtin.«proto.unchain»:=entryFor_of_fast (by kernel_rfl)
theorem Yls {α:Type}{E:Value→Shared→Prop}{e:Addr}{oe:Obj}{vs:Array Value}{Q:α→Shared→Prop}(hx:Yb2 A ι s.heap) (he:s.heap.get? e=some oe) (hd:oe.data=.fields vs) (h2:2 < vs.size)
   (k:∀ h',Heap.SameBut e s.heap h'→(∃ oe',h'.get? e=some oe'∧oe'.cls=oe.cls)→E (.ref e) { s with heap:=h' }) :
   wpAny (model T.prog T.w) A (raiseNew (.ref e):Sem α) Q E s:=by
 unfold raiseNew
 refine Zhb (wpAny_handled ?_)
 cases hA:A.handled with
 | none=>exact Zhb (Zjb (wpAny_throw (k _ (.refl ..) ⟨_,he,rfl⟩)))
 | some v =>
   obtain ⟨ea,o,C,ws,rfl,g1,g2,g3,g4,g5⟩:=hx v hA
   dsimp only
   by_cases q:(Value.ref ea != Value.ref e)=true
   · rw [if_pos q]
     refine Zhb (wpAny_holding (runValue_entry Yhh ?_))
     unfold Builtin.«proto.unchain»
     dsimp only
     refine Zhb (wpAny_field g1 g3 g4 ?_)
     rw [if_pos (by decide)]
     refine Zhb (Zjb (Zjb ⟨_,rfl,?_⟩))
     refine Zhb (show wpAny _ _ (setField (.ref e) 2 (.ref ea)) _ _ _ from wpAny_setField he hd h2 (wpAny_throw (k _ (Heap.SameBut.update ..) ⟨_,Heap.get?_update_self _ he (Obj.isFreed_of_fields (Obj.data_mapFields hd _)),Obj.cls_mapFields _ _⟩)))
   · rw [if_neg q]
     exact Zhb (Zjb (wpAny_throw (k _ (.refl ..) ⟨_,he,rfl⟩)))
theorem Yj6 {E:Value→Shared→Prop}{it:Addr}{x left step:Int}{Q:Option Value→Shared→Prop}(hx:Yb2 A ι s.heap) (hit:IsRangeIter s.heap it x left step) (hleft:left≤0)
   (hQ:∀ h',Heap.ExtBut it s.heap h'→Q none { s with heap:=h' }):wpAny (model T.prog T.w) A (pyNext (.ref it)) Q E s:=by
 have hT:s.TypeIs (.ref it) "range_iterator":=⟨_,hit,rfl⟩
 unfold pyNext
 refine Zhb (wpAny_attempt (wpAny_callSpecial?_slot (name:=Str.ofString "__next__") hT F.slot_range_iterator_next
   (wpAny_call_entry F.slot_range_iterator_next hT F.entry_range_iterator_next ?_ (F.args_range_iterator_next_1 _))))
 show wpAny _ _ (field (.ref it) 0 >>= _) _ _ s
 refine Zhb (wpAny_field hit rfl (x:=rawInt x) rfl ?_)
 show wpAny _ _ (field (.ref it) 1 >>= _) _ _ s
 refine Zhb (wpAny_field hit rfl (x:=rawInt left) rfl ?_)
 show wpAny _ _ (field (.ref it) 2 >>= _) _ _ s
 refine Zhb (wpAny_field hit rfl (x:=rawInt step) rfl ?_)
 show wpAny _ _ (if left≤0 then _ else _) _ _ s
 rw [if_pos hleft]
 refine Zhb (wpAny_rule ?_)
 refine Zhb ?_
 show wpAny _ _ (newExc (.type "StopIteration") [] >>= _) _ _ _
 refine Zhb ?_
 simp only [newExc,newTuple]
 refine Zhb (wpAny_newObj_type ?_ (by size_fits))
 refine Zhb (m:=firstArgMember _ _) (wpAny_of_eq (a:=Value.none) (by first | rfl | (simp only [firstArgMember]; rfl)) ?_)
 refine wpAny_newObj_type ?_ (by size_fits)
 have kp:∀ (o₁ o₂:Obj) b o,s.heap.get? b=some o→((s.heap.push o₁).push o₂).get? b=some o:=fun zz zz b o e=>Zx _ (Zx _ e)
 have hx1:Yb2 A.in1 ι s.heap:=hx
 refine Yls (ι:=ι) (hx1.keep fun a o C e1 e2 e3=>⟨kp _ _ _ _ e1,e3⟩) (Zsc _ rfl) rfl (by simp; (clear hleft; exact Zq (Ztb (Nat.succ 2).succ 2))) fun h' hs ho=>?_
 obtain ⟨oe',ho1,ho2⟩:=ho
 refine Zhb (wpAny_isInstance (T:="StopIteration") (b:=true) ⟨_,ho1,ho2⟩ isSubtype_stop ?_)
 refine Zjb (hQ _ fun b o hb e=>(hs.2 b (fun q=>?_)).trans (kp _ _ _ _ e))
 have:=Zu e
 rw [q,Zqb] at this
 exact absurd this (Zo.mpr (Nat.le_succ _))
theorem Ytf {E:Value→Shared→Prop}{items:List V}{Q:Option Value→Shared→Prop}(hh:A.handled=none∨(Yb2 A ι s.heap∧∃ n,v=.rng n)) (R:Rep T ι σ s.heap) (it:Yi6 T ι s.heap v I i) (hi:Yef σ v=some items) (hy:items.length≤i)
   (k:∀ h',Heap.ExtBut I s.heap h'→s.heap.objs.size≤h'.objs.size→Q none { s with heap:=h' }):wpAny (model T.prog T.w) A (pyNext (.ref I)) Q E s:=by
 have hN:(∀ n,v≠.rng n)→A.handled=none:=fun q=>hh.elim id fun p=>p.2.elim fun n e=>absurd e (q n)
 have fin:wpAny (model T.prog T.w) A (pyNext (.ref I)) (fun r s'=>r=none∧∃ h',s'={ s with heap:=h' }∧Heap.ExtBut I s.heap h') E s:=by
   clear k
   induction it with
   | asc x t it=>exact wpAny_pyNext_ascii_end (hN nofun) it (by cases Yad hi; simpa using hy) fun h' e=>⟨rfl,h',rfl,e⟩
   | wide x t it=>exact wpAny_pyNext_wide_end (hN nofun) it (by cases Yad hi; simpa using hy) fun h' e=>⟨rfl,h',rfl,e⟩
   | tup vs a its n ht hv it=>exact wpAny_pyNext_tuple_end (hN nofun) it ⟨_,ht,rfl,n,rfl⟩ (Array.getElem?_eq_none (by rw [Yd6 hv,Yad hi]; exact hy)) fun h' e=>⟨rfl,h',rfl,e⟩
   | lst l a dd e it =>
     obtain ⟨vs,hvs,hi⟩:=Ydo hi
     obtain ⟨its,n,hL,hv⟩:=R.list_at hvs e
     exact wpAny_pyNext_list_end (hN nofun) it hL.isList (Array.getElem?_eq_none (by rw [Yd6 hv,Yad hi]; exact hy)) fun h' e=>⟨rfl,h',rfl,e⟩
   | rng n it =>
     obtain ⟨zz,rfl⟩:=Ydv hi
     simp only [Zc,List.length_range] at hy
     exact hh.elim (fun hh=>wpAny_pyNext_range_end hh it (by (clear hN it; lia)) fun h' e=>⟨rfl,h',rfl,e⟩) fun hh=>Yj6 hh.1 it (by (clear hh hN it; lia)) fun h' e=>⟨rfl,h',rfl,e⟩
   | rev l n a dd hin e it =>
     obtain ⟨vs,hvs,hi⟩:=Ydo hi
     obtain ⟨hl,rfl⟩:=Ydv hi
     rw [Zec,hl] at hy
     rw [show (n:Int) - 1 - (i:Int) = -1 from by rw [Zpc hin hy]; clear hN it; lia] at it
     exact wpAny_pyNext_rev_end (hN nofun) it fun h' e=>⟨rfl,h',rfl,e⟩
 refine Zib (Ybo fin) (fun r s' p=>?_) fun zz zz p=>p.1
 obtain ⟨⟨rfl,h',rfl,e⟩,hz⟩:=p
 exact k h' e hz
theorem Ygd {E:Value→Shared→Prop}{target:Expr}{x:Value}{Q:Unit→Shared→Prop}(it:Yi6 T ι s.heap v I i) (k:Q () s):wpAny (model T.prog T.w) A (letOwnedTupleGo target (.ref I) x) Q E s:=by
 obtain ⟨o,n,vs,ho,hc,hn,hd⟩:=it.obj
 have no:["enumerate", "zip", "dict_itemiterator", "dict_reverseitemiterator", "odict_iterator", "itertools.zip_longest", "itertools.pairwise"].contains n=false:=(by decide:∀ n∈Yc5,["enumerate", "zip", "dict_itemiterator", "dict_reverseitemiterator", "odict_iterator", "itertools.zip_longest", "itertools.pairwise"].contains n=false) n hn
 have main:∀ a,wpAny (model T.prog T.w) A (do
     let o ← load I
     match o.cls,o.data with
     | .type n,.fields vs =>
       if ["enumerate", "zip", "dict_itemiterator", "dict_reverseitemiterator", "odict_iterator", "itertools.zip_longest", "itertools.pairwise"].contains n && vs[0]? == some (rawInt a) then
         rule "for.unpacks-the-owned-tuple"
         updateField I 0 .none
     | z1,z2=>pure ()) Q E s:=fun a=>by
   refine Zhb (wpAny_load ho ?_)
   rw [hc,hd]
   simp only [no,Bool.false_and,Bool.false_eq_true,if_false]
   exact Zjb k
 cases target <;> first | exact Zjb k | (cases x <;> first | exact main _ | exact Zjb k)
end
end
section
noncomputable def nx1 (x:Str) (v:V) (ρ:Loc):Option Loc:=some (upd ρ x (some v))
noncomputable def nx2 (a b:Str) (v:V) (ρ:Loc):Option Loc:=match v with
 | .tup [p,q]=>some (upd (upd ρ a (some p)) b (some q))
 | z1=>none
set_option tactic.hygienic true in
theorem Yu4 {a b:Str}{v:V}{ρ ρ':Loc}(h:nx2 a b v ρ=some ρ'):∃ p q,v=.tup [p,q]∧upd (upd ρ a (some p)) b (some q)=ρ':=by
 cases v <;> first | exact (Yaf h).elim | skip
 rename_i vs
 rcases vs with zz | ⟨p,zz | ⟨q,zz | zz⟩⟩ <;> first | exact (Yaf h).elim | exact ⟨p,q,rfl,Yad h⟩
noncomputable def Yu8 (Q:QS) (N:Loc→Hp→Prop):QS:=fun fl ρ σ=>match fl with
 | .next | .cont=>N ρ σ
 | .brk=>Q .next ρ σ
 | .ret v=>Q (.ret v) ρ σ
section
variable {T:Tp}{A:Around}{fs:List Env}{d:Nat}{env:Env}{F:List Addr}{ι ι':Inj}{h h':Heap}{s:Shared}{ρ:Loc}{σ:Hp}{sc:Scope}{v:V}{I:Addr}{i:Nat}
theorem Ynl {M:Model}{A':Around}{E:Value→Shared→Prop}{x:Str}{v:V}{y:Value}{Q:Unit→Shared→Prop}(I:Inv T A fs d env F ρ ι σ s) (hk:Yar env.scope x=true) (r:Yau T ι s.heap v y)
   (k:∀ h' t,Inv T A fs d env F (upd ρ x (some v)) ι σ { s with heap:=h',toks:=t }→Ext T F ι s.heap ι h'→Q () { s with heap:=h',toks:=t }):wpAny M A' (storeName env x y) Q E s :=
 Yfq I.rep I.frm hk r fun h' t R' H' e' ds=>k h' t (I.stored R' H' e' ds) e'
theorem Inv.grown {h':Heap}(I0:Inv T A fs d env F ρ ι σ s) (hz:s.heap.objs.size≤h'.objs.size) (k:∀ b o,s.heap.get? b=some o→h'.get? b=some o):Inv T A fs d env F ρ ι σ { s with heap:=h' } :=
 I0.ext (.of_keeps hz k) (I0.rep.grow hz k) I0.gens I0.os
theorem Yq2 {E:Value→Shared→Prop}{a:Addr}{items:Array Value}{n:Nat}{Q:List Value→Shared→Prop}(hh:A.handled=none) (ht:IsT s.heap a items n)
   (k:∀ h',s.heap.objs.size≤h'.objs.size→(∀ b o,s.heap.get? b=some o→h'.get? b=some o)→Q items.toList { s with heap:=h' }):wpAny (model T.prog T.w) A (unpackItems (.ref a) items.size none) Q E s:=by
 have fin:wpAny (model T.prog T.w) A (unpackItems (.ref a) items.size none) (fun r s'=>r=items.toList∧∃ h',s'={ s with heap:=h' }∧Heap.ExtBut s.heap.objs.size s.heap h') E s :=
   unpackItems_tuple hh ⟨_,ht,rfl,n,rfl⟩ fun h' e=>⟨rfl,h',rfl,e⟩
 refine Zib (Ybo fin) (fun r s' p=>?_) fun zz zz p=>p.1
 obtain ⟨⟨rfl,h',rfl,e⟩,hz⟩:=p
 exact k h' hz fun b o hb=>e b o (Znc (Zu hb)) hb
noncomputable def Yui (T:Tp) (d:Nat) (sc:Scope) (t:Expr) (nx:V→Loc→Option Loc):Prop :=
 ∀ {E:Value→Shared→Prop}{Q:Unit→Shared→Prop}{env:Env}{A:Around}{fs:List Env}{F:List Addr}{ρ ρ':Loc}{ι:Inj}{σ:Hp}{s:Shared}{v:V}{x:Value},env.scope=sc→Inv T A fs d env F ρ ι σ s→Yau T ι s.heap v x→nx v ρ=some ρ' →
   (∀ h' tk,Inv T A fs d env F ρ' ι σ { s with heap:=h',toks:=tk }→Ext T F ι s.heap ι h'→Q () { s with heap:=h',toks:=tk })→wpAny (model T.prog T.w) A (assign t env x) Q E s
theorem Yyb {x:Str}{p:Pos}(ht:Yar sc x=true):Yui T d sc (.Name x p) (nx1 x):=fun hsc I r hl k=>by
 cases hl; exact wpAny_assign_Name (Ynl I (hsc▸ht) r k)
theorem Yug {na nb:Str}{pa pb pp:Pos}{kk:Nat}(hd:T.hd=false) (ha:Yar sc na=true) (hb:Yar sc nb=true):Yui T d sc (.Tuple [.Name na pa,.Name nb pb] kk pp) (nx2 na nb):=by
 intro E Q env A fs F ρ ρ' ι σ s v x hsc I r hl k
 subst hsc
 obtain ⟨p,q,rfl,rfl⟩:=Yu4 hl
 · obtain ⟨a,items,n,rfl,hT,hv⟩:=r.tup_inv
   refine ex2 (VRels.cons_iff.mp hv) fun y₁ r₁ h9=>Ygi h9 fun e₁ v₁ hv=>?_
   obtain ⟨y₂,r₂,rfl,v₂,hv⟩:=VRels.cons_iff.mp hv
   cases VRels.nil_iff.mp hv
   have hsz:items.size=2:=by rw [← Array.length_toList,e₁]; rfl
   rw [arm_assign_Tuple]
   refine Zhb (wpAny_standAt ?_)
   unfold unpack
   show wpAny _ _ (do assignInOrder [assign (.Name na _) env,assign (.Name nb _) env] (← holding [.ref a] (unpackItems (.ref a) 2 none))) _ _ _
   refine Zhb (wpAny_holding (hsz▸Yq2 (I.aok.hd hd) hT fun h' hz hk=>?_))
   have e0:Ext T F ι s.heap ι h':=.of_keeps hz hk
   rw [e₁]
   refine assignInOrder_cons (wpAny_assign_Name (Ynl (I.grown hz hk) ha (v₁.mono e0.mono) fun h₂ t₂ I₂ e₂=>?_))
   refine assignInOrder_cons (wpAny_assign_Name (Ynl I₂ hb (v₂.mono (e0.trans e₂).mono) fun h₃ t₃ I₃ e₃=>?_))
   exact assignInOrder_nil (k h₃ t₃ I₃ (e0.trans (e₂.trans e₃)))
theorem Ybe.while {X:XS}{Q:QS}{test:Expr}{body:List Stmt}{pos:Pos}(J:Nat→Loc→Hp→Prop) (n:Nat) (h0:J n ρ σ)
   (turn:∀ n ρ σ,J n ρ σ→Yd1 T d sc ρ X test (fun b σ₁=>if b then Yda T d sc ρ X body (Yu8 Q fun ρ₂ σ₂=>∃ m,m < n∧J m ρ₂ σ₂) σ₁ else Q .next ρ σ₁) σ):Ybe T d sc ρ X (.While test body [] pos) Q σ:=by
 intro env A fs F ι s hsc I
 have hb:=I.rep.size
 refine wpAny_While (codeAny_whileLoop (fun n s'=>∃ ρ' σ' ι',J n ρ' σ'∧Inv T A fs d env F ρ' ι' σ' s'∧Ext T F ι s.heap ι' s'.heap) (fun n s' hJ=>?_) n ⟨ρ,σ,ι,h0,I,.refl ..⟩)
 refine ex3 hJ fun ρ' σ' ι' h=>Ygi h fun j I' e'=>?_
 refine Zib (turn n ρ' σ' j env A fs F ι' s' hsc I') (fun b s₁ p=>?_) fun x s₁ p=>Yj1 hb ((p.sx I' fun zz zz k=>k).trans e')
 obtain ⟨σ₁,ι₁,q,rp,ex,g,o⟩:=p
 have I₁:=I'.ext ex rp g o
 have e₁:=e'.trans ex.up
 cases b
 · exact wpAny_execs_nil ⟨.next,ρ',σ₁,ι₁,q,.next,I₁,e₁⟩
 · refine Zib (q env A fs F ι₁ s₁ hsc I₁) (fun f s₂ p=>?_) fun x s₂ p=>Yj1 hb (p.trans e₁)
   obtain ⟨fl,ρ₂,σ₂,ι₂,q₂,r₂,I₂,e₂⟩:=p
   induction r₂ with
   | next=>obtain ⟨m,hm,jm⟩:=q₂; exact ⟨m,hm,ρ₂,σ₂,ι₂,jm,I₂,e₁.trans e₂⟩
   | brk=>exact ⟨.next,ρ₂,σ₂,ι₂,q₂,.next,I₂,e₁.trans e₂⟩
   | cont=>obtain ⟨m,hm,jm⟩:=q₂; exact ⟨m,hm,ρ₂,σ₂,ι₂,jm,I₂,e₁.trans e₂⟩
   | ret r₂=>exact ⟨.ret _,ρ₂,σ₂,ι₂,q₂,.ret r₂,I₂,e₁.trans e₂⟩
theorem Ykf {prog:Program}{w:World}{R:Result→Shared→Prop}{target:Expr}{it:Value}{body orelse:List Stmt}(J:Nat→Shared→Prop)
   (turn:∀ n s,J n s→wpAny (model prog w) A (pyNext it) (fun r s₁=>match r with
     | none=>wpAny (model prog w) A (execs orelse env) (fun f s₃=>R (.ok f) s₃) (notedBy (model prog w) A env fun e s'=>R (.error e) s') s₁
     | some v=>wpAny (model prog w) A (letOwnedTupleGo target it v) (fun zz s₁=>wpAny (model prog w) A (assign target env v) (fun zz s₂=>wpAny (model prog w) A (execs body env) (fun f s₃=>match f with
         | .next | .cont=>∃ m,m < n∧J m s₃
         | .brk=>R (.ok .next) s₃
         | .ret v=>R (.ok (.ret v)) s₃) (notedBy (model prog w) A env fun e s'=>R (.error e) s') s₂) (notedBy (model prog w) A env fun e s'=>R (.error e) s') s₁) (notedBy (model prog w) A env fun e s'=>R (.error e) s') s₁)
     (notedBy (model prog w) A env fun e s'=>R (.error e) s') s)
   (n:Nat) (h:J n s):codeAny (model prog w) A (.forLoop target it body orelse env) R s:=by
 refine codeAny_loop' rfl J (fun n s hJ=>?_) n h
 show wpAny _ _ ((forTurn target it body orelse env).onRaise (fun x=>do noteFrame x env; theTreesLotGoes x)) _ _ s
 refine wpAny_noted ?_
 simp only [forTurn]
 refine Zhb (wpAny_standAt (Zhb (wpAny_onRaise (Zib (turn n s hJ) (fun r s₁ h₁=>?_) fun zz zz h'=>wpAny_standAt h'))))
 cases r with
 | none=>exact Zjb (.inr ⟨rfl,codeAny_block h₁⟩)
 | some v =>
   refine Zhb (Zib h₁ (fun zz s₁ h₁=>?_) fun zz zz h'=>h')
   refine Zhb (Zib h₁ (fun zz s₂ h₂=>Zhb (Zib h₂ (fun f s₃ h₃=>?_) fun zz zz h'=>h')) fun zz zz h'=>h')
   cases f with
   | next=>exact Zjb (.inl ⟨rfl,h₃⟩)
   | cont=>exact Zjb (.inl ⟨rfl,h₃⟩)
   | brk=>exact Zjb h₃
   | ret v=>exact Zjb h₃
noncomputable def Yfn (e:Expr):Bool:=!Nat.beq e.ctorIdx 7
theorem Yiz {e:Expr}{x:Value}(h:Yfn e=true):foldedSetIterable e env x=pure x:=by cases e <;> first | rfl | exact (Zv h).elim
inductive Ycb (T:Tp) (d:Nat) (sc:Scope) (X:XS) (nx:V→Loc→Option Loc) (body:List Stmt) (Q:QS) (v:V) (ρ:Loc) (σ₁:Hp):Prop where
 | mk (items:List V) (J:Nat→Loc→Hp→Prop) (h0:J 0 ρ σ₁) (h1:∀ i ρ σ,J i ρ σ→Yef σ v=some items) (h2:∀ ρ σ,J items.length ρ σ→Q .next ρ σ)
     (h3:∀ i x ρ σ,J i ρ σ→items[i]?=some x→∃ ρ',nx x ρ=some ρ'∧Yda T d sc ρ' X body (Yu8 Q (J (i+1))) σ):Ycb T d sc X nx body Q v ρ σ₁
inductive ItR (T:Tp) (K:V→Hp→Prop) (ι:Inj) (h:Heap) (x:Value) (s':Shared):Prop where
 | of (v:V) (σ':Hp) (ι':Inj) (h0:K v σ') (h1:Yau T ι' s'.heap v x) (h2:Rep T ι' σ' s'.heap) (h3:Ext T [] ι h ι' s'.heap) (h4:s'.gens = #[]) (h5:s'.os=T.os):ItR T K ι h x s'
 | rev (l n:Nat) (I:Addr) (σ':Hp) (ι':Inj) (h0:K (.rev l n) σ') (h1:x=.ref I) (hI:Yi6 T ι' s'.heap (.rev l n) I 0) (hn:h.objs.size≤I) (ho:I∉own ι') (h2:Rep T ι' σ' s'.heap) (h3:Ext T [] ι h ι' s'.heap) (h4:s'.gens = #[]) (h5:s'.os=T.os):ItR T K ι h x s'
noncomputable def Yko (T:Tp) (d:Nat) (sc:Scope) (ρ:Loc) (X:QX) (e:Expr) (K:V→Hp→Prop) (σ:Hp):Prop :=
 ∀ env A fs F ι s,env.scope=sc→Inv T A fs d env F ρ ι σ s→wpAny (model T.prog T.w) A (eval e env) (ItR T K ι s.heap) (Yaz T [] X ι s.heap) s
theorem Yai.it {X:QX}{e:Expr}{K:V→Hp→Prop}(h:Yai T d sc ρ X e K σ):Yko T d sc ρ X e K σ:=fun env A fs F ι s hsc I =>
 Zib (h env A fs F ι s hsc I) (fun zz zz p=>(by obtain ⟨v,σ',ι',a,b,c,e,f,g⟩:=p; exact .of v σ' ι' a b c e f g)) fun zz zz p=>p
theorem Yko.reversed {X:QX}{x:Str}{np pos:Pos}{e:Expr}{K:V→Hp→Prop}(TO:Yag T) (hg:Yai T d sc ρ X (.Name x np) (fun f σ₁=>f=.type "reversed" ∧ σ₁=σ) σ) (ns:Ybz [e]=true)
   (h:Yai T d sc ρ X e (fun v σ₁=>∃ l vs,v=.ref l∧σ₁[l]?=some (.list vs)∧K (.rev l vs.length) σ₁) σ):Yko T d sc ρ X (.Call (.Name x np) [e] [] pos) K σ:=by
 have h':Ydc T d sc ρ X [e] (fun us σ₁=>∃ v,us=[v]∧∃ l vs,v=.ref l∧σ₁[l]?=some (.list vs)∧K (.rev l vs.length) σ₁) σ:=Ydc.cons (h.mono (fun v σ₁ q=>Ydc.nil ⟨v,rfl,q⟩) fun zz zz k=>k)
 intro env A fs F ι s hsc I
 rw [arm_eval_Call_Name']
 refine Zhb (Zib (hg env A fs F ι s hsc I) (fun fv s₁ p=>?_) fun zz zz p=>p)
 obtain ⟨f,σ₁,ι₁,⟨rfl,rfl⟩,rv,rp,ex,g,o⟩:=p
 subst rv
 have I₁:=I.ext ex rp g o
 rw [Ybm ns]
 refine PySem.W.callWith_of (P:=T.K.In) (by rw [show backToKw pos (keywordEach [] env)=[] from rfl]; simp) (Yi4 (f:=.type "reversed") (ι:=ι₁) (h:=s₁.heap) (.inl rfl) (rfl) (.inl rfl)) (Yby (Zib (h' env A fs F ι₁ s₁ hsc I₁) (fun xs s₂ p=>?_) fun zz zz p=>p.trans ex))
 obtain ⟨vs,σ₂,ι₂,⟨v,rfl,l,ls,rfl,hl,q⟩,rvs,rp₂,ex₂,g₂,o₂⟩:=p
 have I₂:=I₁.ext ex₂ rp₂ g₂ o₂
 refine ⟨TO.X0.keeps I₂.rep.base,?_⟩
 obtain ⟨y,r',rfl,ry,rr⟩:=VRels.cons_iff.mp rvs
 cases VRels.nil_iff.mp rr
 obtain ⟨a,dd,rfl,e1⟩:=ry.ref_inv
 refine ex2 (rp₂.list_at hl e1) fun its n h9=>h9.elim fun hL hv=>?_
 refine call_reversed_list hL.isList ?_
 have hz:(its.size:Int)=ls.length:=by have:=hv.length; simp only [Array.length_toList] at this; rw [this]
 have e2:Ext T [] ι₂ s₂.heap ι₂ (s₂.heap.push (revObj a ((its.size:Int) - 1))):=.push ..
 refine .rev l ls.length s₂.heap.objs.size σ₂ ι₂ q rfl (.rev l ls.length a dd (Zkb _) e1 ⟨_,Zsc _ rfl,rfl,?_⟩) (Za ex.size ex₂.size) (fun h=>absurd (rp₂.own_lt h) (Zub _)) (rp₂.grow e2.size fun b o e=>Zx _ e) (ex.trans (ex₂.trans e2)) g₂ o₂
 simp only [revObj,hz]; simp
theorem Ypr {K:V→Hp→Prop}{E:Value→Shared→Prop}{x:Value}{Q:Value→Shared→Prop}{s₁:Shared}(I:Inv T A fs d env F ρ ι σ s) (p:ItR T K ι s.heap x s₁) (hi:∀ v σ,K v σ→∃ items,Yef σ v=some items)
   (k:∀ v σ₁ ι₁ I h₂,K v σ₁→Inv T A fs d env F ρ ι₁ σ₁ { s₁ with heap:=h₂ }→Ext T [] ι s.heap ι₁ h₂→Yi6 T ι₁ h₂ v I 0→I∉own ι₁→s.heap.objs.size≤I→Q (.ref I) { s₁ with heap:=h₂ }):wpAny (model T.prog T.w) A (pyIter x) Q E s₁:=by
 cases p with
 | of v σ₁ ι₁ q rv rp ex g o =>
   have I₁:=I.ext ex rp g o
   obtain ⟨items,hit⟩:=hi v σ₁ q
   refine Yvz I₁.rep rv hit fun ob it0=>?_
   have e1:Ext T [] ι₁ s₁.heap ι₁ (s₁.heap.push ob):=.push ..
   exact k v σ₁ ι₁ _ _ q (I₁.grown (h':=s₁.heap.push ob) e1.size fun b o e=>Zx _ e) (ex.trans e1) it0 (fun q=>absurd (I₁.rep.own_lt q) (Zub _)) ex.size
 | rev l n J σ₁ ι₁ q e hI hn ho rp ex g o =>
   subst e
   have hr:∃ a j,s₁.heap.IsRevIter J a j:=by cases hI; exact ⟨_,_,by assumption⟩
   refine ex2 hr fun a zz hr=>?_
   exact wpAny_pyIter_revIter hr (k _ σ₁ ι₁ J s₁.heap q (I.ext ex rp g o) ex hI ho hn)
theorem Ybe.forG {X:XS}{Q:QS}{target iter:Expr}{body:List Stmt}{pos:Pos}{nx:V→Loc→Option Loc}
   (he:Yko T d sc ρ X iter (fun v σ₁=>Ycb T d sc X nx body Q v ρ σ₁) σ)
   (ha:Yui T d sc target nx) (hs:Yfn iter=true) (hd:T.hd=false):Ybe T d sc ρ X (.For target iter body [] pos) Q σ:=by
 intro env A fs F ι s hsc I
 have hb:=I.rep.size
 refine wpAny_For (Zib (he env A fs F ι s hsc I) (fun x s₁ p=>?_) fun zz zz p=>p.sx I fun zz zz k=>k) fun zz=>Yiz hs
 refine Ypr I p (fun v σ ⟨items,J,h0,h1,_,_⟩=>⟨items,h1 0 _ _ h0⟩) fun v σ₁ ι₁ Ia h₂ ⟨items,J,j0,jit,jend,jturn⟩ I₂ e1 it0 hn0 hI0=>?_
 have hbI:T.b0.objs.size≤Ia:=Za hb hI0
 obtain ⟨JJ,hJJ⟩:∃ JJ:Nat→Shared→Prop,∀ n s',JJ n s'↔∃ i ρ' σ' ι',n=items.length - i∧i≤items.length∧J i ρ' σ'∧Inv T A fs d env F ρ' ι' σ' s'∧Ext T F ι s.heap ι' s'.heap∧Yi6 T ι' s'.heap v Ia i∧Ia∉own ι':=⟨_,fun zz zz=>Iff.rfl⟩
 refine Ykf JJ (fun n s' hJ=>?_) items.length ((hJJ _ _).mpr ⟨0,ρ,σ₁,ι₁,rfl,Zkb _,j0,I₂,e1.up,it0,hn0⟩)
 refine ex4 ((hJJ _ _).mp hJ) fun i ρ' σ' ι' h=>Yz9 h fun hn0 hi j I' e' it hn=>?_
 clear h
 subst hn0
 have isit:=it.iterish
 have hF:Ia∉F:=fun q=>by
   obtain ⟨o1,g1,zz,g3⟩:=I'.frm.there _ q
   obtain ⟨o2,g4,g5⟩:=isit
   rw [g1] at g4; cases g4; rw [Yc2 g3] at g5; cases g5
 by_cases hlt:i < items.length
 · have hx:items[i]?=some items[i]:=Zp hlt
   refine Ypf I'.rep it hn (jit i ρ' σ' j) hx fun h' t y hs' ry it'=>?_
   have hk:∀ b o,b≠Ia→s'.heap.get? b=some o→h'.get? b=some o:=fun b o hb e=>(hs'.2 b hb).trans e
   have I₃:Inv T A fs d env F ρ' ι' σ' { s' with heap:=h',toks:=t }:=I'.free hk (Zr hs'.1.symm) isit hn hbI
   have e₃:Ext T F ι s.heap ι' h':=e'.free hk (Zr hs'.1.symm) hI0
   refine Ygd (s:={ s' with heap:=h',toks:=t }) it' ?_
   refine (jturn i _ ρ' σ' j hx).elim fun ρ'' h9=>h9.elim fun hl hbody=>?_
   refine ha hsc I₃ ry hl fun h₄ t₄ I₄ e₄=>?_
   refine Zib (hbody env A fs F ι' _ hsc I₄) (fun f s₅ p=>?_) fun x s₅ p=>Yj1 hb (p.trans (e₃.trans e₄))
   obtain ⟨fl,ρ₅,σ₅,ι₅,q₅,r₅,I₅,e₅⟩:=p
   have e₆:=e₃.trans (e₄.trans e₅)
   have e45:=e₄.trans e₅
   have next:J (i+1) ρ₅ σ₅→∃ m,m < items.length - i∧JJ m s₅:=fun q=>by
     refine ⟨items.length - (i+1),Zqc hlt (Zs i),(hJJ _ _).mpr ⟨i+1,ρ₅,σ₅,ι₅,rfl,hlt,q,I₅,e₆,?_,?_⟩⟩
     · refine it'.keep e45.mono fun o ho=>?_
       obtain ⟨o',g,gi⟩:=it'.iterish
       rw [ho] at g; cases g
       exact e45.keep _ o ho hn hF fun q=>Zv ((Yco q (by decide)).symm.trans gi)
     · obtain ⟨o',g,gi⟩:=it'.iterish
       exact e45.not_own hn (Zu g)
   induction r₅ with
   | next=>exact next q₅
   | brk=>exact ⟨.next,ρ₅,σ₅,ι₅,q₅,.next,I₅,e₆⟩
   | cont=>exact next q₅
   | ret r₅=>exact ⟨.ret _,ρ₅,σ₅,ι₅,q₅,.ret r₅,I₅,e₆⟩
 · have:i=items.length:=Zpc hi (Zo.mp hlt)
   subst this
   refine Ytf (.inl (I'.aok.hd hd)) I'.rep it (jit _ ρ' σ' j) (Zl _) fun h' he hz=>?_
   have I₃:Inv T A fs d env F ρ' ι' σ' { s' with heap:=h' }:=I'.free (t:=s'.toks) (fun b o hb e=>he b o hb e) hz isit hn hbI
   exact wpAny_execs_nil ⟨.next,ρ',σ',ι',jend ρ' σ' j,.next,I₃,e'.free (fun b o hb e=>he b o hb e) hz hI0⟩
end
end
section
structure Ye9 (T:Tp) (c:Str) (C:Addr):Prop where
 addr:T.c c=some C
 ga:PySem.W.findIn T.K (.ref C) "__getattribute__" = some (some (.builtin "object.__getattribute__"))
 gx:PySem.W.findIn T.K (.ref C) "__getattr__" = some none
 sa:PySem.W.findIn T.K (.ref C) "__setattr__" = some (some (.builtin "object.__setattr__"))
 dict:((PySem.W.clsIn T.K C).any (·.hasDict))=true
 over:PySem.W.plainOver T.K C=true
noncomputable def Yp2 (vv:V):Bool:=vv.casesOn (true) (fun _=>true) (fun _=>true) (fun _=>true) (fun _=>true) (fun _=>true) (fun _=>false) (fun _ _=>false) (fun _=>false) (fun _=>false) (fun _=>true) (fun _=>true) (fun _=>false) (fun _ _=>false)
theorem Ywm {T:Tp}{ι:Inj}{h:Heap}{v:V}{x:Value}(e:Yp2 v=true) (r:Yau T ι h v x):PySem.W.handedIn x=true:=by
 cases v <;> first | (cases e; done) | skip
 · cases r.none_inv; rfl
 · cases r.bool_inv; rfl
 · obtain ⟨zz,rfl⟩:=r.int_inv; rfl
 · obtain ⟨zz,rfl⟩:=r.str_inv; rfl
 · obtain ⟨zz,zz,zz,rfl,zz⟩:=r.tup_inv; rfl
 · obtain ⟨zz,zz,rfl,zz⟩:=r.ref_inv; rfl
 · obtain ⟨zz,zz,zz,zz,rfl,zz⟩:=r; rfl
 · obtain ⟨zz,zz,zz,rfl,zz⟩:=r; rfl
theorem Ynr {α:Type}{o:Option α}{f:α→Bool}(h:o.any f=true):∃ x,o=some x∧f x=true:=by
 cases o with
 | none=>cases h
 | some x=>exact ⟨x,rfl,h⟩
theorem Yi2 {o:Obj}{es:Array DictEntry}{ep:Nat}(hd:o.data=.dict es ep) (hk:StrKeys es) (name:Str):PySem.W.lookIn name o=some (nsFind es name):=by
 unfold PySem.W.lookIn
 rw [hd]
 dsimp only
 have hn:nsFind es name=(es.toList.find? (·.key.isStr name)).map (·.val):=by
   rw [Array.find?_toList]; rfl
 rw [hn]
 cases hf:es.toList.find? (·.key.isStr name) with
 | some e=>rfl
 | none =>
   have:es.toList.any (·.refKey)=false:=by
     rw [Array.any_toList,Array.any_eq_false']
     intro e he
     refine ex2 (hk e he) fun n t h=>?_
     simp [DictEntry.refKey,h]
   simp [this]
section
variable {T:Tp}{A:Around}{fs:List Env}{d:Nat}{env:Env}{F:List Addr}{ι ι':Inj}{h h':Heap}{s:Shared}{ρ:Loc}{σ:Hp}{sc:Scope}{X:QX}{Q:QE}
inductive Yyn (T:Tp) (ι:Inj) (h:Heap) (a dx C:Addr) (fs:List (Str×V)):Prop where
 | mk (sl:Array (Option Value)) (o:Obj) (es:Array DictEntry) (ep:Nat) (h1:h.get? a=some ⟨.ref C,some dx,.plain,sl⟩) (h2:h.get? dx=some o) (h3:PySem.W.InstAt h a ⟨.ref C,some dx,.plain,sl⟩ C (some o)) (h4:o.cls=.type "dict") (h5:o.data=.dict es ep) (h6:StrKeys es) (h7:∀ x,Yc3 T ι h (fs.lookup x) (nsFind es x)):Yyn T ι h a dx C fs
theorem Rep.inst_at (r:Rep T ι σ h) {l:Nat}{c:Str}{fs:List (Str×V)}{a dx:Addr}{C:Addr}(e:σ[l]?=some (.inst c fs)) (q:ι[l]?=some (a,dx)) (hc:T.c c=some C):Yyn T ι h a dx C fs:=by
 obtain ⟨C',m,sl,c1,c2,⟨o,es,ep,d1,d2,d3,d4,d5,d6,d7⟩,c4⟩:=r.objs l _ _ e q
 cases Yad (hc.symm.trans c1)
 exact ⟨sl,o,es,ep,c2,d1,⟨c2,rfl,rfl,d1⟩,d2,d4,d5,fun x=>d7 x▸c4 x⟩
theorem Ysc {K:PySem.W.Frag}{C:Addr}{attr:Str}{o:Obj}{es:Array DictEntry}{ep:Nat}{y:Value}(hd:((PySem.W.clsIn K C).any (·.hasDict))=true) (hf:PySem.W.findIn K (.ref C) attr=some none) (h4:o.data=.dict es ep) (h5:StrKeys es) (hm:nsFind es attr=some y) :
   PySem.W.findObj K C (some o) attr=some (.value y):=by
 refine (Ynr hd).elim fun cd h9=>h9.elim fun hcd hdict=>?_
 unfold PySem.W.findObj
 rw [hcd,Option.bind_some,hf,Option.bind_some]
 have ow:PySem.W.ownOf cd (some o) attr=some (some y):=by
   unfold PySem.W.ownOf
   rw [hdict,if_pos rfl]
   exact (Yi2 h4 h5 attr).trans (congrArg some hm)
 show (PySem.W.ownOf cd (some o) attr).bind _=_
 rw [ow]
 rfl
theorem Yvu {ov v:V}{x:Value}{attr:Str}{l:Nat}{c:Str}{gs:List (Str×V)}{C:Addr}{e:Bool}(TO:Yag T) (S:St T A fs d ι σ s) (r:Yau T ι s.heap (.ref l) x) (hl:σ[l]?=some (.inst c gs)) (hv:gs.lookup attr=some v) (hh:Yp2 v=true)
   (hc:Ye9 T c C) (hf:PySem.W.findIn T.K (.ref C) attr=some none) (q:Q v σ):wpAny (model T.prog T.w) A (getAttr x attr e) (Ybf T [] Q ι s.heap) (Yaz T [] X ι s.heap) s:=by
 obtain ⟨a,dx,rfl,hι⟩:=r.ref_inv
 obtain ⟨sl,o,es,ep,h1,h2,IA,h3,h4,h5,h6⟩:=S.rep.inst_at hl hι hc.addr
 obtain ⟨y,hm,rv⟩:=(h6 attr).at hv
 exact PySem.W.get_value (TO.X0.keeps S.rep.base) IA hc.ga (Ysc hc.dict hf h4 h5 hm) (Ywm hh rv) (S.post q rv _)
noncomputable def Ycp (o:Expr):Bool:=o.casesOn (fun _ _ _=>true) (fun _ _ _=>true) (fun _ _ _ _=>true) (fun _ _ _=>true) (fun _ _ _ _=>true) (fun _ _ _ _=>true) (fun _ _ _=>true) (fun _ _ _=>true) (fun _ _ _ _=>true) (fun _ _ _ _=>true) (fun _ _ _ _ _=>true) (fun _ _ _ _=>true) (fun _ _=>true) (fun _ _=>true) (fun _ _=>true) (fun _ _ _ _=>true) (fun f _ _ _=>Nat.beq f.ctorIdx 20) (fun _ _ _ _=>true) (fun _ _=>true) (fun _ _ _=>true) (fun _ _ _=>true) (fun _ _ _=>true) (fun _ _=>true) (fun _ _=>true) (fun _ _=>true) (fun _ _ _=>true) (fun _ _ _ _=>true)
theorem Ygw {o:Expr}{attr:Str}{whole:Sem Value}(h:Ycp o=true):attributeBase o attr env whole=whole:=by
 cases o <;> first | rfl | skip
 cases func <;> first | exact (Zv h).elim | rfl
inductive Yae (T:Tp) (attr:Str) (Q:QE) (o:V) (σ₁:Hp):Prop where
 | mk (l:Nat) (c:Str) (gs:List (Str×V)) (v:V) (C:Addr) (h0:o=.ref l) (h1:σ₁[l]?=some (.inst c gs)) (h2:gs.lookup attr=some v) (h3:Yp2 v=true) (h4:Ye9 T c C) (h5:PySem.W.findIn T.K (.ref C) attr=some Option.none) (h6:Q v σ₁):Yae T attr Q o σ₁
theorem Yai.attr {value:Expr}{attr:Str}{pos:Pos}(TO:Yag T) (hp:Ycp value=true)
   (he:Yai T d sc ρ X value (fun o σ₁=>Yae T attr Q o σ₁) σ) :
   Yai T d sc ρ X (.Attribute value attr pos) Q σ:=by
 intro env A fs F ι s hsc I
 rw [arm_eval_Attribute,Ygw hp]
 refine Zhb (Zib (he env A fs F ι s hsc I) (fun x s₁ p=>?_) fun zz zz p=>p)
 obtain ⟨o,σ₁,ι₁,⟨l,c,gs,v,C,rfl,h1,h2,h3,h4,h5,q⟩,rv,rp,ex,g,oo⟩:=p
 have I₁:=I.ext ex rp g oo
 refine Zhb (wpAny_standAt (Zhb (wpAny_holding (Zib (Yvu (ov:=.none) TO I₁.st rv h1 h2 h3 h4 h5 q) (fun r s₂ p=>?_) fun zz zz p=>p.trans ex))))
 exact Zhb (wpAny_letTemporaryGo (Zjb (p.trans ex)))
structure Ybs (ty:String) (name:Str) (id:String):Prop where
 pa:PlainAttrs ty
 slot:Slot ty name id
 ty:typeOf (.builtin id)=pure (.type "method_descriptor")
noncomputable def Yu3:Option Yaq→Option String
 | some (.list z1)=>some "list"
 | some (.sdict z1)=>some "dict"
 | z1=>none
theorem Yp6 {o:Option Yaq}{ty:String}(h:Yu3 o=some ty):("list" = ty∧∃ vs,o=some (.list vs))∨("dict" = ty∧∃ vs,o=some (.sdict vs)):=by
 rcases o with zz | o
 · exact (Yaf h).elim
 · cases o <;> first | exact .inl ⟨Yad h,_,rfl⟩ | exact .inr ⟨Yad h,_,rfl⟩ | exact (Yaf h).elim
noncomputable def Ynx (σ:Hp) (vv:V):Option String:=vv.casesOn (none) (fun _=>none) (fun _=>none) (fun z1=>some "str") (fun _=>none) (fun l=>Yu3 σ[l]?) (fun _=>none) (fun _ _=>none) (fun _=>none) (fun _=>none) (fun _=>none) (fun _=>none) (fun _=>none) (fun _ _=>none)
inductive Yek (T:Tp) (σ:Hp) (name:Str):V→V→Prop where
 | mth (l:Nat) (c:Str) (gs:List (Str×V)) (C fa:Addr) (h1:σ[l]?=some (.inst c gs)) (h2:gs.lookup name=none) (h3:Ye9 T c C) (h4:PySem.W.findIn T.K (.ref C) name=some (some (.ref fa))) (h5:PySem.W.typeIn T.K (.ref fa)=some (.type "function")) (h6:PySem.W.keepIn T.K (.ref fa)=true):Yek T σ name (.ref l) (.mth c name)
 | bi {ov:V}{ty id:String}(h1:Ynx σ ov=some ty) (h2:Ybs ty name id):Yek T σ name ov (.bi id)
noncomputable def Yya (T:Tp) (fv:Value):Prop:=∀ h',T.K.In h'→∃ k,(k=Keeper.frame∨k=Keeper.machine∨k=Keeper.boundFrame)∧PySem.W.Looks (model T.prog T.w) h' (keeperOf fv) k
theorem Yik {ov:V}{x:Value}{ty:String}(R:Rep T ι σ s.heap) (r:Yau T ι s.heap ov x) (h1:Ynx σ ov=some ty):s.TypeIs x ty∧∀ a,x=.ref a→∃ o,s.heap.get? a=some o∧o.dict=none:=by
 cases ov <;> first | exact (Yaf h1).elim | skip
 · obtain ⟨t,rfl⟩:=r.str_inv
   cases Yad h1
   exact ⟨rfl,fun zz e=>(by cases e)⟩
 · obtain ⟨a,dx,rfl,hι⟩:=r.ref_inv
   rcases Yp6 h1 with ⟨rfl,vs,hvs⟩ | ⟨rfl,kvs,hvs⟩
   · refine ex2 (R.list_at hvs hι) fun items n h9=>h9.elim fun hL hv=>?_
     exact ⟨⟨_,hL,rfl⟩,fun zz e=>Value.ref.inj e▸⟨_,hL,rfl⟩⟩
   · refine (R.sdict_at hvs hι).elim fun rvs h9=>Ygi h9 fun hd hv zz=>?_
     exact ⟨hd.mapOf.typeIs,hd.mapOf.noDict⟩
set_option maxRecDepth 20000 in
theorem Yvm {ov:V}{id ty:String}{x:Value}{name:Str}{pl:Sem Bool}{E:Value→Shared→Prop}{R:Value×List Value→Shared→Prop}(S:St T A fs d ι σ s) (r:Yau T ι s.heap ov x) (h1:Ynx σ ov=some ty) (h2:Ybs ty name id) (k:R (.builtin id,[x]) s):wpAny (model T.prog T.w) A (getMethod x name pl) R E s :=
 getMethod_builtin (Yik S.rep r h1).1 h2.pa h2.slot h2.ty (Yik S.rep r h1).2 k
theorem Yt2 {ov f:V}{x:Value}{name:Str}{pl:Sem Bool}{E:Value→Shared→Prop}{R:Value×List Value→Shared→Prop}(TO:Yag T) (S:St T A fs d ι σ s) (r:Yau T ι s.heap ov x) (hr:Yek T σ name ov f)
   (k:∀ fv,Yau T ι s.heap f fv→Yya T fv→R (fv,[x]) s):wpAny (model T.prog T.w) A (getMethod x name pl) R E s:=by
 revert r k
 induction hr with
 | mth l c gs C fa h1 h2 h3 h4 h5 h6 =>
   intro r k
   obtain ⟨a,dx,rfl,hι⟩:=r.ref_inv
   obtain ⟨sl,o,es,ep,g1,g2,IA,g3,g4,g5,g6⟩:=S.rep.inst_at h1 hι h3.addr
   have hm:nsFind es name=none:=by
     have e:=(g6 name).isSome
     rw [h2] at e
     exact Option.not_isSome_iff_eq_none.mp fun q=>Zv (e.symm.trans q)
   refine PySem.W.method_fn (TO.X0.keeps S.rep.base) IA h3.ga h3.gx h4 h5 (by unfold PySem.W.shadowIn; simp only [Yi2 g4 g5,hm]; rfl) (k _ ?_ fun h' X'=>PySem.W.keeps_K h6 h' X')
   show Tp.m _ _ _=_; unfold Tp.m
   rw [h3.addr,Option.bind_some,h4]; rfl
 | bi h1 h2=>exact fun r k=>Yvm S r h1 h2 (k _ rfl fun h' zz=>⟨.machine,.inr (.inl rfl),PySem.W.Looks.of_pure (by unfold keeperOf; rfl)⟩)
theorem Yai.meth {o:Expr}{name:Str}{apos pos:Pos}{args:List Expr}(TO:Yag T) (hp:Ycp o=true) (ns:Ybz args=true) (hl:(apos.endLine == pos.line)=true) (hn:args.length < 30)
   (he:Yai T d sc ρ X o (fun ov σ₁=>∃ f,Yek T σ₁ name ov f∧Ydc T d sc ρ X args (fun vs σ₂=>Yaa T d X f (ov::vs) Q σ₂) σ₁) σ) :
   Yai T d sc ρ X (.Call (.Attribute o name apos) args [] pos) Q σ:=by
 intro env A fs F ι s hsc I
 rw [arm_eval_Call,Ygw hp]
 refine Zhb (Zib (he env A fs F ι s hsc I) (fun x s₁ p=>?_) fun zz zz p=>p)
 obtain ⟨ov,σ₁,ι₁,⟨f,hr,q⟩,rv,rp,ex,g,oo⟩:=p
 have I₁:=I.ext ex rp g oo
 refine Zhb (wpAny_standAt ?_)
 rw [Ybm ns]
 have hform:methodCallForm (args.length+([]:List Keyword).length) (args.map fun e=>(false,eval e env)) (backToKw pos (keywordEach [] env))=true:=by
   show ((args.map fun e=>(false,eval e env)).all (fun x => !x.1) && (backToKw pos (keywordEach [] env)).all (fun x=>x.1.isSome) && decide (args.length+([]:List Keyword).length+(if ([]:List Keyword).isEmpty then 0 else 1) < 30))=true
   rw [show backToKw pos (keywordEach [] env)=[] from rfl]
   simp; (clear hl; omega)
 have hpos:methodCallPos true o env apos pos=pure pos:=by unfold methodCallPos; simp [hl]
 unfold methodCall
 rw [hform]
 refine Zhb (wpAny_holding (Yt2 TO I₁.st rv hr fun fv rf hk=>?_))
 refine Zhb (wpAny_of_eq hpos ?_)
 refine PySem.W.callWith_of (P:=T.K.In) (by rw [show backToKw pos (keywordEach [] env)=[] from rfl]; simp) hk (Yby (Zib (q env A fs F ι₁ s₁ hsc I₁) (fun xs s₂ p=>?_) fun zz zz p=>p.trans ex))
 obtain ⟨vs,σ₂,ι₂,q₂,rvs,rp₂,ex₂,g₂,o₂⟩:=p
 have I₂:=I₁.ext ex₂ rp₂ g₂ o₂
 refine ⟨TO.X0.keeps I₂.rep.base,?_⟩
 refine Zib (q₂ A fs ι₂ s₂ fv (x::xs) I₂.st (rf.mono ex₂.mono) ?_) (fun zz zz p=>p.trans (ex.trans ex₂)) fun zz zz p=>p.trans (ex.trans ex₂)
 show VRels T ι₂ s₂.heap (ov::vs) (x::xs)
 exact ⟨rv.mono ex₂.mono,rvs⟩
end
end
section
noncomputable def Yca (kvs:List (Str×V)) (k:Str) (v:V):List (Str×V) :=
 if kvs.any (fun kv=>kv.1=k) then kvs.map (fun kv=>if kv.1=k then (kv.1,v) else kv) else kvs++[(k,v)]
theorem Ygv {α:Type}:∀ (kvs:List (Str×α)) (k:Str),(kvs.lookup k).isSome=kvs.any fun kv=>kv.1=k:=by
 intro xx
 induction xx with
 | nil =>
   intro z1
   exact rfl
 | cons pp r ih =>
   obtain ⟨k',v⟩:=pp
   intro k
   rw [List.lookup_cons,List.any_cons]
   by_cases h:k=k'
   · subst h; simp
   · have h1:(k == k')=false:=Zmc.mpr h
     have h2:decide (k'=k)=false:=Zrc (Ne.symm h)
     rw [h1,h2]; simpa using ih k
theorem Yc0 {α:Type}:∀ (a b:List (Str×α)) (k:Str),(a++b).lookup k=(a.lookup k).or (b.lookup k):=by
 intro xx
 induction xx with
 | nil =>
   intro b k
   simp
 | cons pp r ih =>
   obtain ⟨k',v⟩:=pp
   intro b k
   rw [List.cons_append,List.lookup_cons,List.lookup_cons]
   cases (k == k')
   · exact ih b k
   · simp
theorem Ylw {v:V}{k:Str}:∀ (kvs:List (Str×V)) (x:Str),(kvs.map fun kv=>if kv.1=k then (kv.1,v) else kv).lookup x=if x=k then (kvs.lookup k).map fun zz=>v else kvs.lookup x:=by
 intro xx
 induction xx with
 | nil =>
   intro x
   simp
 | cons pp r ih =>
   obtain ⟨k',w⟩:=pp
   intro x
   rw [List.map_cons]
   by_cases h:k'=k
   · subst h
     simp only [if_true,List.lookup_cons]
     by_cases hx:x=k'
     · subst hx; simp
     · rw [Zmc.mpr hx,if_neg hx,ih x,if_neg hx]
   · simp only [h,if_false,List.lookup_cons]
     by_cases hx:x=k'
     · subst hx; simp [h]
     · rw [Zmc.mpr hx,ih x,Zmc.mpr (Ne.symm h)]
theorem Yfe (kvs:List (Str×V)) (k x:Str) (v:V):(Yca kvs k v).lookup x=if x=k then some v else kvs.lookup x:=by
 unfold Yca
 have ha:=Ygv kvs k
 split
 · rename_i h
   rw [h] at ha
   rw [Ylw]
   by_cases hx:x=k
   · rw [if_pos hx,if_pos hx]
     obtain ⟨w,hw⟩:=Option.isSome_iff_exists.mp ha
     rw [hw]; rfl
   · rw [if_neg hx,if_neg hx]
 · rename_i h
   rw [Bool.not_eq_true] at h
   rw [h] at ha
   have hn:kvs.lookup k=none:=by cases q:kvs.lookup k with | none=>rfl | some _=>rw [q] at ha; cases ha
   rw [Yc0]
   by_cases hx:x=k
   · subst hx; rw [hn,if_pos rfl]; simp
   · rw [if_neg hx]
     have:([(k,v)]:List (Str×V)).lookup x=none:=by rw [List.lookup_cons,Zmc.mpr hx]; rfl
     rw [this]; simp
theorem Yjc (kvs:List (Str×V)) (k:Str) (v:V):(Yca kvs k v).length=if (kvs.lookup k).isSome then kvs.length else kvs.length+1:=by
 rw [Ygv]; unfold Yca; split <;> simp
section
variable {T:Tp}{A:Around}{fs:List Env}{d:Nat}{env:Env}{F:List Addr}{ι ι':Inj}{h h':Heap}{s:Shared}{ρ:Loc}{σ:Hp}{sc:Scope}{X:XS}{Q:QS}
theorem Yjh.set {rvs:List (Str×Value)}{kvs:List (Str×V)}{k:Str}{v:V}{x:Value}(e:Yjh T ι h kvs rvs) (r:Yau T ι h v x):Yjh T ι h (Yca kvs k v) (stored rvs k x):=by
 unfold Yca stored
 rw [e.any (k:=k)]
 cases (kvs.any fun kv=>decide (kv.1=k))
 · exact e.push r
 · exact e.put (fun zz=>rfl) r
noncomputable def Yb4 (kvs:List ((Str×Int)×V)) (k:Str×Int) (v:V):List ((Str×Int)×V) :=
 if kvs.any (fun kv=>kv.1=k) then kvs.map (fun kv=>if kv.1=k then (kv.1,v) else kv) else kvs++[(k,v)]
theorem KRel.putA {R:V→Value→Prop}{xs:List ((Str×Int)×Addr×Value)}{kvs:List ((Str×Int)×V)}{k:Str×Int}{v:V}{x:Value}(e:KRel (fun v p=>R v p.2) kvs xs) (r:R v x):KRel (fun v p=>R v p.2) (kvs.map fun kv=>if kv.1=k then (kv.1,v) else kv) (xs.map (putAt k x)):=by
 induction e with
 | nil=>exact .nil
 | @cons k' z1 y z2 z3 h z4 ih =>
   rw [List.map_cons,List.map_cons,putAt]
   by_cases e:k'=k
   · rw [if_pos e,if_pos e]; exact .cons (x:=(y.1,x)) r ih
   · rw [if_neg e,if_neg e]; exact .cons h ih
theorem Yih.set {xs:List ((Str×Int)×Addr×Value)}{kvs:List ((Str×Int)×V)}{k:Str×Int}{v:V}{x:Value}{a:Addr}(e:Yih T ι h kvs xs) (r:Yau T ι h v x):Yih T ι h (Yb4 kvs k v) (storedH xs k a x):=by
 unfold Yb4 storedH
 rw [e.isSome (k:=k)]
 cases (kvs.any fun kv=>decide (kv.1=k))
 · exact KRel.push (x:=(a,x)) e r
 · exact KRel.putA e r
theorem St.turned {l:Nat}{p:Addr×Addr}{o:Yaq}{a:Addr}{ob ob':Obj}{t:Nat}(I:St T A fs d ι σ s) (hp:ι[l]?=some p) (hs:Heap.SameBut a s.heap h') (ha:a=p.1∨a=p.2)
   (h1:s.heap.get? a=some ob) (h2:h'.get? a=some ob') (hc:ob'.cls=ob.cls) (hf:Ya1 ob=false) (ho:Yed ι s.heap ι h'→Yie T ι h' o p) :
   St T A fs d ι (σ.set l o) { s with heap:=h',toks:=t }∧Ext T [] ι s.heap ι h':=by
 have hin:a∈own ι:=Yck.mpr ⟨p,Zn hp,ha⟩
 have e:Ext T [] ι s.heap ι h':=.of_sameBut hs h1 h2 hc hf (.inl hin)
 exact ⟨I.ext (s':={ s with heap:=h',toks:=t }) e (I.rep.turn hp e.mono hs ha (ho e.mono)) I.gens I.os,e⟩
theorem szo1 {n:Nat}(h:n < 1000):n+1≤sizeLine:=Za h (by decide)
theorem Ymz {z:Str}{u:V}:∀ {gs:List (Str×V)},gs.lookup z=some u→z∈gs.map (·.1):=by
 intro xx
 induction xx with
 | nil=>intros; contradiction
 | cons pp r ih =>
   obtain ⟨k,v⟩:=pp
   intro h
   rw [List.lookup_cons] at h
   rw [List.map_cons]
   by_cases e:z=k
   · rw [e]; exact Zt
   · rw [Zmc.mpr e] at h; exact Zd _ (ih h)
theorem Ymp {E:Value→Shared→Prop}{v:V}{x y:Value}{attr:Str}{l:Nat}{c:Str}{gs:List (Str×V)}{C:Addr}{R:Unit→Shared→Prop}(TO:Yag T) (I:St T A fs d ι σ s) (r:Yau T ι s.heap (.ref l) x) (rv:Yau T ι s.heap v y)
   (hl:σ[l]?=some (.inst c gs)) (hc:Ye9 T c C) (ht:PySem.W.takerIn T.K C attr=some none) (hsz:gs.length < 1000)
   (k:∀ h' t,St T A fs d ι (σ.set l (.inst c (Yca gs attr v))) { s with heap:=h',toks:=t }→Ext T [] ι s.heap ι h'→R () { s with heap:=h',toks:=t }):wpAny (model T.prog T.w) A (setAttr x attr y) R E s:=by
 obtain ⟨a,dx,rfl,hι⟩:=r.ref_inv
 refine ex3 (I.rep.objs l _ _ hl hι) fun C' m sl h9=>Yqg h9 fun c1 c2 hns c4=>?_
 rw [hc.addr] at c1; cases c1
 have hns0:=hns
 obtain ⟨o,es,ep,d1,d2,d3,d4,d5,d6,d7⟩:=hns0
 have IA:PySem.W.InstAt s.heap a ⟨.ref C,some dx,.plain,sl⟩ C (some o):=⟨c2,rfl,rfl,d1⟩
 have X₁:=TO.X0.keeps I.rep.base
 refine PySem.W.set_plain X₁ IA hc.sa ?_
 refine PySem.W.osa_open (s:={ s with toks:=s.toks+1 }) X₁ IA hc.over ht fun b=>?_
 obtain ⟨cd,hcd,hdict⟩:=Ynr hc.dict
 refine Zhb (Zjb (Zhb (Zhb (wpAny_loadPart c2 (Zhb ((PySem.W.looks_clsIn (M:=model T.prog T.w) X₁ hcd).here (s:={ s with toks:=s.toks+1 }) ?_))))))
 rw [hdict]
 refine Zjb (a:=some dx) (Zhb (Zjb (Zhb ?_)))
 refine Yth (s:={ s with toks:=s.toks+1 }) hns fun h' hn' hs=>?_
 have wi:Within (fun x=>if x=attr then some y else m x) (attr::gs.map (·.1)):=Within.cons attr y fun z hz=>by
   have c4:=c4 z
   cases hg:gs.lookup z with
   | none=>rw [hg] at c4; exact (hz (Option.isNone_iff_eq_none.mp (by rw [← Option.not_isSome,c4.isSome]; rfl))).elim
   | some u=>exact Ymz hg
 refine ex3 (hn'.ns1.count wi) fun o' es' ep' e'=>?_
 have e1:=e'.1
 refine Zhb (wpAny_lookBehind (s:={ s with heap:=h',toks:=s.toks+1+1 }) e1 (by rw [e'.2.1]; exact pastItsLine_dict (Za e'.2.2 (by rw [List.length_cons,Zc]; exact Zeb (szo1 hsz)))) ?_)
 refine Zjb ?_
 have hne:a≠dx:=fun q=>by rw [q,d1] at c2; cases c2; cases d4
 have e2:o'.cls=o.cls:=hn'.rec fun o2 zz zz f1 f2 zz zz zz zz zz=>(congrArg Obj.cls (Yad (e1.symm.trans f1))).trans (f2.trans d2.symm)
 obtain ⟨S',ex⟩:=St.turned (t:=s.toks+1+1) (o:=.inst c (Yca gs attr v)) I hι hs (.inr rfl) d1 e1 e2 (by simp [Ya1,d2]) fun mo =>
   ⟨C,_,sl,hc.addr,(hs.2 a hne).trans c2,hn',fun z=>by
     rw [Yfe]
     by_cases q:z=attr
     · rw [if_pos q,if_pos q]; exact .some (rv.mono mo)
     · rw [if_neg q,if_neg q]; exact (c4 z).mono mo⟩
 exact k h' _ S' ex
inductive Yam (T:Tp) (attr:Str) (ρ:Loc) (Q:QS) (v ov:V) (σ₂:Hp):Prop where
 | mk (l:Nat) (c:Str) (gs:List (Str×V)) (C:Addr) (h0:ov=.ref l) (h1:σ₂[l]?=some (.inst c gs)) (h2:Ye9 T c C) (h3:PySem.W.takerIn T.K C attr=some none) (h4:gs.length < 1000) (h5:Q .next ρ (σ₂.set l (.inst c (Yca gs attr v)))):Yam T attr ρ Q v ov σ₂
inductive Yas (ρ:Loc) (Q:QS) (v ov iv:V) (σ₃:Hp):Prop where
 | mk (l:Nat) (k:Str) (kvs:List (Str×V)) (h0:ov=.ref l) (h1:iv=.str k) (h2:σ₃[l]?=some (.sdict kvs)) (h3:kvs.length≤sizeLine) (h4:Q .next ρ (σ₃.set l (.sdict (Yca kvs k v)))):Yas ρ Q v ov iv σ₃
 | pr (l:Nat) (k:Str×Int) (kvs:List ((Str×Int)×V)) (h0:ov=.ref l) (h1:iv=.tup [.str k.1,.int k.2]) (h2:σ₃[l]?=some (.tdict kvs)) (h3:kvs.length≤sizeLine) (h4:Q .next ρ (σ₃.set l (.tdict (Yb4 kvs k v)))):Yas ρ Q v ov iv σ₃
theorem Ybe.setAttr {o value:Expr}{attr:Str}{pos' pos:Pos}(TO:Yag T)
   (q:Yai T d sc ρ X value (fun v σ₁=>Yai T d sc ρ X o (fun ov σ₂=>Yam T attr ρ Q v ov σ₂) σ₁) σ) (hc:Yfi value=true ) :
   Ybe T d sc ρ X (.Assign [.Attribute o attr pos'] value pos) Q σ:=by
 intro env A fs F ι s hsc I
 refine plainObj_wpAny_Assign_Attribute (Zib (q env A fs F ι s hsc I) (fun y s₁ p=>?_) fun zz zz p=>p.sx I fun zz zz k=>k) (Yfr hc)
 obtain ⟨v,σ₁,ι₁,q,rv,rp,ex,g,oo⟩:=p
 have I₁:=I.ext ex rp g oo
 refine Zib (q env A fs F ι₁ s₁ hsc I₁) (fun x s₂ p=>?_) fun zz zz p=>(p.sx I₁ fun zz zz k=>k).trans ex.up
 obtain ⟨ov,σ₂,ι₂,⟨l,c,gs,C,rfl,h1,h2,h3,h4,q⟩,ro,rp₂,ex₂,g₂,o₂⟩:=p
 have I₂:=I₁.ext ex₂ rp₂ g₂ o₂
 refine Ymp TO I₂.st ro (rv.mono ex₂.mono) h1 h2 h3 h4 fun h' t S' e'=>?_
 exact ⟨.next,ρ,_,ι₂,q,.next,I₂.ext (s':={ s₂ with heap:=h',toks:=t }) e' S'.rep S'.gens S'.os,(ex.trans (ex₂.trans e')).up⟩
theorem Yk6 {a:Addr}{rvs:List (Str×Value)}(hd:h.DictOf (strKind T.prog T.w) a rvs):∃ o,h.get? a=some o∧o.cls=.type "dict":=by obtain ⟨o,zz,zz,b1,b2,zz⟩:=hd; exact ⟨o,b1,b2.1⟩
theorem Yiw {a:Addr}{rvs:List ((Str×Int)×Addr×Value)}(hd:h.DictOfH (Ydu T.prog T.w) a rvs):∃ o,h.get? a=some o∧o.cls=.type "dict":=by obtain ⟨o,zz,zz,b1,b2,zz⟩:=hd; exact ⟨o,b1,b2.1⟩
theorem Yf0 {o:Obj}(h:o.cls=.type "dict"):Ya1 o=false:=by unfold Ya1; rw [h]; decide
theorem Ykn {E:Value→Shared→Prop}{v:V}{x z y:Value}{l:Nat}{k:Str}{kvs:List (Str×V)}{R:Unit→Shared→Prop}(S:St T A fs d ι σ s) (ro:Yau T ι s.heap (.ref l) x) (ri:Yau T ι s.heap (.str k) z) (rv:Yau T ι s.heap v y) (h1:σ[l]?=some (.sdict kvs)) (h2:kvs.length≤sizeLine)
   (kk:∀ h' t,St T A fs d ι (σ.set l (.sdict (Yca kvs k v))) { s with heap:=h',toks:=t }→Ext T [] ι s.heap ι h'→R () { s with heap:=h',toks:=t }):wpAny (model T.prog T.w) A (setItem x z y) R E s:=by
 obtain ⟨a,dx,rfl,hι⟩:=ro.ref_inv
 obtain ⟨t,rfl⟩:=ri.str_inv
 obtain ⟨hp,rvs,hd,hv⟩:=S.rep.objs l _ _ h1 hι
 refine wpAny_setItem_pairs (knd:=PySem.strKind T.prog T.w) (k:=k) (by simp [PySem.strKind,Value.isStrOf]) hd (fun h' hd' hs=>?_) (hv.length▸h2)
 obtain ⟨ob,b1,b2⟩:=Yk6 hd
 obtain ⟨ob',b1',b2'⟩:=Yk6 hd'
 obtain ⟨S',ex⟩:=St.turned (t:=s.toks+1) (o:=.sdict (Yca kvs k v)) S hι hs (.inl rfl) b1 b1' (b2'.trans b2.symm) (Yf0 b2) fun mo =>
   ⟨hp,_,hd',Yjh.set (hv.imp fun zz zz r=>r.mono mo) (rv.mono mo)⟩
 exact kk h' _ S' ex
theorem Ymf {E:Value→Shared→Prop}{v:V}{x z y:Value}{l:Nat}{k:Str×Int}{kvs:List ((Str×Int)×V)}{R:Unit→Shared→Prop}(S:St T A fs d ι σ s) (ro:Yau T ι s.heap (.ref l) x) (ri:Yau T ι s.heap (.tup [.str k.1,.int k.2]) z) (rv:Yau T ι s.heap v y) (h1:σ[l]?=some (.tdict kvs)) (h2:kvs.length≤sizeLine)
   (kk:∀ h' t,St T A fs d ι (σ.set l (.tdict (Yb4 kvs k v))) { s with heap:=h',toks:=t }→Ext T [] ι s.heap ι h'→R () { s with heap:=h',toks:=t }):wpAny (model T.prog T.w) A (setItem x z y) R E s:=by
 obtain ⟨a,dx,rfl,hι⟩:=ro.ref_inv
 obtain ⟨a',rfl,hk⟩:=ri.pair
 obtain ⟨hp,rvs,hd,hv⟩:=S.rep.objs l _ _ h1 hι
 refine wpAny_setItem_heap (knd:=Ydu T.prog T.w) (k:=k) (show A.units+1 < cLine from Ykw (x:=0) S.aok.units (by decide)) hk hd (fun h' hd' hs=>?_) (hv.length▸h2)
 obtain ⟨ob,b1,b2⟩:=Yiw hd
 obtain ⟨ob',b1',b2'⟩:=Yiw hd'
 obtain ⟨S',ex⟩:=St.turned (t:=s.toks+3) (o:=.tdict (Yb4 kvs k v)) S hι hs (.inl rfl) b1 b1' (b2'.trans b2.symm) (Yf0 b2) fun mo =>
   ⟨hp,_,hd',Yih.set (hv.imp fun zz zz r=>r.mono mo) (rv.mono mo)⟩
 exact kk h' _ S' ex
theorem Ybe.setItem {o i value:Expr}{pos' pos:Pos}
   (q:Yai T d sc ρ X value (fun v σ₁=>Yai T d sc ρ X o (fun ov σ₂=>Yai T d sc ρ X i (fun iv σ₃=>Yas ρ Q v ov iv σ₃) σ₂) σ₁) σ) (hc:Yfi value=true ) :
   Ybe T d sc ρ X (.Assign [.Subscript o i pos'] value pos) Q σ:=by
 intro env A fs F ι s hsc I
 refine wpAny_Assign_Subscript (Zib (q env A fs F ι s hsc I) (fun y s₁ p=>?_) fun zz zz p=>p.sx I fun zz zz k=>k) (Yfr hc)
 obtain ⟨v,σ₁,ι₁,q,rv,rp,ex,g,oo⟩:=p
 have I₁:=I.ext ex rp g oo
 refine Zib (q env A fs F ι₁ s₁ hsc I₁) (fun x s₂ p=>?_) fun zz zz p=>(p.sx I₁ fun zz zz k=>k).trans ex.up
 obtain ⟨ov,σ₂,ι₂,q,ro,rp₂,ex₂,g₂,o₂⟩:=p
 have I₂:=I₁.ext ex₂ rp₂ g₂ o₂
 refine Zib (q env A fs F ι₂ s₂ hsc I₂) (fun z s₃ p=>?_) fun zz zz p=>(p.sx I₂ fun zz zz k=>k).trans (ex.trans ex₂).up
 obtain ⟨iv,σ₃,ι₃,so,ri,rp₃,ex₃,g₃,o₃⟩:=p
 have I₃:=I₂.ext ex₃ rp₃ g₃ o₃
 have ro:=ro.mono ex₃.mono
 have rv:=rv.mono (ex₂.trans ex₃).mono
 have fin:∀ {σ₄:Hp}{h':Heap}{t:Nat},Q .next ρ σ₄→St T A fs d ι₃ σ₄ { s₃ with heap:=h',toks:=t }→Ext T [] ι₃ s₃.heap ι₃ h'→Ye2 T A fs d env F Q ι s.heap .next { s₃ with heap:=h',toks:=t }:=fun {zz h' t} q S' e' =>
   ⟨.next,ρ,_,ι₃,q,.next,I₃.ext (s':={ s₃ with heap:=h',toks:=t }) e' S'.rep S'.gens S'.os,(ex.trans (ex₂.trans (ex₃.trans e'))).up⟩
 rcases so with ⟨l,k,kvs,rfl,rfl,h1,h2,qq⟩ | ⟨l,k,kvs,rfl,rfl,h1,h2,qq⟩
 · exact Ykn I₃.st ro ri rv h1 h2 fun h' t S' e'=>fin qq S' e'
 · exact Ymf I₃.st ro ri rv h1 h2 fun h' t S' e'=>fin qq S' e'
end
section
variable {T:Tp}{A:Around}{fs:List Env}{d:Nat}{env:Env}{F:List Addr}{ι ι':Inj}{h h':Heap}{s:Shared}{ρ:Loc}{σ:Hp}{sc:Scope}{X:QX}{Q:QE}
theorem Yai.dict {pos:Pos}(q:Q (.ref σ.length) (σ++[.sdict []])):Yai T d sc ρ X (.Dict [] [] pos) Q σ:=by
 intro env A fs F ι s hsc I
 refine wpAny_Dict_empty ?_
 have hget:(s.heap.push { cls:=.type "dict",data:=.dict #[] }).get? s.heap.objs.size=some { cls:=.type "dict",data:=.dict #[] }:=Zsc _ rfl
 have no:s.heap.objs.size∉own ι:=fun z=>absurd (I.rep.own_lt z) (Zub _)
 have e:=Ext.push T [] ι s.heap { cls:=.type "dict",data:=.dict #[] }
 refine ⟨_,_,ι++[(s.heap.objs.size,s.heap.objs.size)],q,?_,(I.rep.push _).more (p:=(s.heap.objs.size,s.heap.objs.size)) ⟨rfl,[],?_,.nil⟩ I.rep.size I.rep.size no no,⟨⟨[(s.heap.objs.size,s.heap.objs.size)],rfl,by simp⟩,e.size,e.cls,e.frz,e.keep,e.frm⟩,I.gens,I.os⟩
 · exact ⟨s.heap.objs.size,s.heap.objs.size,rfl,by rw [← I.rep.len]; simp⟩
 · exact ⟨_,#[],0,hget,⟨rfl,rfl,rfl⟩,rfl,fun zz h=>by simp at h,.nil,by simp⟩
theorem Yaa.make {c:Str}{C fI:Addr}{args:List V}(TO:Yag T) (hc:T.c c=some C) (hm:PySem.W.makesIn T.K C=true) (hi:PySem.W.findIn T.K (.ref C) "__init__" = some (some (.ref fI))) (ht:PySem.W.typeIn T.K (.ref fI)=some (.type "function"))
   (hb:Ycc T d X (.mth c "__init__") (.ref σ.length::args) (fun v σ'=>v=.none∧Q (.ref σ.length) σ') (σ++[.inst c []])):Yaa T (d+1) X (.glob c) args Q σ:=by
 intro A fs ι s fv xs S rf rxs
 have hg:T.g c=some (.ref C):=by
   exact Yh7 hc
 cases hg.symm.trans rf
 have X₁:=TO.X0.keeps S.rep.base
 refine wpAny_call ?_
 obtain ⟨hh,gn,dr,tk,os⟩:=s
 refine PySem.W.make_core (PySem.W.makes_of X₁ hm) (PySem.W.looks_findIn X₁ hi) (fun self=>PySem.W.bind_fn X₁ self ht) (.inl rfl) ?_
 have no:∀ a,hh.objs.size≤a→a∉own ι:=fun a ha q=>absurd (S.rep.own_lt q) (Zo.mpr ha)
 have e1:=Ext.push T [] ι hh PySem.W.emptyDict
 have e2:=Ext.push T [] ι (hh.push PySem.W.emptyDict) (PySem.W.instObj C hh.objs.size)
 have e0:=e1.trans e2
 have hd:((hh.push PySem.W.emptyDict).push (PySem.W.instObj C hh.objs.size)).get? hh.objs.size=some PySem.W.emptyDict:=Zx _ (Zsc _ rfl)
 have hx:((hh.push PySem.W.emptyDict).push (PySem.W.instObj C hh.objs.size)).get? (hh.objs.size+1)=some (PySem.W.instObj C hh.objs.size):=by
   have:=Zsc (hh.push PySem.W.emptyDict) (o:=PySem.W.instObj C hh.objs.size) rfl
   rwa [Zqb] at this
 have hsz:hh.objs.size≤hh.objs.size+1:=by (clear S no hx; exact Zq (Zs hh.objs.size))
 have R':Rep T (ι++[(hh.objs.size+1,hh.objs.size)]) (σ++[.inst c []]) ((hh.push PySem.W.emptyDict).push (PySem.W.instObj C hh.objs.size)):=by
   have R0:Rep T ι σ hh:=S.rep
   exact ((R0.push _).push _).more (p:=(hh.objs.size+1,hh.objs.size)) ⟨C,fun zz=>none,#[],hc,hx,⟨_,#[],0,hd,rfl,rfl,rfl,fun e he=>by simp at he,List.Pairwise.nil,fun zz=>rfl⟩,fun zz=>.none⟩ (Za R0.size hsz) R0.size (no _ hsz) (no _ (Zl _))
 have eX:Ext T [] ι hh (ι++[(hh.objs.size+1,hh.objs.size)]) ((hh.push PySem.W.emptyDict).push (PySem.W.instObj C hh.objs.size)) :=
   ⟨⟨[(hh.objs.size+1,hh.objs.size)],rfl,by simp⟩,e0.size,e0.cls,e0.frz,e0.keep,e0.frm⟩
 have aok:AOk T (A.under (.builtin "type.__call__" ⟨.ref C::xs,[]⟩)) fs d (ι++[(hh.objs.size+1,hh.objs.size)]) ((hh.push PySem.W.emptyDict).push (PySem.W.instObj C hh.objs.size)):=by
   have a0:=S.aok.ext eX (fun zz zz zz zz q=>by simp at q) (fun zz q=>by simp at q)
   refine ⟨a0.frames,a0.funs,?_,?_,a0.hd,a0.hx⟩
   · have:=S.aok.depth
     show A.depth+1+d≤_
     (clear a0 R' eX S no hx hsz; lia)
   · have:=S.aok.units
     show A.units+1+10*d+50≤_
     (clear a0 R' eX S no hx hsz; lia)
 have rI:Yau T (ι++[(hh.objs.size+1,hh.objs.size)]) ((hh.push PySem.W.emptyDict).push (PySem.W.instObj C hh.objs.size)) (.mth c "__init__") (.ref fI):=by
   show Tp.m _ _ _=_; unfold Tp.m; rw [hc,Option.bind_some,hi]; rfl
 have rS:Yau T (ι++[(hh.objs.size+1,hh.objs.size)]) ((hh.push PySem.W.emptyDict).push (PySem.W.instObj C hh.objs.size)) (.ref σ.length) (.ref (hh.objs.size+1)):=by
   exact ⟨hh.objs.size+1,hh.objs.size,rfl,by rw [← S.rep.len]; simp⟩
 refine codeAny_mono (hb _ fs _ ⟨(hh.push PySem.W.emptyDict).push (PySem.W.instObj C hh.objs.size),gn,dr,tk,os⟩ (.ref fI) (.ref (hh.objs.size+1)::xs) ⟨R',aok,S.gens,S.os⟩ rI ?_) fun r s' z=>?_
 · show VRels T _ _ (_::_) (_::_)
   exact ⟨rS,rxs.mono eX.mono⟩
 · rcases r with e | (zz | zz | zz | v)
   · exact Yaz.trans (T:=T) (F:=[]) (X:=X) eX z
   · exact z.elim
   · exact z.elim
   · exact z.elim
   · obtain ⟨w,σ',ι',⟨rfl,q⟩,rw',rp,ex,g,o⟩:=z
     cases rw'.none_inv
     exact ⟨rfl,.ref σ.length,σ',ι',q,rS.mono ex.mono,rp,eX.trans ex,g,o⟩
end
end
section
noncomputable def Yfa (scope sc:Scope):Scope :=
 { scope with names:=scope.names.map fun (n,k)=>if (k == .free && sc.kind == .function && sc.names.lookup n == some .cell) then (n,.cell) else (n,k) }
noncomputable def Ybc (scope:Scope) (ρ:Loc):Loc:=fun x=>if scope.names.lookup x=some .free then ρ x else none
noncomputable def Yjq (sc:Scope) (n:Str) (k:NameKind):NameKind:=if (k == .free && sc.kind == .function && sc.names.lookup n == some .cell) then .cell else k
theorem Ycd {sc:Scope}:∀ (names:List (Str×NameKind)) (x:Str),
   (names.map fun (n,k)=>if (k == NameKind.free && sc.kind == .function && sc.names.lookup n == some .cell) then (n,NameKind.cell) else (n,k)).lookup x=(names.lookup x).map (Yjq sc x)
 | [],z1=>rfl
 | (n,k)::r,x=>by
   have ih:=Ycd (sc:=sc) r x
   rw [List.map_cons,List.lookup_cons]
   have e:(if (k == NameKind.free && sc.kind == .function && sc.names.lookup n == some .cell) then (n,NameKind.cell) else (n,k))=(n,Yjq sc n k):=by
     unfold Yjq; split <;> rfl
   dsimp only
   rw [e,List.lookup_cons]
   cases hx:x == n with
   | true=>rw [beq_iff_eq.mp hx]; rfl
   | false=>exact ih
noncomputable def Yfy (env:Env) (acc:List (Str×Addr)) (p:Str×NameKind):List (Str×Addr):=if p.2 == .free then (p.1,(env.cells.lookup p.1).getD 0)::acc else acc
noncomputable def Ybl (env:Env) (names:List (Str×NameKind)) (acc:List (Str×Addr)):List (Str×Addr):=names.foldl (Yfy env) acc
theorem Yee {env:Env}{q:Str×Addr}(names:List (Str×NameKind)):∀ acc,q∈Ybl env names acc↔q∈acc∨((q.1,NameKind.free)∈names∧q.2=(env.cells.lookup q.1).getD 0) :=
 names.rec (fun acc=>⟨.inl,fun h=>h.elim id fun h=>(by cases h.1)⟩) fun p r ih acc=>(ih (Yfy env acc p)).trans (by
   unfold Yfy
   by_cases hk:(p.2 == NameKind.free)=true
   · rw [if_pos hk,Zg,Zg]
     have e:=beq_iff_eq.mp hk
     exact ⟨fun h=>h.elim (fun h=>h.elim (fun h=>.inr ⟨.inl (by rw [h,← e]),by rw [h]⟩) .inl) fun h=>.inr ⟨.inr h.1,h.2⟩,
       fun h=>h.elim (fun h=>.inl (.inr h)) fun h=>h.1.elim (fun g=>.inl (.inl (by rw [← show (q.1,NameKind.free)=p from g,← h.2]))) fun g=>.inr ⟨g,h.2⟩⟩
   · rw [if_neg hk,Zg]
     exact ⟨fun h=>h.imp_right fun h=>⟨.inr h.1,h.2⟩,fun h=>h.imp_right fun h=>⟨h.1.resolve_left fun g=>hk (g▸rfl),h.2⟩⟩)
theorem Ymt {env:Env}{scope:Scope}(h:∀ x∈scope.names,x.2=.free→(env.cells.lookup x.1).isSome=true):closureFor scope env=pure (Ybl env scope.names []):=by
 have:∀ (names:List (Str×NameKind)) (acc:List (Str×Addr)),(∀ x∈names,x.2=.free→(env.cells.lookup x.1).isSome=true) →
     (forIn names acc fun (x:Str×NameKind) (cs:List (Str×Addr))=>(if x.2 == NameKind.free then (do let a ← cellOf env x.1; pure (ForInStep.yield ((x.1,a)::cs))) else pure (ForInStep.yield cs):Sem (ForInStep (List (Str×Addr)))))=pure (Ybl env names acc):=by
   intro names
   induction names with
   | nil=>intro acc zz; rfl
   | cons p r ih =>
     intro acc hp
     obtain ⟨n,k⟩:=p
     rw [List.forIn_cons]
     have hr:∀ x∈r,x.2=.free→(env.cells.lookup x.1).isSome=true:=fun x hx=>hp x (Zd _ hx)
     by_cases hk:(k == NameKind.free)=true
     · obtain ⟨c,hc⟩:=Option.isSome_iff_exists.mp (hp (n,k) Zt (beq_iff_eq.mp hk))
       have hc':env.cells.lookup n=some c:=hc
       have e:Yfy env acc (n,k)=(n,c)::acc:=(if_pos hk).trans (by rw [hc']; rfl)
       rw [if_pos hk,show cellOf env n=pure c by unfold cellOf; rw [hc']]
       show (forIn r ((n,c)::acc) _:Sem _)=pure (Ybl env r (Yfy env acc (n,k)))
       rw [e]; exact ih _ hr
     · rw [if_neg hk]
       show (forIn r acc _:Sem _)=pure (Ybl env r (Yfy env acc (n,k)))
       rw [show Yfy env acc (n,k)=acc from if_neg hk]; exact ih _ hr
 unfold closureFor
 have e:=this scope.names [] h
 show (forIn scope.names [] _ >>= fun cs=>pure cs)=_
 have e2:(forIn scope.names ([]:List (Str×Addr)) fun (x:Str×NameKind) (cs:List (Str×Addr))=>(match x with | (name,kind)=>if (kind == NameKind.free)=true then do let __do_lift ← cellOf env name; pure (ForInStep.yield ((name,__do_lift)::cs)) else pure (ForInStep.yield cs):Sem (ForInStep (List (Str×Addr)))))=pure (Ybl env scope.names []):=e
 first
   | (rw [e2]; rfl)
   | (simp only [bind_pure]; exact e2)
   | (simp only [bind_pure_comp,id_map']; exact e2)
theorem Yfk:∀ (names:List (Str×NameKind)) (n:Nat) (acc cl:List (Str×Addr)),cellsFrom n names (acc++cl)=cellsFrom n names acc++cl:=by
 intro xx
 induction xx with
 | nil =>
   intro z1 z2 z3
   exact rfl
 | cons pp r ih =>
   obtain ⟨z1,kind⟩:=pp
   intro n acc cl
   unfold cellsFrom
   split
   · rw [← List.cons_append]; exact ih _ _ _
   · exact ih _ _ _
theorem Ygg:∀ (names:List (Str×NameKind)) (n:Nat) (acc:List (Str×Addr)) (p:Str×Addr),p∈cellsFrom n names acc→p∈acc∨(p.1,NameKind.cell)∈names:=by
 intro xx
 induction xx with
 | nil =>
   intro z1 z2 z3 h
   exact .inl h
 | cons pp r ih =>
   obtain ⟨x,kind⟩:=pp
   intro n acc p h
   unfold cellsFrom at h
   split at h
   · rename_i hk
     rcases ih _ _ p h with h | h
     · rcases Zg.mp h with e | h
       · subst e; exact .inr (by rw [beq_iff_eq.mp hk]; exact Zt)
       · exact .inl h
     · exact .inr (Zd _ h)
   · rcases ih _ _ p h with h | h
     · exact .inl h
     · exact .inr (Zd _ h)
noncomputable def Ydj (scope sc:Scope):Bool :=
 scope.kind == .function && decide ((scope.names.map (·.1)).Nodup) && scope.names.all fun p=>p.2 != .free || (sc.names.lookup p.1 == some .cell || sc.names.lookup p.1 == some .free)
theorem Yg5 {names:List (Str×NameKind)}(hn:(names.map (·.1)).Nodup) {x:Str}{k k':NameKind}(h:(x,k)∈names) (h':(x,k')∈names):k=k':=by
 induction names with
 | nil=>cases h
 | cons p r ih =>
   rw [List.map_cons,Zxc] at hn
   rcases Zg.mp h with e | h <;> rcases Zg.mp h' with e' | h'
   · rw [← e'] at e; exact (Prod.mk.inj e).2
   · exact absurd (Zsb.mpr ⟨(x,k'),h',by rw [← e]⟩) hn.1
   · exact absurd (Zsb.mpr ⟨(x,k),h,by rw [← e']⟩) hn.1
   · exact ih hn.2 h h'
section
variable {T:Tp}{A:Around}{fs:List Env}{d:Nat}{ι:Inj}{σ:Hp}{s:Shared}{sc:Scope}{env:Env}{F:List Addr}{ρ:Loc}
noncomputable def Ycu (scope:Scope) (env:Env) (L:Addr):Env :=
 { scope:=Yfa scope env.scope,locals:=L,globals:=env.globals,cells:=cellsFrom (L+1) scope.names (Ybl env scope.names []),qual:=env.qual,func:=none,code:=env.code,frame:=env.frame,builtins:=env.builtins }
theorem Yom {sc:Scope}{n:Str}:Yjq sc n .free=.cell∧sc.names.lookup n=some .cell∨Yjq sc n .free=.free:=by
 unfold Yjq
 by_cases h:(NameKind.free == .free && sc.kind == .function && sc.names.lookup n == some .cell)=true
 · rw [if_pos h]; rw [Zob,beq_iff_eq] at h; exact .inl ⟨rfl,h.2⟩
 · exact .inr (if_neg h)
theorem Yqn {sc:Scope}{n:Str}{o:Option NameKind}(h:o.map (Yjq sc n)=some .cell∨o.map (Yjq sc n)=some .free):o=some .cell∨o=some .free:=by
 cases o with
 | none=>exact h.elim (by intros; contradiction) (by intros; contradiction)
 | some k =>
   by_cases q:k=.free
   · exact .inr (congrArg some q)
   · have e:Yjq sc n k=k:=by unfold Yjq; rw [Zmc.mpr q]; rfl
     exact e▸h
theorem Yvl {sc:Scope}{n:Str}(h:(some NameKind.free).map (Yjq sc n)=some .local):False :=
 Yom (sc:=sc) (n:=n).elim (fun e=>nomatch e.1.symm.trans (Yad h)) fun e=>nomatch e.symm.trans (Yad h)
theorem Ysb {sc:Scope}{n:Str}(h:(some NameKind.free).map (Yjq sc n)=some .cell):sc.names.lookup n=some .cell :=
 Yom.elim (fun e=>e.2) fun e=>nomatch e.symm.trans (Yad h)
theorem Yg0 {scope:Scope}(I:Inv T A fs d env F ρ ι σ s) (ok:Ydj scope env.scope=true) (h₁:Heap) (hh:h₁=pushCells (s.heap.push { cls:=.type "dict",data:=.dict #[] }) scope.names) :
   closureFor scope env=pure (Ybl env scope.names [])∧∃ Fn,(∀ a∈Fn,s.heap.objs.size≤a)∧Inv T A fs d (Ycu scope env s.heap.objs.size) (Fn++F) (Ybc scope ρ) ι σ { s with heap:=h₁ }∧Ext T [] ι s.heap ι h₁ ∧
     (∀ x c,scope.names.lookup x=some .local∨scope.names.lookup x=some .cell→(Ycu scope env s.heap.objs.size).cells.lookup x=some c→scope.names.lookup x=some .cell→c∈Fn)∧s.heap.objs.size∈Fn:=by
 simp only [Ydj,Zob,beq_iff_eq,decide_eq_true_eq] at ok
 obtain ⟨⟨hk,hnd⟩,hfr⟩:=ok
 have outer:∀ x,(x,NameKind.free)∈scope.names→env.kindOf x=some .cell∨env.kindOf x=some .free:=fun x hx=>by
   have:=List.all_eq_true.mp hfr _ hx
   rw [bne_self_eq_false,Bool.false_or,Bool.or_eq_true,beq_iff_eq,beq_iff_eq] at this
   exact this
 have hcl:∀ x∈scope.names,x.2=.free→(env.cells.lookup x.1).isSome=true:=fun x hx hf=>by
   obtain ⟨x,k⟩:=x
   cases hf
   obtain ⟨c,zz,zz,e1,zz⟩:=I.frm.cells x (outer x hx)
   show (env.cells.lookup x).isSome=true
   rw [e1]; rfl
 refine ⟨Ymt hcl,?_⟩
 have ok:=cellsFrom_ok scope.names (s.heap.push { cls:=.type "dict",data:=.dict #[] }) (s.heap.objs.size+1) [] ⟨fun zz zz hm=>((by cases hm)),List.Pairwise.nil⟩ (by rw [Zqb]; exact Zl _)
 rw [Zqb,← hh] at ok
 have keep:∀ b o,s.heap.get? b=some o→h₁.get? b=some o:=fun b o e=>hh▸pushCells_keeps _ _ b o (Zx _ e)
 have hsz:s.heap.objs.size≤h₁.objs.size:=hh▸Za (by rw [Zqb]; exact Zq (Zs s.heap.objs.size)) (Yd2 _ _)
 have hL:h₁.get? s.heap.objs.size=some { cls:=.type "dict",data:=.dict #[] }:=hh▸pushCells_keeps scope.names (s.heap.push { cls:=.type "dict",data:=.dict #[] }) _ _ (Zsc s.heap rfl)
 have cc:∀ c o,h₁.get? c=some o→s.heap.objs.size+1≤c→o.cls=.type "cell":=fun c o g h=>Yev scope.names (s.heap.push { cls:=.type "dict",data:=.dict #[] }) c o (hh▸g) (by rw [Zqb]; exact h)
 clear hh
 have no:∀ a,s.heap.objs.size≤a→a∉own ι:=fun a ha q=>absurd (I.rep.own_lt q) (Zo.mpr ha)
 have csEq:(Ycu scope env s.heap.objs.size).cells=cellsFrom (s.heap.objs.size+1) scope.names []++Ybl env scope.names []:=Yfk scope.names _ [] _
 have cm:∀ x,(x,NameKind.cell)∈scope.names→∃ c,(x,c)∈cellsFrom (s.heap.objs.size+1) scope.names []:=fun x hx=>Yey scope.names (s.heap.objs.size+1) [] x hx
 have cn:∀ x c,(x,c)∈cellsFrom (s.heap.objs.size+1) scope.names []→(x,NameKind.cell)∈scope.names:=fun x c h=>(Ygg _ _ _ _ h).elim (fun z=>(by cases z)) id
 generalize cellsFrom (s.heap.objs.size+1) scope.names []=cl at ok csEq cm cn
 have cellAt:∀ x c,(x,c)∈cl→s.heap.objs.size+1≤c∧∃ o,h₁.get? c=some o∧o.cls=.type "cell" ∧ o.data=.cell none:=fun x c hm=>by
   have e:=ok.empty x c hm
   exact ⟨e.2,e.1.elim fun o g=>⟨o,g.1,cc c o g.1 e.2,g.2⟩⟩
 have kd:∀ x,(Ycu scope env s.heap.objs.size).kindOf x=(scope.names.lookup x).map (Yjq env.scope x):=fun x=>Ycd scope.names x
 have ownL:∀ x,scope.names.lookup x=some .cell→∃ c,(Ycu scope env s.heap.objs.size).cells.lookup x=some c∧(x,c)∈cl:=fun x hx =>
   (cm x (mem_of_lookup hx)).elim fun c hc=>(Ybw hc).elim fun c' hc'=>⟨c',by rw [csEq,Yc0,hc']; rfl,mem_of_lookup hc'⟩
 have freeL:∀ x,scope.names.lookup x=some .free→(Ycu scope env s.heap.objs.size).cells.lookup x=env.cells.lookup x:=fun x hx=>by
   have hm:=mem_of_lookup hx
   have h1:cl.lookup x=none:=by
     cases q:cl.lookup x with
     | none=>rfl
     | some c=>cases Yg5 hnd hm (cn x c (mem_of_lookup q))
   refine (Ybw ((Yee (env:=env) (q:=(x,(env.cells.lookup x).getD 0)) scope.names []).mpr (.inr ⟨hm,rfl⟩))).elim fun c' hc'=>?_
   rw [csEq,Yc0,h1,hc']
   obtain ⟨c,hc⟩:=Option.isSome_iff_exists.mp (hcl _ hm rfl)
   have e:=((Yee scope.names []).mp (mem_of_lookup hc')).elim (fun z=>(by cases z)) fun z=>z.2
   have hc:env.cells.lookup x=some c:=hc
   rw [hc] at e ⊢; rw [show c'=c from e]; rfl
 have orig:∀ x,((Ycu scope env s.heap.objs.size).kindOf x=some .cell∨(Ycu scope env s.heap.objs.size).kindOf x=some .free)→scope.names.lookup x=some .cell∨scope.names.lookup x=some .free:=fun x hx=>Yqn (kd x▸hx)
 have e0:Ext T [] ι s.heap ι h₁:=.of_keeps hsz keep
 have I0:=I.grown hsz keep
 have Fge:∀ a∈(s.heap.objs.size::cl.map (·.2)),s.heap.objs.size≤a:=fun a ha=>by
   rcases Zg.mp ha with rfl | ha
   · exact Zl _
   · obtain ⟨⟨x,c⟩,hm,rfl⟩:=Zsb.mp ha
     exact Zkc (cellAt x c hm).1
 refine ⟨s.heap.objs.size::cl.map (·.2),Fge,⟨I0.rep,I0.aok,?_,I0.top.rec fun e r L a b c=>⟨e,r,L,a,b,c⟩,I0.gens,I0.os⟩,e0,fun x c zz hc hx=>?_,Zt⟩
 · refine ⟨hk,I.frm.glb,I.frm.blt,⟨"dict",fun zz=>none,⟨.inr rfl,fun zz=>rfl⟩,⟨_,#[],0,hL,rfl,rfl,rfl,fun e he=>by simp at he,List.Pairwise.nil,fun zz=>rfl⟩,fun x hx=>?_⟩,fun x hx=>?_,fun x y c hx hy h1 h2=>?_,Zxb _ Zt,fun x c hx hc=>?_,fun a ha=>?_,fun a ha=>?_⟩
   · have:Ybc scope ρ x=none:=by
       exact if_neg fun q=>Yvl (q▸kd x▸hx)
     rw [this]; exact .none
   · rcases orig x hx with q | q
     · obtain ⟨c,hc,hm⟩:=ownL x q
       obtain ⟨g1,o,g2,g3,g4⟩:=cellAt x c hm
       refine ⟨c,o,none,hc,g2,g3,g4,?_,no c (Zkc g1)⟩
       have:Ybc scope ρ x=none:=by unfold Ybc; rw [if_neg (by rw [q]; simp)]
       rw [this]; exact .none
     · obtain ⟨c,o,v,f1,f2,f3,f4,f5,f6⟩:=I0.frm.cells x (outer x (mem_of_lookup q))
       refine ⟨c,o,v,(freeL x q).trans f1,f2,f3,f4,?_,f6⟩
       unfold Ybc; rw [if_pos q]; exact f5
   · have cross:∀ {x y:Str},scope.names.lookup x=some .cell→scope.names.lookup y=some .free→(Ycu scope env s.heap.objs.size).cells.lookup x=some c→(Ycu scope env s.heap.objs.size).cells.lookup y=some c→False:=fun {x y} q q' h1 h2 =>
       (ownL x q).elim fun c1 e=>(I.frm.cells y (outer y (mem_of_lookup q'))).rec fun c' o v f1 f2 zz zz zz zz=>by
         have e1:c1=c:=Yad (e.1.symm.trans h1)
         have e2:c'=c:=Yad (f1.symm.trans ((freeL y q').symm.trans h2))
         exact absurd (Zu f2) (Zo.mpr (e2▸e1▸Zkc (cellAt x _ e.2).1))
     rcases orig x hx with q | q <;> rcases orig y hy with q' | q'
     · exact (ownL x q).elim fun c1 e1=>(ownL y q').elim fun c2 e2=>name_of_addr ok.apart (Yad (e1.1.symm.trans h1)▸e1.2) (Yad (e2.1.symm.trans h2)▸e2.2)
     · exact (cross q q' h1 h2).elim
     · exact (cross q' q h2 h1).elim
     · rw [freeL x q] at h1; rw [freeL y q'] at h2
       exact I.frm.inj x y c (outer x (mem_of_lookup q)) (outer y (mem_of_lookup q')) h1 h2
   · rcases orig x (.inl hx) with q | q
     · obtain ⟨c1,e1,m1⟩:=ownL x q
       rw [hc] at e1; cases e1
       exact Zxb _ (Zd _ (Zsb.mpr ⟨_,m1,rfl⟩))
     · rw [freeL x q] at hc
       exact Zyb _ (I.frm.cin x c (Ysb (q▸kd x▸hx)) hc)
   · rcases Zm.mp ha with ha | ha
     · exact ⟨no a (Fge a ha),Za I.rep.size (Fge a ha)⟩
     · exact I0.frm.apart a ha
   · rcases Zm.mp ha with ha | ha
     · rcases Zg.mp ha with rfl | ha
       · exact ⟨_,hL,rfl,rfl⟩
       · obtain ⟨⟨x,c⟩,hm,rfl⟩:=Zsb.mp ha
         obtain ⟨zz,o,g2,g3,zz⟩:=cellAt x c hm
         exact ⟨o,g2,by simp [Ya1,g3],Ypv g3 (by decide)⟩
     · exact I0.frm.there a ha
 · obtain ⟨c1,e1,m1⟩:=ownL x hx
   rw [hc] at e1; cases e1
   exact Zd _ (Zsb.mpr ⟨_,m1,rfl⟩)
end
end
section
noncomputable def Yx3 (T:Tp) (d:Nat) (sc:Scope) (ρ:Loc) (X:QX):List Expr→(Bool→Hp→Prop)→Hp→Prop
 | [],Q,σ=>Q true σ
 | [c],Q,σ=>Yd1 T d sc ρ X c Q σ
 | z1,z2,z3=>False
theorem Yiu {names:List (Str×NameKind)}(hn:(names.map (·.1)).Nodup) {x:Str}{k:NameKind}(h:(x,k)∈names):names.lookup x=some k:=by
 obtain ⟨k',hk'⟩:=Ybw h
 rw [hk',Yg5 hn (mem_of_lookup hk') h]
theorem Yhz {scope sc:Scope}{x:Str}(h:Yar scope x=true):Yar (Yfa scope sc) x=true:=by
 refine Ylz ?_
 have e:(Yfa scope sc).names.lookup x=(scope.names.lookup x).map (Yjq sc x):=Ycd scope.names x
 rw [e]
 rcases Yeb h with q | q <;> rw [q]
 · exact .inl rfl
 · exact .inr rfl
section
variable {T:Tp}{A:Around}{fs:List Env}{d:Nat}{env:Env}{F:List Addr}{ι ι':Inj}{h h':Heap}{s:Shared}{ρ:Loc}{σ:Hp}{sc:Scope}{X:QX}{Q:QE}
theorem Inv.side {a:Addr}{o:Obj}{t:Nat}(I:Inv T A fs d env F ρ ι σ s) (hs:Heap.SameBut a s.heap h') (ho:s.heap.get? a=some o) (hl:Yb1 o=true) (hf:Ya1 o=false) (hc:o.cls≠.type "cell") (hn:a∉own ι) (hF:a∉F) (hb:T.b0.objs.size≤a) :
   Inv T A fs d env F ρ ι σ { s with heap:=h',toks:=t }:=by
 have hk:∀ b o,b≠a→s.heap.get? b=some o→h'.get? b=some o:=fun b o q e=>(hs.2 b q).trans e
 have m:Yed ι s.heap ι h':=.but hk ⟨o,ho,hl,hf⟩ ι
 have ne:∀ b z,s.heap.get? b=some z→Yb1 z=false→b≠a:=fun b z e i q=>Zv (i.symm.trans (Yad (ho.symm.trans (q▸e))▸hl))
 exact ⟨I.rep.keeps m (Zr hs.1.symm) (fun b z e=>hk b z (fun q=>absurd (Zu e) (Zo.mpr (q▸hb))) (I.rep.base b z e)) fun b hb z e=>hk b z (fun q=>hn (q▸hb)) e,
   I.aok.keeps (fun zz n zz=>n) (fun b z g zz c=>⟨z.slots,hk b z (ne b z g (by simp [Yb1,c])) g⟩) (I.aok.hx.keep fun b z C e1 e2 e3=>⟨hk b z (ne b z e1 (Yir e2)) e1,e3⟩),
   I.frm.keeps m (fun zz n zz=>n) (fun b z g hb zz=>⟨z,hk b z (fun q=>hF (q▸hb)) g,rfl⟩) fun b z g zz zz c=>⟨z.slots,hk b z (c.elim (fun hb q=>hF (q▸hb)) fun c q=>hc (Yad (ho.symm.trans (q▸g))▸c)) g⟩,I.top,I.gens,I.os⟩
theorem Yux {E:Value→Shared→Prop}{D:Addr}{items:Array Value}{n:Nat}{x:Value}{R:Value→Shared→Prop}(hL:IsL s.heap D items n) (hsz:items.size≤sizeLine)
   (k:∀ h' m,IsL h' D (items.push x) m→Heap.SameBut D s.heap h'→R .none { s with heap:=h' }):wpAny (model T.prog T.w) A (call (.builtin "list.append") [.ref D,x]) R E s:=by
 refine call_meets F.slot_list_append ⟨_,hL,rfl⟩ F.entry_list_append (F.args_list_append_2 _ _) (list_append D items n x hsz) ⟨hL,?_⟩
 refine k _ _ (Heap.get?_update_self _ hL rfl) (Heap.SameBut.update ..)
theorem Yqj {E:Value→Shared→Prop}{v:V}{It:Addr}{i:Nat}{R:Value→Shared→Prop}(it:Yi6 T ι s.heap v It i) (k:R (.ref It) s):wpAny (model T.prog T.w) A (pyIter (.ref It)) R E s:=by
 induction it with
 | asc x t it=>exact wpAny_pyIter_striter_ascii it k
 | wide x t it=>exact wpAny_pyIter_striter_wide it k
 | tup vs a items n ht hv it=>exact wpAny_pyIter_tupleiter it k
 | lst l a d e it=>exact wpAny_pyIter_listiter it k
 | rng n it=>exact wpAny_pyIter_rangeiter it k
 | rev l n a d hi e it=>exact wpAny_pyIter_revIter it k
theorem Ym9 {L:Addr}{ea:Addr}{c:Str}{σ':Hp}{s':Shared}{cenv cenv':Env}{Fc:List Addr}{ρ':Loc}(hb:T.b0.objs.size≤h.objs.size) (f:Yob T h.objs.size ea c s'.heap) (hn:ea∉own ι') (I:Inv T A fs d cenv Fc ρ' ι' σ' s') (e:Ext T [] ι h ι' s'.heap) (x:X c σ')
   (hL:cenv.locals=L) (hs:Heap.SameBut L s'.heap h') (hd:L∉frs fs) (hl:h.objs.size≤L) (hnf:cenv.frame≠some cenv.locals):wpAny (model T.prog T.w) A (PySem.passOn "comprehension.variables-let-go" (.ref ea) cenv':Sem Value) (fun zz zz=>False) (Yaz T [] X ι h) { s' with heap:=h' }:=by
 subst hL
 obtain ⟨cl,mm,hc,hN,zz⟩:=I.frm.ns
 obtain ⟨oL,es,ep,l1,l2,l3,l4,zz⟩:=hN
 have hk:∀ b o,b≠cenv.locals→s'.heap.get? b=some o→h'.get? b=some o:=fun b o q e=>(hs.2 b q).trans e
 have f₀:=f
 obtain ⟨C,oe,vs,v,f1,f2,f3,f4,f5,f6,f7,f8,tb,ot,ts,rfl,t2,t3,t4,t5,t6,t7⟩:=f
 have ne1:ea≠cenv.locals:=fun q=>by rw [q,l1] at f3; cases f3; rw [l4] at f5; cases f5
 have ne2:tb≠cenv.locals:=fun q=>by rw [q,l1] at t4; cases t4; rw [l4] at t6; cases t6
 have f':Yob T h.objs.size ea c h':=⟨C,oe,vs,_,f1,f2,hk _ _ ne1 f3,f4,f5,f6,f7,f8,tb,ot,ts,rfl,t2,t3,hk _ _ ne2 t4,t5,t6,t7⟩
 have ap:=I.frm.apart _ I.frm.loc
 obtain ⟨o₂,q1,q2,zz⟩:=I.frm.there _ I.frm.loc
 rw [l1] at q1; cases q1
 have S:∀ a∈frs fs,a∉own ι'∧T.b0.objs.size≤a∧∃ o,h'.get? a=some o∧o.cls=.type "frame":=fun a ha=>by
   obtain ⟨a1,a2,o,zz,zz,a3,a4,zz⟩:=I.aok.mem ha
   exact ⟨a1,a2,o,hk a o (fun q=>hd (q▸ha)) a3,a4⟩
 have hns:∀ b,b≠cenv.locals→h'.get? b=s'.heap.get? b:=fun b q=>hs.2 b q
 have q:=hc.2 hnf
 have m:Yed ι' s'.heap ι' h':=.but hk ⟨_,l1,by simp [Yb1,l2,q],q2⟩ ι'
 unfold PySem.passOn
 refine Zhb (wpAny_field (s:={ s' with heap:=h' }) (hk _ _ ne1 f3) f5 f8 ?_)
 rw [if_neg (by simp)]
 refine Zhb (Ydh (S:=frs fs) (s:={ s' with heap:=h' }) f' fun h'' t f''=>wpAny_throw ?_)
 have R':Rep T ι' σ' h':=I.rep.keeps m (Zr hs.1.symm) (fun b z e=>hk b z (fun q=>absurd (Zu e) (Zo.mpr (q▸ap.2))) (I.rep.base b z e)) fun b hb z e=>hk b z (fun q=>ap.1 (q▸hb)) e
 have e':Ext T [] ι h ι' h':=e.free hk (Zr hs.1.symm) hl
 exact ⟨ea,c,σ',ι',rfl,x,f''.fly,hn,R'.touch t S ⟨oe,C,hk _ _ ne1 f3,f4⟩ hn hb f2,e'.touch t (fun a ha=>(S a ha).2.2) f2,I.gens,I.os⟩
end
end
section
section
variable {T:Tp}{A:Around}{fs:List Env}{d:Nat}{env:Env}{F:List Addr}{ι ι':Inj}{h h':Heap}{s:Shared}{ρ:Loc}{σ:Hp}{sc:Scope}{X:QX}{Q:QE}
theorem Yg2 {cenv:Env}{Fc:List Addr}{ρ':Loc}{ι₂:Inj}{σ₂:Hp}{s₂ s₃:Shared}{x acc:Value}{R:Value→Shared→Prop}{use:Option (Value→Sem Unit)}{EE:Value→Shared→Prop}(hE:∀ x s',Yaz T [] X ι h x s'→EE x s') (hb:T.b0.objs.size≤h.objs.size) (I₂:Inv T A fs d cenv Fc ρ' ι₂ σ₂ s₂) (e₂:Ext T [] ι h ι₂ s₂.heap) (p:Yaz T [] X ι₂ s₂.heap x s₃)
   (hd:cenv.locals∉frs fs) (hl:h.objs.size≤cenv.locals) (hnf:cenv.frame≠some cenv.locals) :
   notedBy (model T.prog T.w) A cenv (fun e s'=>compPost (model T.prog T.w) A EE use R acc cenv.locals (.error e) s') x s₃:=by
 obtain ⟨ea,c,σ₃,ι₃,rfl,hx,f,n,rp,e',g,o⟩:=p
 have I₃:=I₂.ext e' rp g o
 have e₃:=e₂.trans e'
 have f₃:=f.lo e₂.size
 have hle:h.objs.size≤ea:=by obtain ⟨zz,zz,zz,zz,zz,q,zz⟩:=f₃; exact q
 unfold notedBy
 refine Ypc I₃ f₃ e₃.size fun h₄ t f₄=>?_
 have I₄:=I₃.touch t f₃ n hb hle
 have e₄:=e₃.touch t (fun a ha=>(by obtain ⟨_,_,o,_,_,g,gc,_⟩:=I₃.aok.mem ha; exact ⟨o,g,gc⟩)) hle
 obtain ⟨cl,mm,hc,hN,zz⟩:=I₄.frm.ns
 have key:∃ m,h₄.Ns cenv.locals m∧∀ h',Heap.SameBut cenv.locals h₄ h'→∀ cenv':Env,cenv'.locals=cenv.locals→wpAny (model T.prog T.w) A (PySem.passOn "comprehension.variables-let-go" (.ref ea) cenv':Sem Value) (fun zz zz=>False) EE { s₃ with heap:=h' } :=
   ⟨mm,hN.ns,fun h₅ hs cenv' zz=>Zib (Ym9 (s':={ s₃ with heap:=h₄ }) hb f₄ n I₄ e₄ hx rfl hs hd hl hnf) (fun zz zz f=>f) fun x s' p=>hE x s' p⟩
 cases use <;> exact key
theorem Yxx {E:Value→Shared→Prop}{cenv:Env}{Fc:List Addr}{ifs:List Expr}{Q':Bool→Hp→Prop}{R:Bool→Shared→Prop}(hsc:cenv.scope=sc) (I:Inv T A fs d cenv Fc ρ ι σ s) (hi:Yx3 T d sc ρ X ifs Q' σ)
   (k:∀ b s',Yeq T Q' ι s.heap b s'→R b s') (kx:∀ x s',Yaz T [] X ι s.heap x s'→E x s') :
   wpAny (model T.prog T.w) A (forIn ifs true fun c r=>if r=true then do let ok ← isTrue c cenv (eval c cenv); pure (ForInStep.yield ok) else pure (ForInStep.yield r)) R E s:=by
 rcases ifs with zz | ⟨c,zz | zz⟩
 · rw [List.forIn_nil]; exact Zjb (k _ _ ⟨σ,ι,hi,I.rep,.refl ..,I.gens,I.os⟩)
 · rw [List.forIn_cons,if_pos rfl]
   refine Zhb (Zhb (Zib (hi cenv A fs Fc ι s hsc I) (fun b s' p=>Zjb ?_) fun x s' p=>kx x s' p))
   show wpAny _ _ (forIn [] b _) _ _ _
   rw [List.forIn_nil]; exact Zjb (k _ _ p)
 · exact (show False from hi).elim
theorem Yve {ρ ρ':Loc}{x:Str}{v:Option V}(h:∀ y,y≠x→ρ' y=ρ y):upd ρ' x v=upd ρ x v:=by
 funext y; unfold upd; split
 · rfl
 · rename_i q; exact h y q
structure Yy9 (T:Tp) (F:List Addr) (ι:Inj) (h₀ h:Heap) (L:Addr):Prop where
 no:L∉own ι
 nF:L∉F
 b:T.b0.objs.size≤L
 lo:h₀.objs.size≤L
 dict:∃ m,NsC h L "dict" m
inductive Ybv (T:Tp) (d:Nat) (sc:Scope) (ρ:Loc) (X:QX) (scope:Scope) (x:Str) (ifs:List Expr) (elt:Expr) (Q:QE) (v:V) (σ₁:Hp):Prop where
 | mk (items:List V) (J:Nat→List V→Hp→Prop) (h0:J 0 [] σ₁) (h1:∀ i acc σ,J i acc σ→Yef σ v=some items∧acc.length≤sizeLine) (h2:∀ acc σ,J items.length acc σ→Q (.ref σ.length) (σ++[.list acc]))
     (h3:∀ i y acc σ,J i acc σ→items[i]?=some y→Yx3 T d (Yfa scope sc) (upd (Ybc scope ρ) x (some y)) X ifs (fun b σ'=>if b then Yai T d (Yfa scope sc) (upd (Ybc scope ρ) x (some y)) X elt (fun z σ''=>J (i+1) (acc++[z]) σ'') σ' else J (i+1) acc σ') σ):Ybv T d sc ρ X scope x ifs elt Q v σ₁
theorem Yig {elt iter:Expr}{x:Str}{px pos:Pos}{ifs:List Expr}{scope:Scope}{use:Option (Value→Sem Unit)}{RR:Value→Shared→Prop}{EE:Value→Shared→Prop}(I:Inv T A fs d env F ρ ι σ s) (hok:Ydj scope env.scope=true) (hx:Yar scope x=true) (hs:Yfn iter=true)
   (he:Yko T d env.scope ρ X iter (fun v σ₁=>(T.hd=false∨∃ n,v=.rng n)∧Ybv T d env.scope ρ X scope x ifs elt Q v σ₁) σ)
   (hfin:∀ v σ₂ ι₂ s₂ D L,Q v σ₂→Inv T A fs d env F ρ ι₂ σ₂ s₂→Yau T ι₂ s₂.heap v (.ref D)→Ext T [] ι s.heap ι₂ s₂.heap→Yy9 T F ι₂ s.heap s₂.heap L→compPost (model T.prog T.w) A EE use RR (.ref D) L (.ok .next) s₂)
   (hE:∀ x s',Yaz T [] X ι s.heap x s'→EE x s') :
   wpAny (model T.prog T.w) A (comprehension (.ListComp elt [⟨.Name x px,iter,ifs,0⟩] scope pos) scope env (firstIterPos [⟨.Name x px,iter,ifs,0⟩] pos) (newList []) (firstAsync [⟨.Name x px,iter,ifs,0⟩]) (firstIter [⟨.Name x px,iter,ifs,0⟩] env) use) RR EE s:=by
 have hclos:=(Yg0 I hok _ rfl).1
 have hok':=hok
 simp only [Ydj,Zob,beq_iff_eq,decide_eq_true_eq] at hok'
 have hkind:=hok'.1.1
 have hnd:=hok'.1.2
 refine wpAny_comprehension_free (use:=use) (cl:=Ybl env scope.names []) rfl (fun zz=>Yiz hs) hclos hkind (fun y hy hl=>by obtain ⟨n,k⟩:=y; cases hl; exact Yiu hnd hy) ?_
 show wpAny _ A (eval iter env) _ _ s
 refine Zib (he env A fs F ι s rfl I) (fun xv s₁ p=>?_) fun zz zz p=>hE _ _ p
 refine Ypr I p (fun v σ hQ=>hQ.2.rec fun items J j0 jit z1 z2=>⟨items,(jit 0 [] _ j0).1⟩) fun v σ₁ ι₁ Ia H2 hQ I₁ ex it0 nI0 hI0=>?_
 have hRn:=hQ.1
 refine hQ.2.rec fun items J j0 jit jend jturn=>?_
 refine wpAny_newList ?_
 dsimp only
 generalize hH3:H2.push { cls:=.type "list",data:=.seq ([]:List Value).toArray }=H3
 have sz3:H3.objs.size=H2.objs.size+1:=by rw [← hH3,Zqb]
 have l12:Ia < H2.objs.size:=it0.iterish.elim fun o h=>Zu h.1
 have l23:H2.objs.size < H3.objs.size:=sz3▸Zs _
 have l13:=Nat.lt_trans l12 l23
 have k23:∀ b o,H2.get? b=some o→H3.get? b=some o:=fun b o e=>by rw [← hH3]; exact Zx _ e
 have hD:IsL H3 H2.objs.size #[] 0:=by rw [← hH3]; exact IsL.new H2 #[]
 have I₃:Inv T A fs d env F ρ ι₁ σ₁ { s₁ with heap:=H3 }:=I₁.grown (h':=H3) (Zq l23) k23
 have e13:Ext T [] ι₁ H2 ι₁ H3:=.of_keeps (Zq l23) k23
 simp only [newFunctionEnv,Option.isSome_some,if_true]
 refine Zhb (wpAny_alloc ?_)
 refine Zhb (wpAny_layCells _ (fun name kind cells=>by cases hkc:kind == NameKind.cell <;> simp [hkc]) _ _ _ _ ?_)
 refine (Yg0 I₃ hok _ rfl).2.elim fun Fn h=>Yzk h fun hFn I₄ e34 hcell hLF=>?_
 refine Zhb ?_
 rw [List.forIn_nil]
 refine Zjb (Zjb ?_)
 dsimp only
 rw [show ({ s₁ with heap:=H3.push { cls:=.type "dict",data:=.dict #[] } }:Shared).heap.objs.size=H3.objs.size+1 from Zqb ..]
 show codeAny _ A (.compStart _ 0 (.ref Ia) (.ref H2.objs.size) (Ycu scope env H3.objs.size)) _ _
 generalize hh4:pushCells (H3.push { cls:=.type "dict",data:=.dict #[] }) scope.names=h4 at I₄ e34 ⊢
 have Lc:(Ycu scope env H3.objs.size).locals=H3.objs.size:=rfl
 generalize hce:Ycu scope env H3.objs.size=cenv at I₄ hcell Lc ⊢
 have cfr:cenv.frame=env.frame:=by rw [← hce]; rfl
 have csc:cenv.scope=Yfa scope env.scope:=by rw [← hce]; rfl
 have hb:=I.rep.size
 have hb1:=I₁.rep.size
 have hd:cenv.locals∉frs fs:=fun q=>by
   obtain ⟨zz,zz,ofr,zz,zz,a3,zz⟩:=I₁.aok.mem q
   rw [Lc] at a3
   have z:H3.objs.size < H2.objs.size:=Zu a3
   exact Nat.lt_asymm l23 z
 have hnf:cenv.frame≠some cenv.locals:=fun q=>hd (by
   obtain ⟨te,tr,tL,tfs,tf1,tf2⟩:=I₁.top
   rw [cfr,tf2] at q; rw [← Zab q,tfs]
   unfold frs; rw [List.filterMap_cons,tf1]; exact Zt)
 have hl:s.heap.objs.size≤cenv.locals:=by rw [Lc]; exact Za ex.size (Zq l23)
 have hFF:∀ a∈F,a < H2.objs.size:=fun a ha=>(I₁.frm.there a ha).lt
 have hDF:H2.objs.size∉Fn++F:=fun q=>by
   rcases Zm.mp q with q | q
   · have z:H3.objs.size≤H2.objs.size:=hFn _ q
     exact Zo.mpr z l23
   · exact Zub _ (hFF _ q)
 have no1:∀ a,H2.objs.size≤a→a∉own ι₁:=fun a ha q=>absurd (I₁.rep.own_lt q) (Zo.mpr ha)
 have k34:∀ b o,H3.get? b=some o→h4.get? b=some o:=fun b o e=>by rw [← hh4]; exact pushCells_keeps _ _ _ _ (Zx _ e)
 have it4:Yi6 T ι₁ h4 v Ia 0:=it0.keep ⟨⟨[],by simp⟩,fun a o e zz=>⟨o,k34 a o (k23 a o e),rfl⟩,fun a o e zz=>k34 a o (k23 a o e)⟩ fun o e=>k34 _ o (k23 _ o e)
 have hD4:IsL h4 H2.objs.size #[] 0:=k34 _ _ hD
 have e4:Ext T [] ι s.heap ι₁ h4:=ex.trans (e13.trans e34)
 have hD0:s.heap.objs.size≤H2.objs.size:=ex.size
 have hbI:T.b0.objs.size≤Ia:=Za hb hI0
 have loop:codeAny (model T.prog T.w) A (.compLoop (.ListComp elt [⟨.Name x px,iter,ifs,0⟩] scope pos) 0 (.ref Ia) (.ref H2.objs.size) cenv)
     (compPost (model T.prog T.w) A EE use RR (.ref H2.objs.size) cenv.locals) { s₁ with heap:=h4 }:=by
   obtain ⟨JJ,hJJ⟩:∃ JJ:Nat→Shared→Prop,∀ n s',JJ n s'↔∃ i acc σ' ι' ρ' its m,n=items.length - i∧i≤items.length∧J i acc σ'∧Inv T A fs d cenv (Fn++F) ρ' ι' σ' s'∧(∀ y,y≠x→ρ' y=Ybc scope ρ y)∧Ext T [] ι s.heap ι' s'.heap ∧
     Yi6 T ι' s'.heap v Ia i∧Ia∉own ι'∧H2.objs.size∉own ι'∧IsL s'.heap H2.objs.size its m∧VRels T ι' s'.heap acc its.toList:=⟨_,fun zz zz=>Iff.rfl⟩
   refine codeAny_loop rfl JJ (fun n s' hJ=>?_) items.length ((hJJ _ _).mpr ⟨0,[],σ₁,ι₁,Ybc scope ρ,#[],0,rfl,Zkb _,j0,I₄,fun zz zz=>rfl,e4,it4,nI0,no1 _ (Zl _),hD4,trivial⟩)
   refine ex7 ((hJJ _ _).mp hJ) fun i acc σ' ι' ρ' its m h=>Y0u h fun hn0 hi j I' hρ e' it nI nD hL hv=>?_
   clear h
   show wpAny _ _ ((compTurn (.ListComp elt [⟨.Name x px,iter,ifs,0⟩] scope pos) 0 (.ref Ia) (.ref H2.objs.size) cenv).onRaise (fun x=>do noteFrame x cenv; theTreesLotGoes x)) _ _ s'
   refine wpAny_noted ?_
   rw [compTurn_list]
   have isit:=it.iterish
   have ji:=jit i acc σ' j
   by_cases hlt:i < items.length
   · have hy:items[i]?=some items[i]:=Zp hlt
     refine Zhb (wpAny_standAt (Zhb (Ypf I'.rep it nI ji.1 hy fun h5 t5 y5 hs5 ry it5=>?_)))
     have k5:∀ b o,b≠Ia→s'.heap.get? b=some o→h5.get? b=some o:=fun b o q e=>(hs5.2 b q).trans e
     have I5:Inv T A fs d cenv (Fn++F) ρ' ι' σ' { s' with heap:=h5,toks:=t5 }:=I'.free k5 (Zr hs5.1.symm) isit nI hbI
     have e5:Ext T [] ι s.heap ι' h5:=e'.free k5 (Zr hs5.1.symm) hI0
     have m5:Yed ι' s'.heap ι' h5:=.free k5 isit ι'
     have hDI:H2.objs.size≠Ia:=Zoc l12
     have hL5:IsL h5 H2.objs.size its m:=k5 _ _ hDI hL
     refine Zhb (Ygd (s:={ s' with heap:=h5,toks:=t5 }) it5 ?_)
     refine Zhb (wpAny_assign_Name (Yhx I5.rep I5.frm (by rw [csc]; exact Yhz hx) ry fun h6 t6 R6 H6 e6 ds6 a6=>?_))
     have I6:=I5.stored (t:=t6) R6 H6 e6 ds6
     rw [Yve hρ] at I6
     refine a6.elim fun a ha6=>?_
     have hs6:=ha6.1
     have ha:=ha6.2
     have aF:a∈Fn:=by
       rcases ha with rfl | ⟨ka,ca⟩
       · rw [Lc]; exact hLF
       · have hxs:scope.names.lookup x=some .local∨scope.names.lookup x=some .cell:=by
           exact Yeb hx
         have hxc:scope.names.lookup x=some .cell:=by
           rcases hxs with q | q
           · exfalso
             have:cenv.kindOf x=(scope.names.lookup x).map (Yjq env.scope x):=by rw [← hce]; exact Ycd scope.names x
             rw [ka,q] at this; simp [Yjq] at this
           · exact q
         exact hcell x a hxs ca hxc
     have aL:H3.objs.size≤a:=hFn a aF
     have k6:∀ b o,b≠a→h5.get? b=some o→h6.get? b=some o:=fun b o q e=>(hs6.2 b q).trans e
     have e6':Ext T [] ι s.heap ι' h6:=e5.free k6 (Zr hs6.1.symm) (Za (Za hD0 (Zq l23)) aL)
     have itne:Ia≠a:=Znc (Zz l13 aL)
     have Dne:H2.objs.size≠a:=Znc (Zz l23 aL)
     have it6:Yi6 T ι' h6 v Ia (i+1):=it5.keep e6.mono fun o e=>k6 _ o itne e
     have hL6:IsL h6 H2.objs.size its m:=k6 _ _ Dne hL5
     have hv6:VRels T ι' h6 acc its.toList:=(hv.mono m5).mono e6.mono
     have hv':=hv6.length
     simp only [Array.length_toList] at hv'
     have next:∀ (s7:Shared) (σ7:Hp) (ι7:Inj),J (i+1) acc σ7→Inv T A fs d cenv (Fn++F) (upd (Ybc scope ρ) x (some items[i])) ι7 σ7 s7→Ext T [] ι' h6 ι7 s7.heap→∃ m,m < n∧JJ m s7:=fun s7 σ7 ι7 j7 I7 e7=>by
       obtain ⟨oi,gi,gii⟩:=it6.iterish
       refine ⟨items.length - (i+1),hn0▸Zqc hlt (Zs i),(hJJ _ _).mpr ⟨i+1,acc,σ7,ι7,_,its,m,rfl,hlt,j7,I7,fun y hy=>by unfold upd; rw [if_neg hy],e6'.trans e7,it6.keep e7.mono fun o ho=>e7.keep _ o ho nI (by simp) fun q=>?_,e7.not_own nI (Zu gi),e7.not_own nD (Zu hL6),e7.keep _ _ hL6 nD (by simp) (by simp),hv6.mono e7.mono⟩⟩
       rw [gi] at ho; cases ho; exact Zv ((Yco q (by decide)).symm.trans gii)
     show wpAny _ _ (forIn ifs true (fun c r=>if r=true then do let ok ← isTrue c cenv (eval c cenv); pure (ForInStep.yield ok) else pure (ForInStep.yield r)) >>= _) _ _ _
     refine Zhb (Yxx csc I6 (jturn i items[i] acc σ' j hy) (fun b s7 p=>?_) fun z s7 p=>Yg2 hE hb I6 e6' p hd hl hnf)
     refine p.rec fun σ7 ι7 q7 rp7 e7 g7 o7=>?_
     have I7:=I6.ext e7 rp7 g7 o7
     cases b with
     | false=>exact Zjb ⟨rfl,next s7 σ7 ι7 q7 I7 e7⟩
     | true =>
       have e67:=e6'.trans e7
       refine Zhb (Zhb (Zib (q7 cenv A fs (Fn++F) ι7 s7 csc I7) (fun z s8 p=>?_) fun z s8 p=>Yg2 hE hb I7 e67 p hd hl hnf))
       refine p.rec fun zv σ8 ι8 j8 rz rp8 e8 g8 o8=>?_
       have I8:=I7.ext e8 rp8 g8 o8
       have e78:=e7.trans e8
       have hL8:IsL s8.heap H2.objs.size its m:=e78.keep _ _ hL6 nD (by simp) (by simp)
       have nD8:=e78.not_own nD (Zu hL6)
       obtain ⟨oi,gi,gii⟩:=it6.iterish
       have nI8:=e78.not_own nI (Zu gi)
       have it8:Yi6 T ι8 s8.heap v Ia (i+1):=it6.keep e78.mono fun o ho=>e78.keep _ o ho nI (by simp) fun q=>by rw [gi] at ho; cases ho; exact Zv ((Yco q (by decide)).symm.trans gii)
       refine Zhb (Yux hL8 (by rw [hv']; exact ji.2) fun h9 m9 hL9 hs9=>Zjb (Zjb ⟨rfl,?_⟩))
       have I9:Inv T A fs d cenv (Fn++F) (upd (Ybc scope ρ) x (some items[i])) ι8 σ8 { s8 with heap:=h9 }:=I8.side (t:=s8.toks) hs9 hL8 rfl rfl (by simp) nD8 hDF hb1
       have k9:∀ b o,b≠H2.objs.size→s8.heap.get? b=some o→h9.get? b=some o:=fun b o q e=>(hs9.2 b q).trans e
       have m9':Yed ι8 s8.heap ι8 h9:=.but k9 ⟨_,hL8,rfl,rfl⟩ ι8
       refine ⟨items.length - (i+1),hn0▸Zqc hlt (Zs i),(hJJ _ _).mpr ⟨i+1,acc++[zv],σ8,ι8,_,its.push z,m9,rfl,hlt,j8,I9,fun y hy=>by unfold upd; rw [if_neg hy],(e6'.trans e78).free k9 (Zr hs9.1.symm) hD0,it8.keep m9' fun o ho=>k9 _ o (Ne.symm hDI) ho,nI8,nD8,hL9,?_⟩⟩
       rw [Array.toList_push]
       refine ((hv6.mono e78.mono).mono m9').append ?_
       exact ⟨rz.mono m9',trivial⟩
   · have hil:i=items.length:=Zpc hi (Zo.mp hlt)
     refine Zhb (wpAny_standAt (Zhb (Ytf (hRn.imp I'.aok.hd fun q=>⟨I'.aok.hx,q⟩) I'.rep it ji.1 (Zo.mp hlt) fun h5 he5 hz5=>Zjb ?_)))
     have I5:Inv T A fs d cenv (Fn++F) ρ' ι' σ' { s' with heap:=h5 }:=I'.free (t:=s'.toks) (fun b o q e=>he5 b o q e) hz5 isit nI hbI
     have m5:Yed ι' s'.heap ι' h5:=.free (fun b o q e=>he5 b o q e) isit ι'
     have e5:Ext T [] ι s.heap ι' h5:=e'.free (fun b o q e=>he5 b o q e) hz5 hI0
     have hDI:H2.objs.size≠Ia:=Zoc l12
     have hL5:IsL h5 H2.objs.size its m:=he5 _ _ hDI hL
     refine I5.frm.ns.rec fun cl mm hc hN zz=>?_
     rw [hc.2 hnf] at hN
     have mz:Yed ι' h5 (ι'++[(H2.objs.size,H2.objs.size)]) h5:=⟨⟨_,rfl⟩,fun zz o e zz=>⟨o,e,rfl⟩,fun zz zz e zz=>e⟩
     have R5:Rep T (ι'++[(H2.objs.size,H2.objs.size)]) (σ'++[.list acc]) h5:=I5.rep.more (o:=.list acc) (p:=(H2.objs.size,H2.objs.size)) ⟨rfl,its.toList,⟨m,by simpa using hL5⟩,(hv.mono m5).mono mz⟩ hb1 hb1 nD nD
     have moreX:∀ {ι₀:Inj}{h₀:Heap},Ext T [] ι₀ h₀ ι' h5→h₀.objs.size≤H2.objs.size→Ext T [] ι₀ h₀ (ι'++[(H2.objs.size,H2.objs.size)]) h5:=fun e6 hz=>by
       obtain ⟨κ,hκ,hκ'⟩:=e6.pre
       exact ⟨⟨κ++[(H2.objs.size,H2.objs.size)],by rw [hκ]; simp,fun p hp=>by
         rcases Zm.mp hp with hp | hp
         · exact hκ' p hp
         · cases Zj.mp hp; exact ⟨hz,hz⟩⟩,e6.size,e6.cls,e6.frz,e6.keep,e6.frm⟩
     have ap:=I5.frm.apart _ I5.frm.loc
     have nL:cenv.locals∉own (ι'++[(H2.objs.size,H2.objs.size)]):=fun q=>by
       rw [Yg7,Zm] at q
       rcases q with q | q
       · exact ap.1 q
       · have:cenv.locals=H2.objs.size:=by simpa [own] using q
         rw [Lc,sz3] at this; exact absurd this (Nat.succ_ne_self _)
     have lF:cenv.locals∉F:=fun q=>by
       have z:=hFF _ q
       rw [Lc] at z
       exact Nat.lt_asymm l23 z
     have Iout:Inv T A fs d env F ρ (ι'++[(H2.objs.size,H2.objs.size)]) (σ'++[.list acc]) { s' with heap:=h5 }:=I.ext (s':={ s' with heap:=h5 }) (moreX e5 hD0) R5 I'.gens I'.os
     refine hfin (.ref σ'.length) (σ'++[.list acc]) (ι'++[(H2.objs.size,H2.objs.size)]) { s' with heap:=h5 } H2.objs.size cenv.locals (jend acc σ' (hil▸j)) Iout ?_ (moreX e5 hD0) ⟨nL,lF,ap.2,hl,mm,hN⟩
     exact ⟨H2.objs.size,H2.objs.size,rfl,by rw [← I5.rep.len]; simp⟩
 rw [Lc] at loop
 exact codeAny_compStart_list loop (Yqj it4 loop)
theorem Yai.compI {elt iter:Expr}{x:Str}{px pos:Pos}{ifs:List Expr}{scope:Scope}(hok:Ydj scope sc=true) (hx:Yar scope x=true) (hs:Yfn iter=true)
   (he:Yko T d sc ρ X iter (fun v σ₁=>(T.hd=false∨∃ n,v=.rng n)∧Ybv T d sc ρ X scope x ifs elt Q v σ₁) σ) :
   Yai T d sc ρ X (.ListComp elt [⟨.Name x px,iter,ifs,0⟩] scope pos) Q σ:=by
 intro env A fs F ι s hsc I
 subst hsc
 rw [eval_ListComp]
 refine Yig I hok hx hs he (fun v σ₂ ι₂ s₂ D L q I₂ rv e₂ lg=>?_) fun zz zz p=>p
 obtain ⟨no,nF,hb,lo,m,hN⟩:=lg
 refine ⟨m,hN.ns,fun h' hs'=>?_⟩
 obtain ⟨o,es,ep,g1,g2,zz⟩:=hN
 have I₃:Inv T A fs d env F ρ ι₂ σ₂ { s₂ with heap:=h' }:=I₂.side (t:=s₂.toks) hs' g1 (by simp [Yb1,g2]) (by simp [Ya1,g2]) (by rw [g2]; simp) no nF hb
 have k:∀ b o,b≠L→s₂.heap.get? b=some o→h'.get? b=some o:=fun b o q e=>(hs'.2 b q).trans e
 exact ⟨v,σ₂,ι₂,q,rv.mono (.but k ⟨o,g1,by simp [Yb1,g2],by simp [Ya1,g2]⟩ ι₂),I₃.rep,e₂.free k (Zr hs'.1.symm) lo,I₃.gens,I₃.os⟩
theorem Yai.compR {elt iter:Expr}{x:Str}{px pos:Pos}{ifs:List Expr}{scope:Scope}(hok:Ydj scope sc=true) (hx:Yar scope x=true) (hs:Yfn iter=true)
 (he:Yai T d sc ρ X iter (fun v σ₁=>(T.hd=false∨∃ n,v=.rng n)∧Ybv T d sc ρ X scope x ifs elt Q v σ₁) σ) :
 Yai T d sc ρ X (.ListComp elt [⟨.Name x px,iter,ifs,0⟩] scope pos) Q σ:=.compI hok hx hs he.it
theorem Yai.comp {elt iter:Expr}{x:Str}{px pos:Pos}{ifs:List Expr}{scope:Scope}(hok:Ydj scope sc=true) (hx:Yar scope x=true) (hs:Yfn iter=true)
 (he:Yai T d sc ρ X iter (fun v σ₁=>Ybv T d sc ρ X scope x ifs elt Q v σ₁) σ) (hT:T.hd=false:=by rfl) :
 Yai T d sc ρ X (.ListComp elt [⟨.Name x px,iter,ifs,0⟩] scope pos) Q σ:=.compR hok hx hs (he.mono (fun zz zz p=>⟨.inl hT,p⟩) fun zz zz p=>p)
end
end
section
section
variable {T:Tp}{A:Around}{fs:List Env}{d:Nat}{env:Env}{F:List Addr}{ι ι':Inj}{h h':Heap}{s:Shared}{ρ:Loc}{σ:Hp}{sc:Scope}{X:XS}{Q:QS}
theorem Yn8 {elt:Expr}{gens:List Comprehension}{y:Str}{py pos:Pos}{scope:Scope}{l:Nat}(hkind:env.scope.kind=.function) (hy:env.kindOf y=some .local) (hsw:(py.line == pos.line && !(scope.names.any fun (n,k)=>n == y && (k == .local || k == .cell)))=true) :
   swapsWith (.ListComp elt gens scope pos) (some (.Name y py)) l env=pure true:=by
 have:swapsWith (.ListComp elt gens scope pos) (some (.Name y py)) l env=(pure (env.blockKind == .function && env.kindOf y == some .local && py.line == pos.line && !(scope.names.any fun (n,k)=>n == y && (k == .local || k == .cell))):Sem Bool):=rfl
 rw [this]
 simp only [Zob] at hsw
 rw [hsw.1,hsw.2,hy,show env.blockKind=.function by unfold Env.blockKind; rw [hkind]; rfl]; rfl
theorem Yjr {RR:Value→Shared→Prop}{EE:Value→Shared→Prop}{y:Str}{py:Pos}{v:V}{σ₂:Hp}{ι₂:Inj}{s₂:Shared}{D L:Addr}(hy:Yar env.scope y=true) (I₂:Inv T A fs d env F ρ ι₂ σ₂ s₂) (rv:Yau T ι₂ s₂.heap v (.ref D)) (e₂:Ext T [] ι s.heap ι₂ s₂.heap) (lg:Yy9 T F ι₂ s.heap s₂.heap L)
   (k:∀ s',Inv T A fs d env F (upd ρ y (some v)) ι₂ σ₂ s'→Ext T F ι s.heap ι₂ s'.heap→RR .none s') :
   compPost (model T.prog T.w) A EE (some (assign (.Name y py) env)) RR (.ref D) L (.ok .next) s₂:=by
 obtain ⟨no,nF,hb,lo,m,hN⟩:=lg
 show wpAny _ A (assign (.Name y py) env (.ref D)) _ _ s₂
 refine wpAny_assign_Name (Yhx I₂.rep I₂.frm hy rv fun h₃ t₃ R₃ H₃ e₃ ds₃ a₃=>?_)
 have I₃:=I₂.stored (t:=t₃) R₃ H₃ e₃ ds₃
 obtain ⟨a,hs₃,ha⟩:=a₃
 have aF:a∈F:=by
   rcases ha with rfl | ⟨ka,ca⟩
   · exact I₂.frm.loc
   · exact I₂.frm.cin y a ka ca
 have hLa:L≠a:=fun q=>nF (q▸aF)
 have hN₃:=hN.sameBut hs₃ hLa
 refine ⟨m,hN₃.ns,fun h₄ hs₄=>?_⟩
 obtain ⟨o,es,ep,g1,g2,zz⟩:=hN₃
 have I₄:Inv T A fs d env F _ ι₂ σ₂ { s₂ with heap:=h₄,toks:=t₃ }:=I₃.side (t:=t₃) hs₄ g1 (by simp [Yb1,g2]) (by simp [Ya1,g2]) (by rw [g2]; simp) no nF hb
 have kk:∀ b o,b≠L→h₃.get? b=some o→h₄.get? b=some o:=fun b o q e=>(hs₄.2 b q).trans e
 exact k _ I₄ ((e₂.up.trans e₃).free kk (Zr hs₄.1.symm) lo)
theorem Ybe.assignComp {elt iter:Expr}{y x:Str}{py px pos pos':Pos}{ifs:List Expr}{scope:Scope}(hok:Ydj scope sc=true) (hx:Yar scope x=true) (hs:Yfn iter=true) (hy:sc.names.lookup y=some .local)
   (hsw:(py.line == pos.line && !(scope.names.any fun (n,k)=>n == y && (k == .local || k == .cell)))=true)
   (he:Yai T d sc ρ X iter (fun v σ₁=>Ybv T d sc ρ X scope x ifs elt (fun w σ=>Q .next (upd ρ y (some w)) σ) v σ₁) σ) (hT:T.hd=false:=by rfl) :
   Ybe T d sc ρ X (.Assign [.Name y py] (.ListComp elt [⟨.Name x px,iter,ifs,0⟩] scope pos) pos') Q σ:=by
 intro env A fs F ι s hsc I
 subst hsc
 rw [exec_Assign_Name_used _ _ _ _ (Yn8 I.frm.kind hy hsw)]
 refine Zhb (wpAny_standAt (Zhb ?_))
 show wpAny _ A (do let _ ← comprehension (.ListComp elt [⟨.Name x px,iter,ifs,0⟩] scope pos) scope env _ (newList []) false (eval iter env) (some (PySem.assign (.Name y py) env))) _ _ s
 have core:=Yig (use:=some (PySem.assign (.Name y py) env)) (RR:=fun zz s'=>Ye2 T A fs d env F Q ι s.heap .next s') (EE:=Ybk T A fs d env F X ι s.heap) (Q:=fun v σ₁=>Q .next (upd ρ y (some v)) σ₁) (pos:=pos) (px:=px) I hok hx hs (he.mono (fun zz zz p=>⟨.inl hT,p⟩) fun zz zz p=>p).it
   (fun v σ₂ ι₂ s₂ D L q I₂ rv e₂ lg=>Yjr (py:=py) (by unfold Yar; rw [hy]) I₂ rv e₂ lg fun s' I' e'=>⟨.next,_,σ₂,ι₂,q,.next,I',e'⟩) fun zz zz p=>p.sx I fun zz zz k=>k
 exact Zhb (Zib core (fun zz s' hq=>Zjb (Zjb hq)) fun zz zz e=>e)
theorem Ybe.assignCell {x:Str}{pos' pos:Pos}{e:Expr}(q:Yai T d sc ρ X e (fun v σ'=>Q .next (upd ρ x (some v)) σ') σ) (hk:sc.names.lookup x=some .cell) :
   Ybe T d sc ρ X (.Assign [.Name x pos'] e pos) Q σ:=by
 intro env A fs F ι s hsc I
 subst hsc
 have hsw:swapsWith e (some (.Name x pos')) pos.line env=pure false:=by
   have kx:env.kindOf x=some .cell:=hk
   cases e <;> first | rfl | skip
   all_goals
     show (pure (env.blockKind == .function && env.kindOf x == some .local && _ && _):Sem Bool)=pure false
     rw [kx,show (some NameKind.cell == some NameKind.local)=false from rfl,Bool.and_false,Bool.false_and,Bool.false_and]
 refine wpAny_Assign_Name (Zib (q env A fs F ι s rfl I) (fun y s₁ p=>?_) fun zz zz p=>p.sx I fun zz zz k=>k) hsw
 obtain ⟨v,σ₁,ι₁,q,rv,rp,ex,g,o⟩:=p
 have I₁:=I.ext ex rp g o
 refine Yfq I₁.rep I₁.frm (by unfold Yar; rw [hk]) rv fun h' t R' H' e' ds=>?_
 exact ⟨.next,_,σ₁,ι₁,q,.next,I₁.stored R' H' e' ds,ex.up.trans e'⟩
end
end
section
section
variable {T:Tp}{d:Nat}{X:QX}{Q:QE}{σ:Hp}{A:Around}{fs:List Env}{ι:Inj}{s:Shared}{h':Heap}
theorem VRels.one {v:V}{xs:List Value}{h:Heap}(r:VRels T ι h [v] xs):∃ x,xs=[x]∧Yau T ι h v x:=by
 obtain ⟨x,r',rfl,a,b⟩:=VRels.cons_iff.mp r; cases VRels.nil_iff.mp b; exact ⟨x,rfl,a⟩
theorem Yau.type_inv {id:String}{x:Value}{h:Heap}(r:Yau T ι h (.type id) x):x=.type id:=r
noncomputable def fvV (vv:V):Value:=vv.casesOn (.none) (fun _=>.none) (fun _=>.none) (fun _=>.none) (fun _=>.none) (fun _=>.none) (fun _=>.none) (fun _ _=>.none) (fun n=>.type n) (fun id=>.builtin id) (fun _=>.none) (fun _=>.none) (fun _=>.none) (fun _ _=>.none)
theorem Ytk {f:V}{fv:Value}{h:Heap}(hf:Yay f=true) (r:Yau T ι h f fv):fv=fvV f:=by
 cases f <;> first | exact (Zv hf).elim | exact r
theorem Yaa.b1 {f v:V}(hf:Yay f=true) (k:∀ {A fs ι s x},St T A fs d ι σ s→Yau T ι s.heap v x→wpAny (model T.prog T.w) A (call (fvV f) [x]) (Ybf T [] Q ι s.heap) (Yaz T [] X ι s.heap) s):Yaa T d X f [v] Q σ:=fun A fs ι s fv xs S rf rxs=>by
 obtain ⟨x,rfl,r⟩:=rxs.one
 rw [Ytk hf rf]; exact k S r
theorem Yaa.b2 {f v w:V}(hf:Yay f=true) (k:∀ {A fs ι s x y},St T A fs d ι σ s→Yau T ι s.heap v x→Yau T ι s.heap w y→wpAny (model T.prog T.w) A (call (fvV f) [x,y]) (Ybf T [] Q ι s.heap) (Yaz T [] X ι s.heap) s):Yaa T d X f [v,w] Q σ:=fun A fs ι s fv xs S rf rxs=>by
 obtain ⟨x,y,rfl,r,r2⟩:=rxs.two
 rw [Ytk hf rf]; exact k S r r2
inductive Yx2 (T:Tp) (ι:Inj) (l:Nat) (vs:List V) (h:Heap) (x:Value):Prop where
 | mk (a dx:Addr) (items:Array Value) (m:Nat) (e:x=.ref a) (hι:ι[l]?=some (a,dx)) (hL:IsL h a items m) (hv:VRels T ι h vs items.toList) (hs:items.size=vs.length):Yx2 T ι l vs h x
theorem Rep.lst {h:Heap}{l:Nat}{vs:List V}{x:Value}(R:Rep T ι σ h) (hl:σ[l]?=some (.list vs)) (r:Yau T ι h (.ref l) x):Yx2 T ι l vs h x:=by
 obtain ⟨a,dx,rfl,hι⟩:=r.ref_inv
 refine ex2 (R.list_at hl hι) fun items m h9=>h9.elim fun hL hv=>?_
 exact ⟨a,dx,items,m,rfl,hι,hL,hv,Yd6 hv⟩
noncomputable def Yze:Option Yaq→Option Nat
 | some (.list vs)=>some vs.length
 | some (.sdict kvs)=>some kvs.length
 | z1=>none
theorem Yr4 {o:Option Yaq}{n:Nat}(h:Yze o=some n):(∃ vs,o=some (.list vs)∧vs.length=n)∨∃ kvs,o=some (.sdict kvs)∧kvs.length=n:=by
 rcases o with zz | o
 · exact (Yaf h).elim
 · cases o <;> first | exact .inl ⟨_,rfl,Yad h⟩ | exact .inr ⟨_,rfl,Yad h⟩ | exact (Yaf h).elim
noncomputable def Ytq (σ:Hp) (vv:V):Option Nat:=vv.casesOn (none) (fun _=>none) (fun _=>none) (fun x=>some x.length) (fun vs=>some vs.length) (fun l=>Yze σ[l]?) (fun _=>none) (fun _ _=>none) (fun _=>none) (fun _=>none) (fun _=>none) (fun _=>none) (fun xs=>some xs.length) (fun _ _=>none)
theorem Ylm {l:Nat}{vs:List V}(h:σ[l]?=some (.list vs)):Ytq σ (.ref l)=some vs.length:=congrArg Yze h
theorem n63 {n m:Nat}(hn:n < 2 ^ 62) (e:m=n):(m:Int) < 2 ^ 63:=by lia
theorem Y0y {n m:Nat}(hn:n < 2 ^ 62) (e:m=n):¬ (m:Int) ≥ 2 ^ 63:=Int.not_le.mpr (n63 hn e)
theorem Yaa.len {v:V}{n:Nat}(e:Ytq σ v=some n) (hn:n < 2 ^ 62) (q:Q (.int n) σ):Yaa T d X (.bi "len") [v] Q σ:=.b1 rfl fun S r=>by
 cases v <;> first | exact (Yaf e).elim | skip
 · obtain ⟨t,rfl⟩:=r.str_inv
   exact len_str (Y0y hn (Yad e)) (S.post (Yad e▸q) .int_mk _)
 · obtain ⟨a,items,m,rfl,ht,hv⟩:=r.tup_inv
   have e:=(Yd6 hv).trans (Yad e)
   exact P.len_tuple ht (Y0y hn e) (S.post (e▸q) .int_mk _)
 · rcases Yr4 e with ⟨vs,hvs,e⟩ | ⟨kvs,hvs,e⟩
   · obtain ⟨a,dx,items,m,rfl,hι,hL,hv,hs⟩:=S.rep.lst hvs r
     have e:=hs.trans e
     exact Calls.call_len_list hL.isList (n63 hn e) (S.post (e▸q) .int_mk _)
   · obtain ⟨a,dx,rfl,hι⟩:=r.ref_inv
     refine (S.rep.sdict_at hvs hι).elim fun rvs h9=>Ygi h9 fun hd hv hs=>?_
     have e:=hv.length.trans e
     exact call_len_dict hs hd (n63 hn e) (S.post (e▸q) .int_mk _)
 · obtain ⟨a,ob,items,n,rfl,ho,hc,hd,l,hl,rfl⟩:=r
   have e:items.size=_:=(by rw [← Array.length_toList,hl,Zc,Zc]:items.size=(l.map (·.1)).length).trans (Yad e)
   exact Calls.call_len_list ⟨_,S.rep.base _ _ ho,hc,n,hd⟩ (n63 hn e) (S.post (e▸q) .int_mk _)
noncomputable def Yhg (σ:Hp) (vv:V):Option String:=vv.casesOn (some "NoneType") (fun z1=>some "bool") (fun z1=>some "int") (fun z1=>some "str") (fun z1=>some "tuple") (fun l=>atL (fun zz=>some "list") σ[l]?) (fun _=>none) (fun _ _=>none) (fun _=>none) (fun _=>none) (fun _=>none) (fun _=>none) (fun _=>none) (fun _ _=>none)
noncomputable def Yww (σ:Hp) (v:V) (ty:String):Option Bool:=(Yhg σ v).bind fun k=>if ["list", "str", "tuple"].contains ty then some (k == ty) else none
theorem Y0q {k:String}{ty:String}{b:Bool}(hb:(k == ty)=b) (hty:ty = "list" ∨ ty = "str" ∨ ty = "tuple") {P:String→Bool→Prop}(h1:P "list" (k == "list")) (h2:P "str" (k == "str")) (h3:P "tuple" (k == "tuple")):P ty b:=by
 subst hb
 rcases hty with rfl | rfl | rfl
 · exact h1
 · exact h2
 · exact h3
theorem Yyw {v:V}{ty k:String}{b:Bool}(hty:ty = "list" ∨ ty = "str" ∨ ty = "tuple") (hk:Yhg σ v=some k) (hb:(k == ty)=b) (q:Q (.bool b) σ):Yaa T d X (.bi "isinstance") [v,.type ty] Q σ:=.b2 rfl fun {A fs ι s x y} S r r2=>by
 rw [Yau.type_inv r2]
 have go:∀ {P:String→Bool→Prop},P "list" (k == "list")→P "str" (k == "str")→P "tuple" (k == "tuple")→P ty b:=fun h1 h2 h3=>Y0q hb hty h1 h2 h3
 revert q
 cases v <;> first | exact (Yaf hk).elim | skip
 · cases Yad hk; cases r.none_inv
   refine go (P:=fun ty b=>Q (.bool b) σ→wpAny (model T.prog T.w) A (call (.builtin "isinstance") [_,.type ty]) (Ybf T [] Q ι s.heap) (Yaz T [] X ι s.heap) s) ?_ ?_ ?_
   · exact fun q=>IsiPair.NoneType_list (S.post q .bool_mk _)
   · exact fun q=>IsiPair.NoneType_str (S.post q .bool_mk _)
   · exact fun q=>IsiPair.NoneType_tuple (S.post q .bool_mk _)
 · cases Yad hk; cases r.bool_inv
   refine go (P:=fun ty b=>Q (.bool b) σ→wpAny (model T.prog T.w) A (call (.builtin "isinstance") [_,.type ty]) (Ybf T [] Q ι s.heap) (Yaz T [] X ι s.heap) s) ?_ ?_ ?_
   · exact fun q=>IsiPair.bool_list (S.post q .bool_mk _)
   · exact fun q=>IsiPair.bool_str (S.post q .bool_mk _)
   · exact fun q=>IsiPair.bool_tuple (S.post q .bool_mk _)
 · cases Yad hk; obtain ⟨t,rfl⟩:=r.int_inv
   refine go (P:=fun ty b=>Q (.bool b) σ→wpAny (model T.prog T.w) A (call (.builtin "isinstance") [_,.type ty]) (Ybf T [] Q ι s.heap) (Yaz T [] X ι s.heap) s) ?_ ?_ ?_
   · exact fun q=>IsiPair.int_list (S.post q .bool_mk _)
   · exact fun q=>IsiPair.int_str (S.post q .bool_mk _)
   · exact fun q=>IsiPair.int_tuple (S.post q .bool_mk _)
 · cases Yad hk; obtain ⟨t,rfl⟩:=r.str_inv
   refine go (P:=fun ty b=>Q (.bool b) σ→wpAny (model T.prog T.w) A (call (.builtin "isinstance") [_,.type ty]) (Ybf T [] Q ι s.heap) (Yaz T [] X ι s.heap) s) ?_ ?_ ?_
   · exact fun q=>IsiPair.str_list (S.post q .bool_mk _)
   · exact fun q=>IsiPair.str_str (S.post0 q .bool_mk)
   · exact fun q=>IsiPair.str_tuple (S.post q .bool_mk _)
 · cases Yad hk; obtain ⟨a,items,m,rfl,ht,hv⟩:=r.tup_inv
   refine go (P:=fun ty b=>Q (.bool b) σ→wpAny (model T.prog T.w) A (call (.builtin "isinstance") [_,.type ty]) (Ybf T [] Q ι s.heap) (Yaz T [] X ι s.heap) s) ?_ ?_ ?_
   · exact fun q=>IsiPair.tuple_list ht rfl (S.post q .bool_mk _)
   · exact fun q=>IsiPair.tuple_str ht rfl (S.post q .bool_mk _)
   · exact fun q=>IsiPair.tuple_tuple ht rfl (S.post0 q .bool_mk)
 · obtain ⟨vs,hvs,hk⟩:=Ydo hk
   cases Yad hk
   obtain ⟨a,dx,items,m,rfl,hι,hL,hv,hs⟩:=S.rep.lst hvs r
   refine go (P:=fun ty b=>Q (.bool b) σ→wpAny (model T.prog T.w) A (call (.builtin "isinstance") [_,.type ty]) (Ybf T [] Q ι s.heap) (Yaz T [] X ι s.heap) s) ?_ ?_ ?_
   · exact fun q=>IsiPair.list_list hL rfl (S.post0 q .bool_mk)
   · exact fun q=>IsiPair.list_str hL rfl (S.post q .bool_mk _)
   · exact fun q=>IsiPair.list_tuple hL rfl (S.post q .bool_mk _)
theorem Yaa.isi {v:V}{ty:String}{b:Bool}(e:Yww σ v ty=some b) (q:Q (.bool b) σ):Yaa T d X (.bi "isinstance") [v,.type ty] Q σ:=by
 obtain ⟨k,hk,e⟩:=Option.bind_eq_some_iff.mp e
 obtain ⟨hty,e⟩:=Ydv e
 simp only [List.contains_iff_mem,Zg,Zdc,or_false] at hty
 exact Yyw hty hk e q
theorem Yaa.ord {c:Nat}(q:Q (.int c) σ):Yaa T d X (.bi "ord") [.str ⟨#[c]⟩] Q σ:=.b1 rfl fun S r=>Zh r fun zz e=>e▸P.ord_of_char (S.post q .int_mk _)
theorem Yaa.range {n:Int}(q:Q (.rng n) σ):Yaa T d X (.type "range") [.int n] Q σ:=.b1 rfl fun S r=>Zh r fun zz e=>e▸call_range_1 ⟨.rng n,σ,_,q,⟨_,_,_,_,rfl,Zsc _ rfl⟩,S.rep.push _,.push ..,S.gens,S.os⟩
noncomputable def Yz4 (σ:Hp) (vv:V):Option (List V):=vv.casesOn (none) (fun _=>none) (fun _=>none) (fun _=>none) (fun vs=>some vs) (fun l=>atL some σ[l]?) (fun _=>none) (fun _ _=>none) (fun _=>none) (fun _=>none) (fun _=>none) (fun _=>none) (fun _=>none) (fun _ _=>none)
theorem St.madeList {vs:List V}{items:Array Value}{h':Heap}{c' t:Nat}(S:St T A fs d ι σ s) (hz:s.heap.objs.size≤h'.objs.size) (k:∀ b o',s.heap.get? b=some o'→h'.get? b=some o') (g:h'.get? s.heap.objs.size=some ⟨.type "list",Option.none,.seq items c',#[]⟩) (hv:VRels T ι s.heap vs items.toList) (q:Q (.ref σ.length) (σ++[.list vs])):Ybf T [] Q ι s.heap (.ref s.heap.objs.size) { s with heap:=h',toks:=t }:=by
 have no:s.heap.objs.size∉own ι:=fun z=>absurd (S.rep.own_lt z) (Zub _)
 have e0:Ext T [] ι s.heap ι h':=.of_keeps hz k
 have mz:Yed ι s.heap (ι++[(s.heap.objs.size,s.heap.objs.size)]) h':=⟨⟨_,rfl⟩,e0.cls,e0.frz⟩
 exact ⟨.ref σ.length,_,ι++[(s.heap.objs.size,s.heap.objs.size)],q,⟨s.heap.objs.size,s.heap.objs.size,rfl,by rw [← S.rep.len]; simp⟩,(S.rep.grow hz k).more (o:=.list vs) (p:=(s.heap.objs.size,s.heap.objs.size)) ⟨rfl,items.toList,⟨c',g⟩,hv.mono mz⟩ S.rep.size S.rep.size no no,⟨⟨_,rfl,by simp⟩,e0.size,e0.cls,e0.frz,e0.keep,e0.frm⟩,S.gens,S.os⟩
theorem Yoe {vs:List V}{a:Addr}{ty:String}{items:Array Value}{m:Nat}(S:St T A fs d ι σ s) (hn:vs.length≤sizeLine) (q:Q (.ref σ.length) (σ++[.list vs])) (hty:ty = "list" ∨ ty = "tuple") (ho:s.heap.get? a=some ⟨.type ty,Option.none,.seq items m,#[]⟩) (hv:VRels T ι s.heap vs items.toList) :
   wpAny (model T.prog T.w) A (call (.type "list") [.ref a]) (Ybf T [] Q ι s.heap) (Yaz T [] X ι s.heap) s:=by
 have fin:wpAny (model T.prog T.w) A (call (.type "list") [.ref a]) (fun y s'=>y=.ref s.heap.objs.size∧∃ h' c',s'={ s with heap:=h' }∧(∀ b o',s.heap.get? b=some o'→h'.get? b=some o')∧h'.get? s.heap.objs.size=some { cls:=.type "list",dict:=Option.none,data:=.seq items c',slots:=#[] }) (Yaz T [] X ι s.heap) s :=
   call_list_seq a hty ho rfl rfl (fun h' c' k g=>⟨rfl,h',c',rfl,k,g⟩) (Za (Zr (Yd6 hv)) hn)
 refine Zib (Ybo fin) (fun y s' p=>?_) fun zz zz p=>p.1
 obtain ⟨⟨rfl,h',c',rfl,k,g⟩,hz⟩:=p
 exact S.madeList (t:=s.toks) hz k g hv q
theorem Yaa.list {v:V}{vs:List V}(e:Yz4 σ v=some vs) (hn:vs.length≤sizeLine) (q:Q (.ref σ.length) (σ++[.list vs])):Yaa T d X (.type "list") [v] Q σ:=.b1 rfl fun S r=>by
 cases v <;> first | exact (Yaf e).elim | skip
 · obtain ⟨a,items,m,rfl,ht,hv⟩:=r.tup_inv
   exact Yoe S hn q (.inr rfl) ht (Yad e▸hv)
 · obtain ⟨vs',hvs,e⟩:=Ydo e
   obtain ⟨a,dx,items,m,rfl,hι,hL,hv,hs⟩:=S.rep.lst hvs r
   exact Yoe S hn q (.inl rfl) hL (Yad e▸hv)
theorem Yaa.min2 {a b:Int}(q:Q (.int (if b < a then b else a)) σ) (hT:T.hd=false:=by rfl):Yaa T d X (.bi "min") [.int a,.int b] Q σ:=.b2 rfl fun {A fs ι s x y} S r1 r2=>by
 obtain ⟨t,rfl⟩:=r1.int_inv
 obtain ⟨u,rfl⟩:=r2.int_inv
 have fin:wpAny (model T.prog T.w) A (call (.builtin "min") [.int a t,.int b u]) (fun y s'=>y=(if b < a then .int b u else .int a t)∧∃ h' c',s'={ s with heap:=h',toks:=c' }∧(∀ b o',s.heap.get? b=some o'→h'.get? b=some o')) (Yaz T [] X ι s.heap) s :=
   min_two_ints (S.aok.hd hT) fun h' tk k=>⟨rfl,h',tk,rfl,k⟩
 refine Zib (Ybo fin) (fun y s' p=>?_) fun zz zz p=>p.1
 obtain ⟨⟨rfl,h',c',rfl,k⟩,hz⟩:=p
 refine S.grown hz k q ?_
 split
 · exact .int_mk
 · exact .int_mk
end
end
section
section
variable {T:Tp}{d:Nat}{X:QX}{Q:QE}{σ:Hp}{A:Around}{fs:List Env}{ι:Inj}{s:Shared}{h':Heap}
theorem St.setList {l:Nat}{vs vs':List V}{a dx:Addr}{items:Array Value}{n t:Nat}{g:Array Value→Array Value}{v:V}{x:Value}(S:St T A fs d ι σ s) (hl:σ[l]?=some (.list vs)) (hι:ι[l]?=some (a,dx)) (hL:IsL s.heap a items n) (hv:VRels T ι s.heap vs' (g items).toList)
   (q:Q v (σ.set l (.list vs'))) (r:Yau T ι s.heap v x):Ybf T [] Q ι s.heap x { s with heap:=s.heap.update a (Obj.mapSeq g),toks:=t }:=by
 have h2:(s.heap.update a (Obj.mapSeq g)).get? a=some ⟨.type "list",Option.none,.seq (g items) (if (g items).size == items.size then n else n+1),#[]⟩:=Heap.get?_update_self _ hL rfl
 obtain ⟨e1,zz⟩:=S.rep.objs l _ _ hl hι
 cases e1
 obtain ⟨S',e⟩:=St.turned (t:=t) (o:=.list vs') S hι (Heap.SameBut.update ..) (.inl rfl) hL h2 rfl rfl fun m=>⟨rfl,(g items).toList,⟨_,by simpa using h2⟩,hv.mono m⟩
 exact ⟨v,_,ι,q,r.mono e.mono,S'.rep,e,S.gens,S.os⟩
theorem Yaa.append {l:Nat}{v:V}{vs:List V}(hl:σ[l]?=some (.list vs)) (hn:vs.length≤sizeLine) (q:Q .none (σ.set l (.list (vs++[v])))):Yaa T d X (.bi "list.append") [.ref l,v] Q σ:=.b2 rfl fun {A fs ι s x y} S r ry=>by
 obtain ⟨a,dx,items,m,rfl,hι,hL,hv,hlen⟩:=S.rep.lst hl r
 refine call_meets F.slot_list_append ⟨_,hL,rfl⟩ F.entry_list_append (F.args_list_append_2 _ _) (list_append a items m y (by (clear hι hl; lia))) ⟨hL,?_⟩
 refine S.setList (g:=fun z=>z.push y) hl hι hL ?_ q .none_mk
 rw [Array.toList_push]
 exact hv.append (by exact ⟨ry,trivial⟩)
theorem VRels.snoc {h:Heap}{v:V}{vs:List V}:∀ {xs:List Value},VRels T ι h (vs++[v]) xs→∃ ys y,xs=ys++[y]∧VRels T ι h vs ys∧Yau T ι h v y:=by
 induction vs with
 | nil=>exact fun r=>(VRels.one r).elim fun x e=>⟨[],x,e.1,trivial,e.2⟩
 | cons w vs ih=>exact fun r=>ex2 (VRels.cons_iff.mp r) fun x r' e=>ex2 (ih e.2.2) fun ys y q=>⟨x::ys,y,e.1.trans (congrArg (x :: ·) q.1),⟨e.2.1,q.2.1⟩,q.2.2⟩
theorem Yaa.pop {l:Nat}{v:V}{vs:List V}(hl:σ[l]?=some (.list (vs++[v]))) (hn:vs.length < sizeLine) (q:Q v (σ.set l (.list vs))):Yaa T d X (.bi "list.pop") [.ref l] Q σ:=.b1 rfl fun {A fs ι s x} S r=>by
 obtain ⟨a,dx,items,m,rfl,hι,hL,hv,hlen0⟩:=S.rep.lst hl r
 refine ex2 hv.snoc fun ys y h9=>Ygi h9 fun hi hy ry=>?_
 have hlen:=hv.length
 simp only [Array.length_toList,Zf,List.length_cons,List.length_nil] at hlen
 have hsz:items.size - 1=ys.length:=by
   have:items.size=ys.length+1:=by rw [← Array.length_toList,hi]; simp
   rw [this]; rfl
 have hlast:items[items.size - 1]?=some y:=by
   rw [← Array.getElem?_toList,hi,hsz]; simp
 refine call_meets F.slot_list_pop ⟨_,hL,rfl⟩ F.entry_list_pop (F.args_list_pop_1 _) (MeetsSeq.list_pop_last a items m y hlast (by (clear hsz hlast hι hl; lia))) ⟨hL,?_⟩
 refine S.setList (t:=s.toks) (g:=fun z=>z.eraseIdxIfInBounds (items.size - 1)) hl hι hL ?_ q ry
 have e2:(items.eraseIdxIfInBounds (items.size - 1)).toList=ys:=by
   rw [Array.toList_eraseIdxIfInBounds,hi,hsz]
   simp [List.eraseIdx_append_of_length_le]
 rw [e2]; exact hy
theorem Yaa.clear {l:Nat}{vs:List V}(hl:σ[l]?=some (.list vs)) (hn:vs.length≤sizeLine) (q:Q .none (σ.set l (.list []))):Yaa T d X (.bi "list.clear") [.ref l] Q σ:=.b1 rfl fun {A fs ι s x} S r=>by
 obtain ⟨a,dx,items,m,rfl,hι,hL,hv,hlen⟩:=S.rep.lst hl r
 refine call_meets F.slot_list_clear ⟨_,hL,rfl⟩ F.entry_list_clear (F.args_list_clear_1 _) (AutoSeq1.list_clear_list_0 a items m (by (clear hι hl; lia))) ⟨hL,?_⟩
 exact S.setList (g:=fun zz => #[]) hl hι hL (show VRels T ι s.heap [] [] from trivial) q .none_mk
theorem Yaa.extend {l k:Nat}{vs us:List V}(hl:σ[l]?=some (.list vs)) (hk:σ[k]?=some (.list us)) (hn:vs.length+us.length≤sizeLine) (q:Q .none (σ.set l (.list (vs++us)))):Yaa T d X (.bi "list.extend") [.ref l,.ref k] Q σ:=.b2 rfl fun {A fs ι s x y} S r ry=>by
 obtain ⟨a,dx,items,m,rfl,hι,hL,hv,hlen⟩:=S.rep.lst hl r
 obtain ⟨b,dy,items2,m2,rfl,hιb,hL2,hv2,hlen2⟩:=S.rep.lst hk ry
 refine call_meets F.slot_list_extend ⟨_,hL,rfl⟩ F.entry_list_extend (F.args_list_extend_2 _ _) (AutoSeq1.list_extend_list_list_0 a items m b items2 m2 (fun z=>by
   rw [Zob] at z
   have z2:=z.2
   unfold Builtin.List.listTooLong at z2
   rw [decide_eq_true_eq] at z2; (clear z hιb hι hl hk; lia)) (by (clear hlen2 hι hιb hk hl; lia)) (by (clear hι hιb hk hl; lia))) ⟨hL,hL2,?_⟩
 refine S.setList (g:=fun z=>z++items2) hl hι hL ?_ q .none_mk
 rw [Array.toList_append]; exact hv.append hv2
theorem Yop {h:Heap}{bs:List Bool}:∀ {xs:List Value},VRels T ι h (bs.map V.bool) xs→xs=bs.map Value.bool:=by
 induction bs with
 | nil=>exact fun r=>VRels.nil_iff.mp r
 | cons b bs ih=>exact fun r=>ex2 (VRels.cons_iff.mp r) fun x r' e=>e.1.trans (e.2.1.bool_inv▸congrArg _ (ih e.2.2))
theorem Ykx {prog:Program}{w:World}{A:Around}(bs:List Bool):TruthOf prog w A (fun i v=>((bs.map Value.bool).toArray)[i]?=some v) (fun i=>bs.getD i false):=fun i v s Q E hP hQ=>by
 simp only [List.getElem?_toArray,Zdb,Zpb] at hP
 obtain ⟨b,hb,rfl⟩:=hP
 refine wpAny_truthy_bool ?_
 have hQ':Q (bs.getD i false) s:=hQ
 rw [List.getD_eq_getElem?_getD,hb] at hQ'
 exact hQ'
theorem Yo0 (bs:List Bool):((List.range bs.length).all fun i=>bs.getD i false)=bs.all id:=by
 rw [Bool.eq_iff_iff,List.all_eq_true,List.all_eq_true]
 constructor
 · intro h x hx
   obtain ⟨i,hi,rfl⟩:=List.getElem_of_mem hx
   have:=h i (by simpa using hi)
   simpa [List.getD_eq_getElem?_getD,hi] using this
 · intro h i hi
   have hi':i < bs.length:=by simpa using hi
   simpa [List.getD_eq_getElem?_getD,hi'] using h bs[i] (List.getElem_mem hi')
theorem Ype (bs:List Bool):((List.range bs.length).any fun i=>bs.getD i false)=bs.any id:=by
 rw [Bool.eq_iff_iff,List.any_eq_true,List.any_eq_true]
 constructor
 · rintro ⟨i,hi,h⟩
   have hi':i < bs.length:=by simpa using hi
   exact ⟨bs[i],List.getElem_mem hi',by simpa [List.getD_eq_getElem?_getD,hi'] using h⟩
 · rintro ⟨x,hx,h⟩
   obtain ⟨i,hi,rfl⟩:=List.getElem_of_mem hx
   exact ⟨i,by simpa using hi,by simpa [List.getD_eq_getElem?_getD,hi] using h⟩
theorem Yaa.all {l:Nat}{bs:List Bool}(hl:σ[l]?=some (.list (bs.map V.bool))) (q:Q (.bool (bs.all id)) σ) (hT:T.hd=false:=by rfl):Yaa T d X (.bi "all") [.ref l] Q σ:=.b1 rfl fun {A fs ι s x} S r=>by
 obtain ⟨a,dx,items,m,rfl,hι,hL,hv,hlen0⟩:=S.rep.lst hl r
 have hitems:items=(bs.map Value.bool).toArray:=by rw [← Yop hv]
 subst hitems
 have hne:a≠s.heap.objs.size:=Znc (Zu hL)
 have fin:wpAny (model T.prog T.w) A (call (.builtin "all") [.ref a]) (fun y s'=>y=.bool (bs.all id)∧∃ h' c',s'={ s with heap:=h',toks:=c' }∧(∀ b o',s.heap.get? b=some o'→h'.get? b=some o')) (Yaz T [] X ι s.heap) s:=by
   refine call_all_walk (wpAny_pyIter_list hL.isList ?_)
   refine ⟨s.heap.objs.size,_,_,_,_,_,_,rfl,Walks.list (A:=A.in1) (S.aok.hd hT) s.heap.objs.size a hne _,⟨⟨_,Zsc _ rfl,rfl,rfl⟩,hL.isList.push _⟩,Ykx bs,fun h' tk k=>⟨?_,h',tk,rfl,fun b o hb=>k b o (by simpa using Znc (Zu hb)) (Zx _ hb)⟩⟩
   rw [List.size_toArray,Zc,Yo0]
 refine Zib (Ybo fin) (fun y s' p=>?_) fun zz zz p=>p.1
 obtain ⟨⟨rfl,h',c',rfl,k⟩,hz⟩:=p
 exact S.grown hz k q .bool_mk
theorem Yaa.any {l:Nat}{bs:List Bool}(hl:σ[l]?=some (.list (bs.map V.bool))) (q:Q (.bool (bs.any id)) σ) (hT:T.hd=false:=by rfl):Yaa T d X (.bi "any") [.ref l] Q σ:=.b1 rfl fun {A fs ι s x} S r=>by
 obtain ⟨a,dx,items,m,rfl,hι,hL,hv,hlen0⟩:=S.rep.lst hl r
 have hitems:items=(bs.map Value.bool).toArray:=by rw [← Yop hv]
 subst hitems
 have hne:a≠s.heap.objs.size:=Znc (Zu hL)
 have fin:wpAny (model T.prog T.w) A (call (.builtin "any") [.ref a]) (fun y s'=>y=.bool (bs.any id)∧∃ h' c',s'={ s with heap:=h',toks:=c' }∧(∀ b o',s.heap.get? b=some o'→h'.get? b=some o')) (Yaz T [] X ι s.heap) s:=by
   refine call_any_walk (wpAny_pyIter_list hL.isList ?_)
   refine ⟨s.heap.objs.size,_,_,_,_,_,_,rfl,Walks.list (A:=A.in1) (S.aok.hd hT) s.heap.objs.size a hne _,⟨⟨_,Zsc _ rfl,rfl,rfl⟩,hL.isList.push _⟩,Ykx bs,fun h' tk k=>⟨?_,h',tk,rfl,fun b o hb=>k b o (by simpa using Znc (Zu hb)) (Zx _ hb)⟩⟩
   rw [List.size_toArray,Zc,Ype]
 refine Zib (Ybo fin) (fun y s' p=>?_) fun zz zz p=>p.1
 obtain ⟨⟨rfl,h',c',rfl,k⟩,hz⟩:=p
 exact S.grown hz k q .bool_mk
theorem Ypx {h:Heap}{bs:List Str}:∀ {xs:List Value},VRels T ι h (bs.map V.str) xs→∃ l:List (Str×Tok),xs=strValues l∧l.map (·.1)=bs∧StrsAre xs bs:=by
 induction bs with
 | nil=>exact fun r=>VRels.nil_iff.mp r▸⟨[],rfl,rfl,.nil⟩
 | cons b bs ih=>exact fun r=>ex2 (VRels.cons_iff.mp r) fun x r' e=>e.2.1.str_inv.elim fun t q=>(ih e.2.2).elim fun l k=>e.1▸q▸⟨(b,t)::l,congrArg _ k.1,congrArg _ k.2.1,.cons _ _ k.2.2⟩
theorem Yaa.join {sep:Str}{l:Nat}{bs:List Str}(hl:σ[l]?=some (.list (bs.map V.str))) (hw:(bs.map (·.length)).sum+bs.length≤1048576) (hs:sep.length≤16) (q:Q (.str (Txt.join sep bs)) σ):Yaa T d X (.bi "str.join") [.str sep,.ref l] Q σ:=.b2 rfl fun {A fs ι s x y} S r ry=>by
 obtain ⟨t,rfl⟩:=r.str_inv
 obtain ⟨a,dx,items,m,rfl,hι,hL,hv,hlen0⟩:=S.rep.lst hl ry
 obtain ⟨ll,h1,h2,zz⟩:=Ypx hv
 have:items=(strValues ll).toArray:=by rw [← h1]
 subst this
 exact SC.join hL.isList h2 (joinOk_of_weight hw hs) fun t' k=>S.post q .str_mk _
theorem Yaa.sorted {l:Nat}{bs:List Str}(hl:σ[l]?=some (.list (bs.map V.str))) (h64:bs.length < 64) (q:∀ bs',bs'.Perm bs→sortedS bs'=true→Q (.ref σ.length) (σ++[.list (bs'.map .str)])):Yaa T d X (.bi "sorted") [.ref l] Q σ:=.b1 rfl fun {A fs ι s x} S r=>by
 obtain ⟨a,dx,items,m,rfl,hι,hL,hv,hlen0⟩:=S.rep.lst hl r
 refine (Ypx hv).elim fun ll h9=>Ygi h9 fun h1 h2 h3=>?_
 have hlen:items.toList.length=bs.length:=by rw [h1,← h2]; simp [strValues]
 have rel:∀ {zs:List Value}{ss:List Str}(ι':Inj) (h:Heap),StrsAre zs ss→VRels T ι' h (ss.map .str) zs:=fun ι' h k=>by
   induction k with
   | nil=>trivial
   | cons y t z1 ih=>simp only [List.map_cons]; exact ⟨.str_mk,ih⟩
 refine sorted_strs (vs:=items.toList) (by simpa using hL.isList) h3 (by (clear hι hl; lia)) fun out ss' a1 a2 a3=>?_
 obtain ⟨e,he⟩:=sortedAll_at s.heap items.toList out
 have keep:∀ b o,s.heap.get? b=some o→(sortedAll s.heap items.toList out).get? b=some o:=fun zz zz=>sortedAll_old
 have hz:s.heap.objs.size≤(sortedAll s.heap items.toList out).objs.size:=Zq (Nat.lt_trans (Zs _) (Zu he))
 have e0:Ext T [] ι s.heap ι (sortedAll s.heap items.toList out):=.of_keeps hz keep
 have hle:s.heap.objs.size≤s.heap.objs.size+1:=Nat.le_succ _
 have no:s.heap.objs.size+1∉own ι:=fun z=>absurd (S.rep.own_lt z) (Zo.mpr hle)
 refine ⟨.ref σ.length,_,ι++[(s.heap.objs.size+1,s.heap.objs.size+1)],q ss' a2 a3,?_,(S.rep.grow hz keep).more (o:=.list (ss'.map .str)) (p:=(s.heap.objs.size+1,s.heap.objs.size+1)) ⟨rfl,out.toList,⟨e,by simpa using he⟩,rel _ _ a1⟩ (Za S.rep.size hle) (Za S.rep.size hle) no no,⟨⟨_,rfl,by simp⟩,e0.size,e0.cls,e0.frz,e0.keep,e0.frm⟩,S.gens,S.os⟩
 exact ⟨s.heap.objs.size+1,s.heap.objs.size+1,rfl,by rw [← S.rep.len]; simp⟩
end
end
section
noncomputable def Yde (T:Tp) (d:Nat) (sc:Scope) (ρ:Loc) (X:QX) (e:Option Expr) (Q:Option Int→Hp→Prop) (σ:Hp):Prop:=match e with
 | none=>Q none σ
 | some e=>Yai T d sc ρ X e (fun v σ'=>∃ i,v=.int i∧Q (some i) σ') σ
section
variable {T:Tp}{A:Around}{fs:List Env}{d:Nat}{env:Env}{F:List Addr}{ι:Inj}{s:Shared}{ρ:Loc}{σ:Hp}{sc:Scope}{X:QX}{Q:QE}
theorem Yon {e:Option Expr}{Q':Option Int→Hp→Prop}{R:Value→Shared→Prop}{E:Value→Shared→Prop}(hsc:env.scope=sc) (I:Inv T A fs d env F ρ ι σ s) (h:Yde T d sc ρ X e Q' σ)
   (k:∀ l σ₁ ι₁ s₁,Q' (l.map (·.1)) σ₁→Inv T A fs d env F ρ ι₁ σ₁ s₁→Ext T [] ι s.heap ι₁ s₁.heap→R (partValue l) s₁) (kx:∀ x s',Yaz T [] X ι s.heap x s'→E x s'):wpAny (model T.prog T.w) A (evalPart e env) R E s:=by
 cases e with
 | none=>rw [evalPart_none]; exact Zjb (k none σ ι s h I (.refl ..))
 | some e =>
   rw [evalPart_some]
   refine Zib (h env A fs F ι s hsc I) (fun x s₁ p=>?_) fun x s' p=>kx x s' p
   obtain ⟨v,σ₁,ι₁,⟨i,rfl,q⟩,rv,rp,ex,g,o⟩:=p
   obtain ⟨t,rfl⟩:=rv.int_inv
   exact k (some (i,t)) σ₁ ι₁ s₁ q (I.ext ex rp g o) ex
theorem Yai.sliceStr {value:Expr}{lower upper:Option Expr}{p pos:Pos}(ht:∀ o r,letTemporaryGo value o r=pure ())
   (h:Yai T d sc ρ X value (fun o σ₁=>Yde T d sc ρ X lower (fun l σ₂=>Yde T d sc ρ X upper (fun u σ₃=>∃ x,o=.str x∧x.length≤sizeLine∧Q (.str (Txt.slice x l u)) σ₃) σ₂) σ₁) σ) :
   Yai T d sc ρ X (.Subscript value (.Slice lower upper Option.none p) pos) Q σ:=by
 intro env A fs F ι s hsc I
 refine wpAny_Subscript_str_slice (Zib (h env A fs F ι s hsc I) (fun o s₁ p=>?_) fun zz zz p=>p) ht
 obtain ⟨v,σ₁,ι₁,q,rv,rp,ex,g,oo⟩:=p
 have I₁:=I.ext ex rp g oo
 refine Yon hsc I₁ q (fun l σ₂ ι₂ s₂ q₂ I₂ e₂=>?_) fun zz zz p=>p.trans ex
 refine Yon hsc I₂ q₂ (fun u σ₃ ι₃ s₃ q₃ I₃ e₃=>?_) fun zz zz p=>p.trans (ex.trans e₂)
 obtain ⟨x,rfl,hx,q₃⟩:=q₃
 obtain ⟨t,rfl⟩:=rv.str_inv
 refine ⟨x,t,l,u,rfl,rfl,rfl,post_val_or_str ⟨Za (Txt.slice_le x _ _) hx,fun t' k=>?_⟩⟩
 have ep:=Ext.push T [] ι₃ s₃.heap { cls:=.type "slice",data:=.fields #[partValue l,partValue u,.none] }
 exact ⟨_,σ₃,ι₃,q₃,.str_mk,I₃.rep.push _,ex.trans (e₂.trans (e₃.trans ep)),I₃.gens,I₃.os⟩
end
end
section
noncomputable def Yt6:List (Str×V):=[("len",.bi "len"),("isinstance",.bi "isinstance"),("ord",.bi "ord"),("all",.bi "all"),("any",.bi "any"),("min",.bi "min"),("sorted",.bi "sorted"),("reversed",.type "reversed"),
 ("list",.type "list"),("tuple",.type "tuple"),("str",.type "str"),("int",.type "int"),("range",.type "range"),("bool",.type "bool"),("ValueError",.type "ValueError")]
noncomputable def gvV (x:Str):Value→Option V
 | .int i z1=>some (.int i)
 | .str s z1=>some (.str s)
 | .ref z1=>some (.glob x)
 | z1=>none
noncomputable def gvO (x:Str):Option (Option Value)→Option V
 | some (some y)=>gvV x y
 | some none=>Yt6.lookup x
 | none=>none
noncomputable def Yz2 (K:PySem.W.Frag) (x:Str):Option V:=gvO x (PySem.W.nsIn K mainGlobals x)
theorem Yl2:(Yt6.all fun p=>match p.2 with
 | .bi id=>bootBuiltins p.1 == some (.builtin id)
 | .type n=>bootBuiltins p.1 == some (.type n)
 | z1=>false)=true:=by decide +kernel
theorem Ymk:(Yt6.all fun p => !(p.1 == ("__name__" : Str)))=true:=by decide +kernel
noncomputable def Yv9 (prog:Program) (w:World) (s:Shared) (K:PySem.W.Frag):Tp:=⟨prog,w,s.heap,s.os,K,Yz2 K,false⟩
theorem topOk_of {prog p:Program}{w:World}{s:Shared}{K:PySem.W.Frag}{Yb1:List Str}{mg mb:Str→Option Value}(TR:PySem.W.TopRead p Yb1 mg mb s.heap) (X:K.In s.heap):Yag (Yv9 prog w s K) where
 X0:=X
 lim:=TR.nolimit
 own:=fun x C bmB newId e q=>⟨mg,PySem.W.own_of_in X TR e q⟩
 gl:=fun x v e=>by
   have e':Yz2 K x=some v:=e
   unfold Yz2 at e'
   rcases hn:PySem.W.nsIn K mainGlobals x with zz | zz | y <;> rw [hn] at e'
   · cases e'
   rotate_left
   · have hb:=PySem.W.mg_of X TR.g hn
     refine ⟨_,mg,mb,TR.g,TR.b,.inl hb,?_⟩
     cases y <;> first | exact (Yaf e').elim | skip
     · cases e'; exact .int_mk
     · cases e'; exact .str_mk
     · cases e'
       show Tp.g _ _=_; unfold Tp.g
       show (PySem.W.nsIn K mainGlobals x).join=_
       rw [hn]; rfl
   · have hm:=mem_of_lookup e'
     have h1:=List.all_eq_true.mp Yl2 _ hm
     have h2:=List.all_eq_true.mp Ymk _ hm
     have hx:x ≠ "__name__":=by simpa using h2
     cases v <;> first | (cases h1; done) | skip
     · refine ⟨_,mg,mb,TR.g,TR.b,.inr ⟨PySem.W.mg_none_of X TR.g hn,(TR.builtins x hx).trans (beq_iff_eq.mp h1)⟩,?_⟩
       rfl
     · refine ⟨_,mg,mb,TR.g,TR.b,.inr ⟨PySem.W.mg_none_of X TR.g hn,(TR.builtins x hx).trans (beq_iff_eq.mp h1)⟩,?_⟩
       rfl
theorem start {prog p:Program}{w:World}{s:Shared}{K:PySem.W.Frag}{Yb1:List Str}{mg mb:Str→Option Value}{fa a la:Addr}{xs:List Int}{l:List (Int×Tok)}{o:Obj}{items:Array Value}{n:Nat}{name:Str}
   (TR:PySem.W.TopRead p Yb1 mg mb s.heap) (X:K.In s.heap) (hg:s.gens = #[]) (hb:∃ b o,K.lookup b=some o∧10≤b) (hmg:mg name=some (.ref fa)) (hK:PySem.W.nsIn K mainGlobals name=some (some (.ref a)))
   (ho:s.heap.get? la=some o) (hc:o.cls=.type "list") (hd:o.data=.seq items n) (hl:items.toList=l.map (fun p=>Value.int p.1 p.2)) (hx:l.map (·.1)=xs)
   (h:Yaa (Yv9 prog w s K) 690 (fun zz zz=>False) (.glob name) [.scr xs] (fun v zz=>v=.bool true) []) :
   wpAny (model prog w) callerA (call (.ref fa) [.ref la]) (fun v s'=>v=.bool true∧(∀ b o,s.heap.get? b=some o→s'.heap.get? b=some o)∧s'.os=s.os∧s'.gens = #[]) (fun zz zz=>False) s:=by
 have hfa:=PySem.W.mg_of X TR.g hK
 rw [hmg] at hfa; cases hfa
 have hbig:10≤s.heap.objs.size:=by
   refine ex2 hb fun b o h9=>h9.elim fun e h10=>?_
   exact Zq (Zk h10 (Zu (X _ _ e)))
 have S:St (Yv9 prog w s K) callerA [] 690 [] [] s:=by
   have R:Rep (Yv9 prog w s K) [] [] s.heap:={ len:=rfl,big:=hbig,size:=Zl _,base:=fun zz zz e=>e,objs:=fun l o p e=>by simp at e,fresh:=fun p hp=>(by cases hp),apart:=fun i j p q e=>by simp at e }
   exact ⟨R,⟨rfl,fun e he=>(by cases he),by decide,by decide,fun zz=>rfl,.none rfl⟩,hg,rfl⟩
 have rf:Yau (Yv9 prog w s K) [] s.heap (.glob name) (.ref fa):=by
   show Tp.g _ _=_; unfold Tp.g
   show (PySem.W.nsIn K mainGlobals name).join=_
   rw [hK]; rfl
 have rx:VRels (Yv9 prog w s K) [] s.heap [.scr xs] [.ref la]:=by
   refine ⟨?_,trivial⟩
   exact ⟨la,o,items,n,rfl,ho,hc,hd,l,hl,hx⟩
 refine Zib (h callerA [] [] s (.ref fa) [.ref la] S rf rx) (fun v s' p=>?_) fun e s' p=>?_
 · obtain ⟨v',σ',ι',rfl,rv,rp,ex,g,oo⟩:=p
   cases rv.bool_inv
   exact ⟨rfl,rp.base,oo,g⟩
 · obtain ⟨zz,zz,zz,zz,zz,f,zz⟩:=p
   exact f.elim
theorem finish {M:Model}{A:Around}{t:Sem Value}{c:PySem.W.ClaimW}{cl:Str→Option Addr}{mean:ExcName→Option Value}{args:List PySem.W.WData}{s:Shared}(hn:∀ cls,c.raises args cls=false) (hp:c.post args (.bool true) args=true)
   (h:wpAny M A t (fun v s'=>v=.bool true∧(∀ b o,s.heap.get? b=some o→s'.heap.get? b=some o)∧s'.os=s.os∧s'.gens = #[]) (fun zz zz=>False) s) :
   wpAny M A t (fun v s'=>PySem.W.GoodWG c cl mean args s (.ok (.ret v)) s') (fun e s'=>PySem.W.GoodWG c cl mean args s (.error e) s') s:=by
 refine Zib h (fun v s' p=>?_) fun e s' p=>p.elim
 obtain ⟨rfl,k,o,g⟩:=p
 exact PySem.W.GoodW.toG ⟨.inl ⟨_,.bool true,[],rfl,hn,.bool true,hp,fun zz=>⟨List.nodup_nil,fun a ha=>by cases ha⟩⟩,k,o,g⟩
theorem ints_pairs {vs:List Value}{xs:List Int}(h:IntsAre vs xs):∃ l:List (Int×Tok),vs=l.map (fun p=>Value.int p.1 p.2)∧l.map (·.1)=xs:=by
 induction h with
 | nil=>exact ⟨[],rfl,rfl⟩
 | cons n t z1 ih=>obtain ⟨l,rfl,rfl⟩:=ih; exact ⟨(n,t)::l,rfl,rfl⟩
end
section
section
variable {T:Tp}{d:Nat}{sc:Scope}{ρ:Loc}{X:QX}{Q:QE}{σ:Hp}{x y:Int}{a b:V}{s t:Str}
end
end
section
section
variable {T:Tp}{d:Nat}{X:QX}{Q:QE}{σ:Hp}
theorem Ywz:Ybs "str" "join" "str.join":=⟨F.plainAttrs_str,F.slot_str_join,F.type_str_join⟩
theorem Ysh:Ybs "list" "append" "list.append":=⟨F.plainAttrs_list,F.slot_list_append,F.type_list_append⟩
theorem Y0l:Ybs "list" "pop" "list.pop":=⟨F.plainAttrs_list,F.slot_list_pop,F.type_list_pop⟩
theorem Yrz:Ybs "list" "extend" "list.extend":=⟨F.plainAttrs_list,F.slot_list_extend,F.type_list_extend⟩
theorem Yv7:Ybs "list" "clear" "list.clear":=⟨F.plainAttrs_list,F.slot_list_clear,F.type_list_clear⟩
end
section
variable {T:Tp}{d:Nat}{sc:Scope}{ρ:Loc}{X:XS}{Q:QS}{σ:Hp}
end
end
section
section
variable {T:Tp}{d:Nat}{sc:Scope}{ρ:Loc}{X:QX}{Q:QE}{σ:Hp}
theorem Yai.nm {x:Str}{pos:Pos}{v:V}(hv:ρ x=some v) (hk:Ypy sc x=true) (ho:Yem sc=true) (h:Q v σ):Yai T d sc ρ X (.Name x pos) Q σ:=Yai.var h hv hk ho
theorem Yai.ix {value slice:Expr}{pos:Pos}(ns:Yes slice=true) (h:Yai T d sc ρ X value (fun o σ₁=>Yai T d sc ρ X slice (fun i σ₂=>Ydz o i Q σ₂) σ₁) σ):Yai T d sc ρ X (.Subscript value slice pos) Q σ:=Yai.item h ns
theorem Y0f {vs:List V}{k:Int}{j:Nat}{v:V}(e1:seqIndex? k vs.length=some j) (e2:vs[j]?=some v) (e3:decide (-(2 ^ 63)≤k∧k < 2 ^ 63)=true) (q:Q v σ):Ydz (.tup vs) (.int k) Q σ:=⟨v,.tup _ _ j v e1 e2 (Zgb e3:-(2 ^ 63)≤k∧k < 2 ^ 63),q⟩
theorem Yy8 {l:Nat}{vs:List V}{k:Int}{j:Nat}{v:V}(e0:σ[l]?=some (.list vs)) (e1:seqIndex? k vs.length=some j) (e2:vs[j]?=some v) (e3:Ys8 k) (q:Q v σ):Ydz (.ref l) (.int k) Q σ:=⟨v,.list _ vs _ j v e0 e1 e2 e3,q⟩
end
section
variable {T:Tp}{d:Nat}{sc:Scope}{ρ:Loc}{X:XS}{Q:QS}{σ:Hp}
end
end
section
noncomputable def Ym4 (b:Addr) (h:Heap):Prop:=b < h.objs.size∧h.get? b=none
theorem Ym4.update {b a:Addr}{h:Heap}{f:Obj→Obj}(x:Ym4 b h) (e:(h.get? a).isSome=true):Ym4 b (h.update a f):=by
 refine ⟨by rw [Heap.size_after_update]; exact x.1,?_⟩
 have:a≠b:=fun q=>by rw [q,x.2] at e; cases e
 rw [Heap.get?_update_other _ _ this]; exact x.2
theorem Ym4.push {b:Addr}{h:Heap}{o:Obj}(x:Ym4 b h):Ym4 b (h.push o):=by
 refine ⟨by rw [Zqb]; exact Nat.lt_succ_of_lt x.1,?_⟩
 rw [Heap.get?_push_ne _ _ _ (Znc x.1)]; exact x.2
theorem Yl7 {α:Type}{M:Model}{A:Around}{m:Sem α}{Q:α→Shared→Prop}{E:Value→Shared→Prop}{s:Shared}(h:wpAny M A m Q E s) :
   wpAny M A m (fun a s'=>Q a s'∧∀ b,Ym4 b s.heap→Ym4 b s'.heap) (fun a s'=>E a s'∧∀ b,Ym4 b s.heap→Ym4 b s'.heap) s :=
 Ygt (P:=fun h=>∀ b,Ym4 b s.heap→Ym4 b h) ⟨fun zz zz zz e x b hb=>(x b hb).update e,fun zz zz x b hb=>(x b hb).push⟩ (fun zz hb=>hb) h
end
section
section
variable {T:Tp}{d:Nat}{sc:Scope}{ρ:Loc}{X:XS}{Q:QS}{σ:Hp}
inductive Yzh (h:Heap) (C:Addr):Prop where
 | mk (bm:List Value) (N:Addr) (nm q:Str) (bs:List Value) (hdct:Bool) (sn:List Str) (sub:List Value) (ab:Bool) (col:Option Bool) (dd:Option Addr) (k0 k1 k2 k3 k5:Option Value) (mN:Str→Option Value) (hC:h.get? C=some (excClassObj nm q C N bs bm hdct sn sub ab col dd k0 k1 k2 k3 k5 "ValueError.__new__")) (hN:h.Ns N mN) (hni:mN "__init__" = none) (tl:OwnTail h [.type "ValueError",.type "Exception",.type "BaseException",.type "object"] bm):Yzh h C
theorem Yzh.of {h:Heap}{x:Str}{C:Addr}{mg:Str→Option Value}(O:OwnCls x C [.type "ValueError",.type "Exception",.type "BaseException",.type "object"] "ValueError.__new__" mg h):Yzh h C:=by
 obtain ⟨bm,N,nm,q,bs,hdct,sn,sub,ab,col,dd,k0,k1,k2,k3,k5,mN,hC,hN,hni,tl⟩:=O.obj
 exact ⟨bm,N,nm,q,bs,hdct,sn,sub,ab,col,dd,k0,k1,k2,k3,k5,mN,hC,hN,hni,tl⟩
inductive Y01 (T:Tp) (C:Addr) (h:Heap) (v:Value) (s':Shared):Prop where
 | mk (e:Addr) (vs:List Value) (h0:v=.ref e) (m:Heap.MadeExcOf h s'.heap e (.ref C) vs) (g:s'.gens = #[]) (o:s'.os=T.os):Y01 T C h v s'
theorem Ybe.raise {x txt:Str}{np cpos pos apos:Pos}{kk:Nat}{C:Addr}(TO:Yag T) (hg:T.gv x=some (.glob x)) (hk:sc.names.lookup x=some .globalImplicit) (ho:Yem sc=true)
   (hn:PySem.W.nsIn T.K mainGlobals x=some (some (.ref C))) (hc:T.c x=some C) (hx:PySem.W.excIn T.K C [.type "ValueError",.type "Exception",.type "BaseException",.type "object"] "ValueError.__new__" = true)
   (hX:X x σ) (hT:T.hd=false:=by rfl):Ybe T d sc ρ X (.Raise (some (.Call (.Name x np) [.Constant (.str txt) kk apos] [] cpos)) Option.none pos) Q σ:=by
 intro env A fs F ι s hsc I
 have kb:=I.rep.base
 have core:wpAny (model T.prog T.w) A (exec (.Raise (some (.Call (.Name x np) [.Constant (.str txt) kk apos] [] cpos)) Option.none pos) env) (Ye2 T A fs d env F Q ι s.heap) (Y01 T C s.heap) s:=by
   have ns:Ybz [Expr.Constant (.str txt) kk apos]=true:=rfl
   have NN:∀ {R:Value→Shared→Prop}{E:Value→Shared→Prop},R (.ref C) s→wpAny (model T.prog T.w) A (eval (.Name x np) env) R E s:=fun {R E} k=>by
     refine ex3 (TO.gl x _ hg) fun V mg mb h9=>Yqg h9 fun n1 n2 hm r=>?_
     rw [← show V=.ref C from Yad (r.symm.trans (Yh7 hc))] at k
     refine Name_function_global I.frm.kind ((congrArg (fun z=>z.names.lookup x) hsc).trans hk) ?_ (Ycn ho hk).1
     have N1:=n1.keeps kb
     rw [← I.frm.glb] at N1
     rcases hm with hm | ⟨hm,hb⟩
     · exact loadGlobal_global N1 hm k
     · have N2:=n2.keeps kb
       rw [← I.frm.blt] at N2
       exact loadGlobal_builtin N1 hm N2 hb k
   obtain ⟨bm,N,nm,q,bs,hdct,sn,sub,ab,col,dd,k0,k1,k2,k3,k5,mN,hC,hN,hni,tl⟩:=Zh (TO.own x C _ _ hn hx) fun zz O=>Yzh.of O
   refine wpAny_Raise_call_subT (C:=C) (N:=N) (nm:=nm) (q:=q) (bs:=bs) (hdct:=hdct) (sn:=sn) (sub:=sub) (ab:=ab) (col:=col) (dd:=dd) (k0:=k0) (k1:=k1) (k2:=k2) (k3:=k3) (k5:=k5) PySem.F.excBase_ValueError (mN:=mN) (tl.hasType (by decide +kernel)) (I.aok.hd hT) (by rw [Ybm ns]; rfl) hni (NN ⟨rfl,?_⟩)
   rw [Ybm ns]
   refine Yby (spliced_cons (wpAny_Constant_str ?_))
   exact spliced_nil ⟨rfl,by simp [sizeLine_eq],kb _ _ hC,hN.keeps kb,tl.keeps kb,fun h' e m=>⟨e,_,rfl,m,I.gens,I.os⟩⟩
 refine Zib (Yl7 core) (fun zz zz p=>p.1) fun v s' p=>?_
 obtain ⟨⟨e,vs,rfl,m,g,o⟩,dead⟩:=p
 refine m.there.elim fun tt h9=>Ygi h9 fun he htn ht=>?_
 have hge:s.heap.objs.size≤e:=Zo.mp fun hlt=>by
   have:=(dead e ⟨hlt,m.new⟩).2
   rw [he] at this; cases this
 have hz:s.heap.objs.size≤s'.heap.objs.size:=Za hge (Zq (Zu he))
 have e0:Ext T F ι s.heap ι s'.heap:=.of_keeps hz m.keeps
 have I₃:=I.grown hz m.keeps
 have hno:e∉own ι:=fun q=>absurd (I.rep.own_lt q) (Zo.mpr hge)
 exact ⟨e,x,ρ,σ,ι,rfl,hX,⟨C,_,_,_,⟨hT,hc⟩,hge,he,rfl,rfl,by simp,rfl,rfl,.inl rfl⟩,hno,⟨I₃.rep,I₃.aok,I₃.frm,I₃.top,g,o⟩,e0⟩
end
end
section
open PySem PySem.Calls PyProof.Rows PySem.SeqAt PySem.W PySem.Spec Builtin Builtin.ObjectAttr Builtin.Getset_descriptor
section
variable {prog:Program}{w:World}{A:Around}{E:Value→Shared→Prop}{h:Heap}{g:Array GenState}{d:Drawn}{t:Nat}{os:OsState}{K:Frag}{a C:Addr}{o:Obj}
theorem Yql {M:Model}(hx:h.get? a=some o) (hc:o.cls=.ref C):Looks M h (typeOf (.ref a)) (.ref C):=by
 intro A Q E s k q
 unfold typeOf
 refine Zhb (wpAny_loadPart (k _ _ hx) (Zjb ?_))
 rw [hc]; exact q
theorem Yp3 {K:Frag}{C:Addr}{cd:ClassData}(e:clsIn K C=some cd):∃ c d sl,K.lookup C=some ⟨c,d,.cls cd,sl⟩:=by
 unfold clsIn at e
 generalize K.lookup C=o at e ⊢
 rcases o with zz | ⟨c,d,dt,sl⟩
 · exact (Yaf e).elim
 · cases dt <;> first | exact (Yaf e).elim | exact ⟨c,d,sl,by cases e; rfl⟩
theorem Yyz {K:Frag}{M:Model}{h:Heap}{C:Addr}(X:K.In h) (e:(clsIn K C).isSome=true):Looks M h (isType (.ref C)) true:=Zh (Option.isSome_iff_exists.mp e) fun cd e=>ex3 (Yp3 e) fun zz zz zz ho A' Q' E' s' k q=>by
 unfold isType loadHead
 exact Zhb (wpAny_loadPart (k _ _ (X _ _ ho)) (Zjb q))
end
section
variable {T:Tp}{d:Nat}{X:QX}{Q:QE}{σ:Hp}
end
end
section
open PySem PySem.Calls PyProof.Rows PySem.SeqAt PySem.W
noncomputable def Tp.at (T:Tp) (b:Bool):Tp:={ T with hd:=b }
section
variable {T:Tp}{b:Bool}{ι ι':Inj}{h h':Heap}
theorem Yau.at_eq:Yau (T.at b)=Yau T:=by kernel_rfl
theorem Yie.at_eq:Yie (T.at b)=Yie T:=by kernel_rfl
theorem Yc3.at_eq:Yc3 (T.at b)=Yc3 T:=by kernel_rfl
theorem Yau.at {v:V}{x:Value}(e:Yau T ι h v x):Yau (T.at b) ι h v x:=by rw [Yau.at_eq]; exact e
theorem Yc3.at {v:Option V}{x:Option Value}(e:Yc3 T ι h v x):Yc3 (T.at b) ι h v x:=by rw [Yc3.at_eq]; exact e
theorem Yie.at {o:Yaq}{p:Addr×Addr}(e:Yie T ι h o p):Yie (T.at b) ι h o p:=by rw [Yie.at_eq]; exact e
theorem Rep.at {σ:Hp}(r:Rep T ι σ h):Rep (T.at b) ι σ h:=⟨r.len,r.big,r.size,r.base,fun l o p e q=>(r.objs l o p e q).at,r.fresh,r.apart⟩
theorem Ext.at {F:List Addr}(x:Ext T F ι h ι' h'):Ext (T.at b) F ι h ι' h':=⟨x.pre,x.size,x.cls,x.frz,x.keep,x.frm⟩
theorem Frm.at {env:Env}{F:List Addr}{ρ:Loc}(x:Frm T env F ρ ι h):Frm (T.at b) env F ρ ι h :=
 ⟨x.kind,x.glb,x.blt,(by obtain ⟨c,m,a,b,r⟩:=x.ns; exact ⟨c,m,a,b,fun z hz=>(r z hz).at⟩),fun z hz=>(by obtain ⟨c,o,v,a1,a2,a3,a4,a5,a6⟩:=x.cells z hz; exact ⟨c,o,v,a1,a2,a3,a4,a5.at,a6⟩),x.inj,x.loc,x.cin,x.apart,x.there⟩
theorem Yog.at {e:Env}(x:Yog T ι h e):Yog (T.at b) ι h e:=x.rec fun k L o es ep f n b g c dd=>⟨k,L,o,es,ep,f,n,b,g,c,dd⟩
theorem Yag.at (TO:Yag T):Yag (T.at b):=⟨TO.X0,TO.lim,TO.own,fun x v e=>by obtain ⟨V,mg,mb,a1,a2,a3,a4⟩:=TO.gl x v e; exact ⟨V,mg,mb,a1,a2,a3,a4.at⟩⟩
end
section
variable {T:Tp}{A:Around}{fs:List Env}{d:Nat}{env:Env}{F:List Addr}{ι:Inj}{s:Shared}{ρ:Loc}{σ:Hp}
end
end
section
open PySem PySem.Calls PyProof.Rows PySem.SeqAt PySem.W
noncomputable def Yk0 (K:Frag) (C D:Addr) (b:Bool):Bool:=(clsIn K D).isSome && typeIn K (.ref D) == some (.type "type") && mroIn K D (.type "BaseException") == some true && mroIn K C (.ref D) == some b
set_option tactic.hygienic true in
theorem Yf1 {M:Model}{A:Around}{E:Value→Shared→Prop}{h:Heap}{g:Array GenState}{dr:Drawn}{t:Nat}{os:OsState}{K:Frag}{e C D:Addr}{o:Obj}{b:Bool}{Q:Bool→Shared→Prop}(X:K.In h) (k:Yk0 K C D b=true) (he:h.get? e=some o) (hc:o.cls=.ref C)
   (hq:Q b ⟨h,g,dr,t,os⟩):wpAny M A (excMatches (.ref e) (.ref D)) Q E ⟨h,g,dr,t,os⟩:=by
 simp only [Yk0,Zob,beq_iff_eq] at k
 obtain ⟨⟨⟨k1,k2⟩,k3⟩,k4⟩:=k
 have L0:=Yql (M:=M) he hc
 have L1:=looks_typeIn (M:=M) X k2
 have L2:=looks_mroIn (M:=M) X k3
 have L3:=looks_mroIn (M:=M) X k4
 have L4:Looks M h (isType (.ref D)) true:=Yyz X k1
 unfold excMatches
 refine Zhb ?_
 unfold isInstance
 refine Zhb (L1.at ?_)
 rw [tc_notTuple]
 refine Zjb ?_
 rw [if_neg (by decide)]
 dsimp only
 refine Zhb (Zjb ?_)
 simp only [List.forIn_cons,List.forIn_nil]
 refine Zhb (Zhb (Zhb ?_))
 unfold isExcClass
 refine Zhb (L4.at ?_)
 rw [if_pos rfl]
 refine L2.at ?_
 simp only [Bool.not_true,Bool.false_eq_true,if_false]
 refine Zjb (Zjb (Zhb (L0.at ?_)))
 refine Zhb (Zhb (Zhb (L3.at ?_)))
 cases b
 · exact Zjb (Zjb (Zjb hq))
 · exact Zjb (Zjb (Zjb hq))
noncomputable def Ycw (T:Tp) (d:Nat) (sc:Scope) (X:XS) (hs:List ExceptHandler) (c:Str) (Q:QS) (σ:Hp):Prop :=
 ∀ env A fs F ρ ι s ea ι₀ h₀,env.scope=sc→Inv T A fs d env F ρ ι σ s→Yob T h₀.objs.size ea c s.heap→ea∉own ι→T.b0.objs.size≤h₀.objs.size→Ext T F ι₀ h₀ ι s.heap →
   wpAny (model T.prog T.w) A (handleBy (.ref ea) env hs) (Ye2 T A fs d env F Q ι₀ h₀) (Ybk T A fs d env F X ι₀ h₀) s
section
variable {T:Tp}{d:Nat}{sc:Scope}{ρ:Loc}{X:XS}{Q:QS}{σ:Hp}
set_option tactic.hygienic true in
theorem Ybe.try {body:List Stmt}{h₀:ExceptHandler}{hs:List ExceptHandler}{pos:Pos}(h:Yda T d sc ρ (fun c σ'=>Ycw T d sc X (h₀::hs) c Q σ') body Q σ):Ybe T d sc ρ X (.Try body (h₀::hs) [] [] pos) Q σ:=by
 intro env A fs F ι s hsc I
 have hb:=I.rep.size
 refine wpAny_Try_except (Zib (h env A fs F ι s hsc I) (fun f s₁ p=>?_) fun x s₁ p=>?_)
 · cases f with
   | next=>exact wpAny_execs_nil p
   | _=>exact p
 · refine Yho hb p fun ea c ρ' σ' ι' h' hx hX f n I' e'=>?_
   subst hx
   refine Ydh (S:=frs fs) f fun h'' t f'=>?_
   obtain ⟨I₂,e₂⟩:=Ybk.touched (X:=fun c σ'=>Ycw T d sc X (h₀::hs) c Q σ') hX n I' e' f.fly hb t
   exact hX env A fs F ρ' ι' _ ea ι s.heap hsc I₂ f' n hb e₂
theorem Yk8 {M:Model}{A':Around}{E:Value→Shared→Prop}{x:Str}{np:Pos}{D:Addr}{A:Around}{fs:List Env}{env:Env}{F:List Addr}{ι:Inj}{s:Shared}{R:Value→Shared→Prop}(I:Inv T A fs d env F ρ ι σ s) (TO:Yag T)
   (hg:T.gv x=some (.glob x)) (hk:env.scope.names.lookup x=some .globalImplicit) (ho:Yem env.scope=true) (hc:T.c x=some D) (q:R (.ref D) s):wpAny M A' (eval (.Name x np) env) R E s:=by
 refine ex3 (TO.gl x _ hg) fun V mg mb h9=>Yqg h9 fun n1 n2 hm r=>?_
 have N1:=n1.keeps I.rep.base
 have N2:=n2.keeps I.rep.base
 have hV:V=.ref D:=by
   exact Yad (r.symm.trans (Yh7 hc))
 subst hV
 refine Name_function_global I.frm.kind hk ?_ (Ycn ho hk).1
 rw [← I.frm.glb] at N1
 rw [← I.frm.blt] at N2
 rcases hm with hm | ⟨hm,hb⟩
 · exact loadGlobal_global N1 hm q
 · exact loadGlobal_builtin N1 hm N2 hb q
theorem Fly.at {T:Tp}{lo:Nat}{ea:Addr}{c:Str}{h:Heap}{C:Addr}{P:Prop}(f:Fly T lo ea c h) (hc:T.c c=some C) (k:∀ (oe:Obj) (vs:Array Value),T.hd=false→lo≤ea→h.get? ea=some oe→oe.cls=.ref C→oe.data=.fields vs→vs[2]?=some .none→P):P:=by
 obtain ⟨C',oe,vs,v,f1,f2,f3,f4,f5,f6,f7,f8,f9⟩:=f
 have e1:=f1.2
 rw [hc] at e1; cases e1
 exact k oe vs f1.1 f2 f3 f4 f5 f7
theorem Ycw.miss {c x:Str}{np pos:Pos}{n:Option Str}{body:List Stmt}{rest:List ExceptHandler}{C D:Addr}(TO:Yag T) (hg:T.gv x=some (.glob x)) (hk:sc.names.lookup x=some .globalImplicit) (ho:Yem sc=true) (hc:T.c c=some C) (hd:T.c x=some D)
   (hm:Yk0 T.K C D false=true) (h:Ycw T d sc X rest c Q σ):Ycw T d sc X (.ExceptHandler (some (.Name x np)) n body pos::rest) c Q σ:=by
 intro env A fs F ρ ι s ea ι₀ h₀ hsc I f hn hb e
 subst hsc
 refine wpAny_handleBy_cons (codeAny_handlers_test (Yk8 I TO hg hk ho hd ?_)) (by intro q; cases q)
 refine f.fly.at hc fun oe vs f1 f2 f3 f4 f5 f7=>?_
 obtain ⟨hh,g,dr,t,os⟩:=s
 refine Yf1 (TO.X0.keeps I.rep.base) hm f3 f4 ?_
 exact h env A fs F ρ ι _ ea ι₀ h₀ rfl I f hn hb e
end
end
section
noncomputable def Br (b:Bool) (P R:Prop):Prop:=@Bool.rec (fun zz=>Prop) R P b
theorem Br.mk {b:Bool}{P R:Prop}(h1:b=true→P) (h2:b=false→R):Br b P R:=by
 cases b
 · exact h2 rfl
 · exact h1 rfl
theorem Br.t {b:Bool}{P R:Prop}(h:b=true) (p:P):Br b P R:=by subst h; exact p
theorem Br.f {b:Bool}{P R:Prop}(h:b=false) (p:R):Br b P R:=by subst h; exact p
inductive Cal (T:Tp) (d:Nat) (X:QX) (f:V) (args:List V) (Q:QE) (σ:Hp):Prop where
 | mk (h:Yaa T d X f args Q σ):Cal T d X f args Q σ
inductive Evx (T:Tp) (d:Nat) (sc:Scope) (ρ:Loc) (X:QX) (e:Expr) (Q:QE) (σ:Hp):Prop where
 | mk (h:Yai T d sc ρ X e Q σ):Evx T d sc ρ X e Q σ
inductive Tsx (T:Tp) (d:Nat) (sc:Scope) (ρ:Loc) (X:QX) (e:Expr) (B:Bool→Hp→Prop) (σ:Hp):Prop where
 | mk (h:Yd1 T d sc ρ X e B σ):Tsx T d sc ρ X e B σ
inductive Stx (T:Tp) (d:Nat) (sc:Scope) (ρ:Loc) (X:XS) (st:Stmt) (Q:QS) (σ:Hp):Prop where
 | mk (h:Ybe T d sc ρ X st Q σ):Stx T d sc ρ X st Q σ
inductive Itm (o i:V) (Q:QE) (σ:Hp):Prop where
 | mk (h:Ydz o i Q σ):Itm o i Q σ
inductive Bin (op:Operator) (a b:V) (Q:QE) (σ:Hp):Prop where
 | mk (h:Ymd op a b Q σ):Bin op a b Q σ
inductive Cmp (op:CmpOp) (a b:V) (Q:QE) (σ:Hp):Prop where
 | mk (h:Ydg op a b Q σ):Cmp op a b Q σ
theorem Cal.out {T:Tp}{d:Nat}{X:QX}{f:V}{args:List V}{Q:QE}{σ:Hp}(h:Cal T d X f args Q σ):Yaa T d X f args Q σ:=by cases h; assumption
theorem Evx.out {T:Tp}{d:Nat}{sc:Scope}{ρ:Loc}{X:QX}{e:Expr}{Q:QE}{σ:Hp}(h:Evx T d sc ρ X e Q σ):Yai T d sc ρ X e Q σ:=by cases h; assumption
theorem Tsx.out {T:Tp}{d:Nat}{sc:Scope}{ρ:Loc}{X:QX}{e:Expr}{B:Bool→Hp→Prop}{σ:Hp}(h:Tsx T d sc ρ X e B σ):Yd1 T d sc ρ X e B σ:=by cases h; assumption
theorem Stx.out {T:Tp}{d:Nat}{sc:Scope}{ρ:Loc}{X:XS}{st:Stmt}{Q:QS}{σ:Hp}(h:Stx T d sc ρ X st Q σ):Ybe T d sc ρ X st Q σ:=by cases h; assumption
noncomputable def gd (b:Bool) (P:Prop):Prop:=@Bool.rec (fun zz=>Prop) False P b
theorem gd.of {b:Bool}{P:Prop}(h:b=true) (p:P):gd b P:=by subst h; exact p
theorem gd.out {b:Bool}{P:Prop}(h:gd b P):b=true∧P:=by
 cases b
 · exact h.elim
 · exact ⟨rfl,h⟩
noncomputable def Yqa:List V→Nat→Bool
 | [],z1=>true
 | z1::r,n+1=>Yqa r n
 | z1::z2,0=>false
theorem Yfs:∀ {vs:List V}{n:Nat},Yqa vs n=true→vs.length≤n
 | [],z1,z2=>Zkb _
 | z1::z2,z3+1,h=>Zwb (Yfs h)
noncomputable def tvc (v:V) (σ:Hp) (K:Bool→Prop):Prop:=match Ydl v σ with | some b=>K b | none=>False
theorem tvc.of {v:V}{σ:Hp}{K:Bool→Prop}{b:Bool}(h:Ydl v σ=some b) (k:K b):tvc v σ K:=by unfold tvc; rw [h]; exact k
theorem tvc.out {v:V}{σ:Hp}{K:Bool→Prop}(h:tvc v σ K):∃ b,Ydl v σ=some b∧K b:=by
 unfold tvc at h
 generalize Ydl v σ=o at h ⊢
 cases o
 · exact (show False from h).elim
 · exact ⟨_,rfl,h⟩
noncomputable def bvc (v:V) (K:Bool→Prop):Prop:=match v with | .bool b=>K b | _=>False
theorem bvc.out {v:V}{K:Bool→Prop}(h:bvc v K):∃ b,v=.bool b∧K b:=by
 cases v <;> first | exact h.elim | exact ⟨_,rfl,h⟩
noncomputable def Ys1 (op:Operator) (a b:V) (Q:QE) (σ:Hp):Prop:=match a,b with
 | .int x,.int y=>(match op with
   | .Add=>Q (.int (x+y)) σ
   | .Sub=>Q (.int (x - y)) σ
   | .FloorDiv=>gd (y != 0 && decide (y.natAbs < 1073741824)) (Q (.int (x.fdiv y)) σ)
   | .Mod=>gd (y != 0) (Q (.int (x.fmod y)) σ)
   | op=>Bin op a b Q σ)
 | a,b=>Bin op a b Q σ
theorem Ys1.out {op:Operator}{a b:V}{Q:QE}{σ:Hp}(h:Ys1 op a b Q σ):Ymd op a b Q σ:=by
 have key:Bin op a b Q σ→Ymd op a b Q σ:=fun h=>h.rec id
 cases a <;> first | exact key h | skip
 cases b <;> first | exact key h | skip
 cases op <;> first | exact key h | skip
 · exact ⟨_,_,.add ..,h⟩
 · exact ⟨_,_,.sub ..,h⟩
 · exact ⟨_,_,.mod _ _ (bne_iff_ne.mp (gd.out h).1),(gd.out h).2⟩
 · exact ⟨_,_,.fdiv _ _ (bne_iff_ne.mp (Bool.and_eq_true_iff.mp (gd.out h).1).1) (Zgb (Bool.and_eq_true_iff.mp (gd.out h).1).2),(gd.out h).2⟩
noncomputable def Yvg (op:CmpOp) (a b:V) (Q:QE) (σ:Hp):Prop:=match a,b with
 | .int x,.int y=>(match op with
   | .Lt=>Q (.bool (decide (x < y))) σ
   | .LtE=>Q (.bool (decide (x≤y))) σ
   | .Gt=>Q (.bool (decide (y < x))) σ
   | .GtE=>Q (.bool (decide (y≤x))) σ
   | .Eq=>Q (.bool (x == y)) σ
   | .NotEq=>Q (.bool (x != y)) σ
   | op=>Cmp op a b Q σ)
 | .str x,.str y=>(match op with
   | .Eq=>Q (.bool (x == y)) σ
   | .NotEq=>Q (.bool (x != y)) σ
   | op=>Cmp op a b Q σ)
 | a,b=>Cmp op a b Q σ
theorem Yvg.out {op:CmpOp}{a b:V}{Q:QE}{σ:Hp}(h:Yvg op a b Q σ):Ydg op a b Q σ:=by
 have key:Cmp op a b Q σ→Ydg op a b Q σ:=fun h=>h.rec id
 cases a <;> first | exact key h | skip
 · cases b <;> first | exact key h | skip
   cases op <;> first | exact key h | exact ⟨_,.eqi ..,h⟩ | exact ⟨_,.nei ..,h⟩ | exact ⟨_,.lt ..,h⟩ | exact ⟨_,.le ..,h⟩ | exact ⟨_,.gt ..,h⟩ | exact ⟨_,.ge ..,h⟩
 · cases b <;> first | exact key h | skip
   cases op <;> first | exact key h | exact ⟨_,.eqs ..,h⟩ | exact ⟨_,.nes ..,h⟩
noncomputable def Ywo (vs:List V) (k:Int):Option V:=match k with
 | .ofNat n=>bif Nat.ble n 1000 then vs[n]? else none
 | .negSucc n=>bif Nat.ble n 1000 then (seqIndex? (.negSucc n) vs.length).bind (vs[·]?) else none
set_option tactic.hygienic true in
theorem Yqy {vs:List V}{k:Int}{v:V}(h:Ywo vs k=some v):∃ j,seqIndex? k vs.length=some j∧vs[j]?=some v∧decide (-(2 ^ 63)≤k∧k < 2 ^ 63)=true:=by
 unfold Ywo at h
 split at h
 · rename_i n
   cases hn:Nat.ble n 1000 <;> rw [hn] at h
   · cases h
   · have hl:=(Zb.mp h).1
     have:=Nat.le_of_ble_eq_true hn
     refine ⟨n,?_,h,Zmb ?_⟩
     · unfold seqIndex?
       simp only [show ¬ ((Int.ofNat n:Int) < 0) by simp,if_false]
       rw [if_pos (by simp only [Zob,decide_eq_true_eq]; clear h; simp only [Int.ofNat_eq_natCast]; lia)]
       simp
     · clear h; simp only [Int.ofNat_eq_natCast]; lia
 · rename_i n
   cases hn:Nat.ble n 1000 <;> rw [hn] at h
   · cases h
   · obtain ⟨j,h1,h2⟩:=Option.bind_eq_some_iff.mp h
     have:=Nat.le_of_ble_eq_true hn
     exact ⟨j,h1,h2,Zmb (by clear h h1 h2; lia)⟩
noncomputable def opP {α:Type}(o:Option α) (P:α→Prop):Prop:=match o with
 | some v=>P v
 | none=>False
theorem Yvo {α:Type}{o:Option α}{P:α→Prop}(h:opP o P):∃ v,o=some v∧P v:=by
 cases o
 · exact (show False from h).elim
 · exact ⟨_,rfl,h⟩
noncomputable def Ydi (o i:V) (Q:QE) (σ:Hp):Prop:=match o,i with
 | .tup vs,.int k=>opP (Ywo vs k) fun v=>Q v σ
 | o,i=>Itm o i Q σ
set_option tactic.hygienic true in
theorem Ydi.out {o i:V}{Q:QE}{σ:Hp}(h:Ydi o i Q σ):Ydz o i Q σ:=by
 have key:Itm o i Q σ→Ydz o i Q σ:=fun h=>h.rec id
 cases o <;> first | exact key h | skip
 cases i <;> first | exact key h | skip
 rename_i vs k
 obtain ⟨v,hv,h⟩:=Yvo h
 refine (Yqy hv).elim fun j h9=>Ygi h9 fun h1 h2 h3=>?_
 exact Y0f h1 h2 h3 h
theorem Ydi.at {vs:List V}{k:Int}{v:V}{Q:QE}{σ:Hp}(h:Ywo vs k=some v) (q:Q v σ):Ydi (.tup vs) (.int k) Q σ:=by
 show opP _ _; rw [h]; exact q
theorem Yct {op:CmpOp}{a b:V}{Q Q':QE}{σ:Hp}(h:Ydg op a b Q σ) (k:∀ v σ,Q v σ→Q' v σ):Ydg op a b Q' σ:=h.rec fun r c q=>⟨r,c,k _ _ q⟩
inductive Yak (T:Tp) (ov:V) (name:Str) (σ:Hp) (K:V→Prop):Prop where
 | mk (f:V) (h:Yek T σ name ov f) (k:K f):Yak T ov name σ K
noncomputable def Yzb (v:V) (K:Int→Prop):Prop:=match v with | .int i=>K i | _=>False
theorem Yzb.out {v:V}{K:Int→Prop}(h:Yzb v K):∃ i,v=.int i∧K i:=by
 cases v <;> first | exact h.elim | exact ⟨_,rfl,h⟩
noncomputable def nmG (o:Option V) (Q:QE) (σ:Hp):Prop:=@Option.rec V (fun zz=>Prop) False (fun v=>Q v σ) o
theorem nmG.of {o:Option V}{v:V}{Q:QE}{σ:Hp}(h:o=some v) (q:Q v σ):nmG o Q σ:=by subst h; exact q
theorem nmG.out {o:Option V}{Q:QE}{σ:Hp}(h:nmG o Q σ):∃ v,o=some v∧Q v σ:=by
 cases o with
 | none=>exact h.elim
 | some v=>exact ⟨v,rfl,h⟩
set_option genCtorIdx false in
inductive Tg where
 | nm (x:Str) (p:Pos)
 | at (o:Expr) (a:Str) (p:Pos)
 | ix (o i:Expr) (p:Pos)
 | tp (es:List Expr) (k:Nat) (p:Pos)
 | cl (f:Expr) (args:List Expr) (kws:List Keyword) (p:Pos)
 | lc (elt:Expr) (gens:List Comprehension) (scope:Scope) (p:Pos)
 | no
noncomputable def tg (e:Expr):Tg:=e.casesOn (fun _ _ _=>.no) (fun _ _ _=>.no) (fun _ _ _ _=>.no) (fun _ _ _=>.no) (fun _ _ _ _=>.no) (fun _ _ _ _=>.no) (fun _ _ _=>.no) (fun _ _ _=>.no) .lc (fun _ _ _ _=>.no) (fun _ _ _ _ _=>.no) (fun _ _ _ _=>.no) (fun _ _=>.no) (fun _ _=>.no) (fun _ _=>.no) (fun _ _ _ _=>.no) .cl (fun _ _ _ _=>.no) (fun _ _=>.no) (fun _ _ _=>.no) .at .ix (fun _ _=>.no) .nm (fun _ _=>.no) .tp (fun _ _ _ _=>.no)
noncomputable def Tg.back:Tg→Expr
 | .nm x p=>.Name x p
 | .at o a p=>.Attribute o a p
 | .ix o i p=>.Subscript o i p
 | .tp es k p=>.Tuple es k p
 | .cl f args kws p=>.Call f args kws p
 | .lc elt gens scope p=>.ListComp elt gens scope p
 | .no=>.Starred (.Name "" default) default
noncomputable def Tg.ok:Tg→Bool
 | .no=>false
 | .nm z1 z2=>true
 | .at z1 z2 z3=>true
 | .ix z1 z2 z3=>true
 | .tp z1 z2 z3=>true
 | .cl z1 z2 z3 z4=>true
 | .lc z1 z2 z3 z4=>true
theorem Yuh (e:Expr) (h:(tg e).ok=true):e=(tg e).back:=by
 cases e <;> first | rfl | exact (Zv h).elim
theorem Yen {e:Expr}{t:Tg}(h:tg e=t) (hk:t.ok=true):e=t.back:=(Yuh e (h▸hk)).trans (congrArg Tg.back h)
set_option genInjectivity false
set_option genCtorIdx false in
inductive Wh where
 | tup
 | list
 | callG (x:Str)
 | callM (f ov:V)
set_option genCtorIdx false in
inductive Ko where
 | binR (op:Operator) (e:Expr)
 | binA (op:Operator) (a:V)
 | cmpR (op:CmpOp) (e:Expr)
 | cmpA (op:CmpOp) (a:V)
 | chnR (op op2:CmpOp) (e e2:Expr)
 | chnA (op op2:CmpOp) (a:V) (e2:Expr)
 | chnB (op2:CmpOp) (b:V) (e2:Expr)
 | arg (acc:List V) (es:List Expr) (w:Wh)
 | ixR (i:Expr)
 | ixA (o:V)
 | attr (a:Str)
 | not
 | neg
 | bo (op:BoolOp) (es:List Expr)
 | meth (name:Str) (args:List Expr)
 | comp (scope:Scope) (x:Str) (ifs:List Expr) (elt:Expr)
 | tst
 | tsb
 | rev
 | asgN (x:Str) (rest:List (List Stmt))
 | asgA (o:Expr) (a:Str) (rest:List (List Stmt))
 | asgB (a:Str) (v:V) (rest:List (List Stmt))
 | asgS (o i:Expr) (rest:List (List Stmt))
 | asgI (i:Expr) (v:V) (rest:List (List Stmt))
 | asgV (v ov:V) (rest:List (List Stmt))
 | expr (rest:List (List Stmt))
 | for1 (x:Str) (body:List Stmt) (rest:List (List Stmt))
 | for2 (a b:Str) (body:List Stmt) (rest:List (List Stmt))
 | bnot
 | bal (op:BoolOp) (es:List Expr)
 | ite (b o:List Stmt) (rest:List (List Stmt))
set_option genCtorIdx false in
inductive Cf where
 | ev (e:Expr) (k:List Ko) (ρ:Loc) (σ:Hp)
 | rt (v:V) (k:List Ko) (ρ:Loc) (σ:Hp)
 | ag (es:List Expr) (acc:List V) (w:Wh) (k:List Ko) (ρ:Loc) (σ:Hp)
 | bo (op:BoolOp) (es:List Expr) (k:List Ko) (ρ:Loc) (σ:Hp)
 | ts (e:Expr) (k:List Ko) (ρ:Loc) (σ:Hp)
 | al (op:BoolOp) (es:List Expr) (k:List Ko) (ρ:Loc) (σ:Hp)
 | bl (b:Bool) (k:List Ko) (ρ:Loc) (σ:Hp)
 | st (sss:List (List Stmt)) (ρ:Loc) (σ:Hp)
noncomputable def Y0s (a b:V) (Q:QE) (σ:Hp):Prop:=Ys1 .Add a b Q σ∧Yvg .Eq a b Q σ∧Ydi a b Q σ∧tvc a σ (fun zz=>True)∧nmG none Q σ∧gd true True
section
variable (r:Cf→Prop)
noncomputable def rtQ (k:List Ko) (ρ:Loc):QE:=fun v σ=>let _h:=Y0s; r (.rt v k ρ σ)
noncomputable def blQ (k:List Ko) (ρ:Loc):Bool→Hp→Prop:=fun b σ=>let _h:=Y0s; r (.bl b k ρ σ)
noncomputable def blK (k:List Ko) (ρ:Loc) (σ:Hp) (b:Bool):Prop:=let _h:=Y0s; r (.bl b k ρ σ)
noncomputable def notK (k:List Ko) (ρ:Loc) (σ:Hp) (b:Bool):Prop:=r (.rt (.bool (!b)) k ρ σ)
noncomputable def negK (k:List Ko) (ρ:Loc) (σ:Hp) (i:Int):Prop:=r (.rt (.int (-i)) k ρ σ)
noncomputable def boK (op:BoolOp) (es:List Expr) (v:V) (k:List Ko) (ρ:Loc) (σ:Hp) (b:Bool):Prop:=match op with
 | .And=>Br b (r (.bo .And es k ρ σ)) (r (.rt v k ρ σ))
 | .Or=>Br b (r (.rt v k ρ σ)) (r (.bo .Or es k ρ σ))
noncomputable def chK (op2:CmpOp) (b:V) (e:Expr) (k:List Ko) (ρ:Loc) (σ:Hp) (c:Bool):Prop:=Br c (r (.ev e (.cmpA op2 b::k) ρ σ)) (r (.rt (.bool false) k ρ σ))
noncomputable def mtK (args:List Expr) (ov:V) (k:List Ko) (ρ:Loc) (σ:Hp) (f:V):Prop:=r (.ag args [] (.callM f ov) k ρ σ)
noncomputable def Y0i:List V→List V→(List V→Prop)→Prop
 | [],out,P=>P out
 | v::acc,out,P=>Y0i acc (v::out) P
noncomputable def Yci (Q:QS) (rest:List (List Stmt)):QS:=fun fl ρ σ=>match fl with
 | .next=>r (.st rest ρ σ)
 | fl=>Q fl ρ σ
end
section
variable (T:Tp) (sc:Scope)
noncomputable def Yf8 (x:Str):Bool:=match sc.names.lookup x with | some .globalImplicit=>true | _=>false
noncomputable def Y0e (v:V):Bool:=v.casesOn (Yay v) (fun _=>Yay v) (fun _=>Yay v) (fun _=>Yay v) (fun _=>Yay v) (fun _=>Yay v) (fun x=>(T.g x).any fun v=>PySem.W.keepIn T.K v) (fun _ _=>Yay v) (fun _=>Yay v) (fun _=>Yay v) (fun _=>Yay v) (fun _=>Yay v) (fun _=>Yay v) (fun _ _=>Yay v)
noncomputable def Yvi:Option V→Bool
 | some v=>Y0e T v
 | none=>false
end
noncomputable def nmO:Tg→Option Str
 | .nm x z1=>some x
 | z1=>none
theorem Yh8 {e:Expr}{x:Str}(h:nmO (tg e)=some x):∃ p,e=.Name x p:=by
 cases ht:tg e <;> rw [ht] at h <;> first | exact (Yaf h).elim | exact ⟨_,Yad h▸Yen ht rfl⟩
noncomputable def Yzg:Tg→Option (Str×Expr)
 | .cl f [a] [] z1=>(nmO (tg f)).map fun x=>(x,a)
 | z1=>none
noncomputable def Yu6 (sc:Scope) (x:Str) (a:Expr):Bool:=x == ("reversed" : Str) && (Yf8 sc x && Ybz [a])
noncomputable def Yoz:Option V→Bool
 | some (.type n)=>n == "reversed"
 | z1=>false
theorem Yml {o:Option V}(h:Yoz o=true):o=some (.type "reversed"):=by
 rcases o with zz | v
 · exact (Zv h).elim
 · cases v <;> first | exact (Zv h).elim | exact congrArg (some<|V.type ·) (eq_of_beq h)
inductive Yry (K:V→Hp→Prop) (v:V) (σ:Hp):Prop where
 | mk (l:Nat) (vs:List V) (h:v=.ref l) (h1:σ[l]?=some (.list vs)) (k:K (.rev l vs.length) σ):Yry K v σ
noncomputable def Yow (sc:Scope) (x:Str):Bool:=match sc.names.lookup x with | some .cell=>true | _=>false
noncomputable def Yj8 (sc:Scope) (x:Str):Bool:=match sc.names.lookup x with | some .local=>true | _=>false
noncomputable def Yzl (sc:Scope) (e:Expr):Bool:=match Yzg (tg e) with
 | some (x,a) => !Yu6 sc x a
 | none=>true
section
variable (T:Tp) (d:Nat) (sc:Scope) (X:QX) (Q:QS) (r:Cf→Prop)
noncomputable def Ym5 (scope:Scope) (c:Comprehension) (x:Str):Bool:=Ydj scope sc && Yar scope x && Yfn c.iter && !T.hd && c.is_async == 0 && Yzl sc c.iter
noncomputable def Yv6 (elt:Expr) (gens:List Comprehension) (scope:Scope) (P:Prop) (k:List Ko) (ρ:Loc) (σ:Hp):Prop:=match gens with
 | [c]=>(match nmO (tg c.target) with
   | some x=>bif Ym5 T sc scope c x then r (.ev c.iter (.comp scope x c.ifs elt::k) ρ σ) else P
   | none=>P)
 | z1=>P
noncomputable def stE (e:Expr) (k:List Ko) (ρ:Loc) (σ:Hp):Prop:=e.casesOn
 (fun op es z1=>r (.bo op es k ρ σ)) (fun _ _ _=>Evx T d sc ρ X e (rtQ r k ρ) σ)
 (fun l op e2 z1=>r (.ev l (.binR op e2::k) ρ σ))
 (fun op x z1=>(match op with
   | .Not=>r (.ev x (.not::k) ρ σ)
   | .USub=>r (.ev x (.neg::k) ρ σ)
   | z1=>Evx T d sc ρ X e (rtQ r k ρ) σ)) (fun _ _ _ _=>Evx T d sc ρ X e (rtQ r k ρ) σ) (fun _ _ _ _=>Evx T d sc ρ X e (rtQ r k ρ) σ)
 (fun ks vs z1=>bif ks.isEmpty && vs.isEmpty then r (.rt (.ref σ.length) k ρ (σ++[.sdict []])) else Evx T d sc ρ X e (rtQ r k ρ) σ) (fun _ _ _=>Evx T d sc ρ X e (rtQ r k ρ) σ)
 (fun elt gens scope z1=>Yv6 T sc r elt gens scope (Evx T d sc ρ X e (rtQ r k ρ) σ) k ρ σ) (fun _ _ _ _=>Evx T d sc ρ X e (rtQ r k ρ) σ) (fun _ _ _ _ _=>Evx T d sc ρ X e (rtQ r k ρ) σ) (fun _ _ _ _=>Evx T d sc ρ X e (rtQ r k ρ) σ) (fun _ _=>Evx T d sc ρ X e (rtQ r k ρ) σ) (fun _ _=>Evx T d sc ρ X e (rtQ r k ρ) σ) (fun _ _=>Evx T d sc ρ X e (rtQ r k ρ) σ)
 (fun l ops rs z1=>(match ops,rs with
   | [op],[e2]=>bif behindInMarks op e2 then Evx T d sc ρ X e (rtQ r k ρ) σ else r (.ev l (.cmpR op e2::k) ρ σ)
   | [op,op2],[m,e2]=>bif behindInMarks op2 e2 then Evx T d sc ρ X e (rtQ r k ρ) σ else r (.ev l (.chnR op op2 m e2::k) ρ σ)
   | z1,z2=>Evx T d sc ρ X e (rtQ r k ρ) σ))
 (fun f args kws pos=>(match kws with | _::_=>Evx T d sc ρ X e (rtQ r k ρ) σ | []=>match tg f with
   | .nm x z1=>bif Ybz args && Yf8 sc x then gd (Yvi T (T.gv x)) (r (.ag args [] (.callG x) k ρ σ)) else Evx T d sc ρ X e (rtQ r k ρ) σ
   | .at o name apos=>bif Ycp o && Ybz args && (apos.endLine == pos.line) && Nat.ble args.length 20 then r (.ev o (.meth name args::k) ρ σ)
     else Evx T d sc ρ X e (rtQ r k ρ) σ
   | z1=>Evx T d sc ρ X e (rtQ r k ρ) σ)) (fun _ _ _ _=>Evx T d sc ρ X e (rtQ r k ρ) σ) (fun _ _=>Evx T d sc ρ X e (rtQ r k ρ) σ)
 (fun c z1 z2=>(match c with
   | .none=>r (.rt .none k ρ σ)
   | .bool b=>r (.rt (.bool b) k ρ σ)
   | .int i=>r (.rt (.int i) k ρ σ)
   | .str t=>r (.rt (.str t) k ρ σ)
   | z1=>Evx T d sc ρ X e (rtQ r k ρ) σ))
 (fun v a z1=>bif Ycp v then r (.ev v (.attr a::k) ρ σ) else Evx T d sc ρ X e (rtQ r k ρ) σ)
 (fun v i z1=>bif Yes i then r (.ev v (.ixR i::k) ρ σ) else Evx T d sc ρ X e (rtQ r k ρ) σ) (fun _ _=>Evx T d sc ρ X e (rtQ r k ρ) σ)
 (fun x z1=>bif Ypy sc x then nmG (ρ x) (rtQ r k ρ) σ else gd (Yf8 sc x) (nmG (T.gv x) (rtQ r k ρ) σ))
 (fun es z1=>bif Ybz es then r (.ag es [] .list k ρ σ) else Evx T d sc ρ X e (rtQ r k ρ) σ)
 (fun es z1 z2=>bif Ybz es then r (.ag es [] .tup k ρ σ) else Evx T d sc ρ X e (rtQ r k ρ) σ) (fun _ _ _ _=>Evx T d sc ρ X e (rtQ r k ρ) σ)
noncomputable def Yzf (w:Wh) (k:List Ko) (ρ:Loc) (σ:Hp) (vs:List V):Prop:=match w with
 | .tup=>gd (Yqa vs 100) (r (.rt (.tup vs) k ρ σ))
 | .list=>gd (Yqa vs 100) (r (.rt (.ref σ.length) k ρ (σ++[.list vs])))
 | .callG x=>nmG (T.gv x) (fun v σ=>Cal T d X v vs (rtQ r k ρ) σ) σ
 | .callM f ov=>Cal T d X f (ov::vs) (rtQ r k ρ) σ
noncomputable def stR (v:V) (k:List Ko) (ρ:Loc) (σ:Hp):Prop:=match k with
 | []=>Q (.ret v) ρ σ
 | f::k=>match f with
   | .binR op e=>r (.ev e (.binA op v::k) ρ σ)
   | .binA op a=>Ys1 op a v (rtQ r k ρ) σ
   | .cmpR op e=>r (.ev e (.cmpA op v::k) ρ σ)
   | .cmpA op a=>Yvg op a v (rtQ r k ρ) σ
   | .chnR op op2 e e2=>r (.ev e (.chnA op op2 v e2::k) ρ σ)
   | .chnA op op2 a e2=>Yvg op a v (rtQ r (.chnB op2 v e2::k) ρ) σ
   | .chnB op2 b e2=>bvc v (chK r op2 b e2 k ρ σ)
   | .arg acc es w=>r (.ag es (v::acc) w k ρ σ)
   | .ixR i=>r (.ev i (.ixA v::k) ρ σ)
   | .ixA o=>Ydi o v (rtQ r k ρ) σ
   | .attr a=>Yae T a (rtQ r k ρ) v σ
   | .not=>tvc v σ (notK r k ρ σ)
   | .neg=>Yzb v (negK r k ρ σ)
   | .bo op es=>tvc v σ (boK r op es v k ρ σ)
   | .meth name args=>Yak T v name σ (mtK r args v k ρ σ)
   | .comp scope x ifs elt=>Ybv T d sc ρ X scope x ifs elt (rtQ r k ρ) v σ
   | .tst=>tvc v σ (blK r k ρ σ)
   | .tsb=>bvc v (blK r k ρ σ)
   | .rev=>Yry (rtQ r k ρ) v σ
   | .asgN x rest=>r (.st rest (upd ρ x (some v)) σ)
   | .asgA o a rest=>r (.ev o (.asgB a v rest::k) ρ σ)
   | .asgB a u rest=>Yam T a ρ (Yci r Q rest) u v σ
   | .asgS o i rest=>r (.ev o (.asgI i v rest::k) ρ σ)
   | .asgI i u rest=>r (.ev i (.asgV u v rest::k) ρ σ)
   | .asgV u ov rest=>Yas ρ (Yci r Q rest) u ov v σ
   | .expr rest=>r (.st rest ρ σ)
   | .for1 x body rest=>Ycb T d sc X (nx1 x) body (Yci r Q rest) v ρ σ
   | .for2 a b body rest=>Ycb T d sc X (nx2 a b) body (Yci r Q rest) v ρ σ
   | .bnot=>False
   | .bal z1 z2=>False
   | .ite z1 z2 z3=>False
noncomputable def stT (e:Expr) (k:List Ko) (ρ:Loc) (σ:Hp):Prop:=e.casesOn
 (fun op es z1=>r (.al op es k ρ σ)) (fun _ _ _=>r (.ev e (.tst::k) ρ σ)) (fun _ _ _ _=>r (.ev e (.tst::k) ρ σ))
 (fun op x z1=>(match op with
   | .Not=>r (.ts x (.bnot::k) ρ σ)
   | z1=>Tsx T d sc ρ X e (blQ r k ρ) σ)) (fun _ _ _ _=>r (.ev e (.tst::k) ρ σ))
 (fun _ _ _ _=>Tsx T d sc ρ X e (blQ r k ρ) σ) (fun _ _ _=>r (.ev e (.tst::k) ρ σ)) (fun _ _ _=>r (.ev e (.tst::k) ρ σ)) (fun _ _ _ _=>r (.ev e (.tst::k) ρ σ)) (fun _ _ _ _=>r (.ev e (.tst::k) ρ σ)) (fun _ _ _ _ _=>r (.ev e (.tst::k) ρ σ)) (fun _ _ _ _=>r (.ev e (.tst::k) ρ σ)) (fun _ _=>r (.ev e (.tst::k) ρ σ)) (fun _ _=>r (.ev e (.tst::k) ρ σ)) (fun _ _=>r (.ev e (.tst::k) ρ σ))
 (fun l ops rs z1=>(match ops,rs with
   | [op],[e2]=>bif behindInMarks op e2 then Tsx T d sc ρ X e (blQ r k ρ) σ else r (.ev l (.cmpR op e2::.tsb::k) ρ σ)
   | [op,op2],[m,e2]=>bif behindInMarks op2 e2 then Tsx T d sc ρ X e (blQ r k ρ) σ else r (.ev l (.chnR op op2 m e2::.tsb::k) ρ σ)
   | z1,z2=>Tsx T d sc ρ X e (blQ r k ρ) σ)) (fun _ _ _ _=>r (.ev e (.tst::k) ρ σ)) (fun _ _ _ _=>r (.ev e (.tst::k) ρ σ)) (fun _ _=>r (.ev e (.tst::k) ρ σ)) (fun _ _ _=>r (.ev e (.tst::k) ρ σ)) (fun _ _ _=>r (.ev e (.tst::k) ρ σ)) (fun _ _ _=>r (.ev e (.tst::k) ρ σ)) (fun _ _=>r (.ev e (.tst::k) ρ σ)) (fun _ _=>r (.ev e (.tst::k) ρ σ)) (fun _ _=>r (.ev e (.tst::k) ρ σ)) (fun _ _ _=>r (.ev e (.tst::k) ρ σ)) (fun _ _ _ _=>r (.ev e (.tst::k) ρ σ))
noncomputable def stL (b:Bool) (k:List Ko) (ρ:Loc) (σ:Hp):Prop:=match k with
 | []=>Q (.ret (.bool b)) ρ σ
 | f::k=>f.casesOn (fun _ _=>False) (fun _ _=>False) (fun _ _=>False) (fun _ _=>False) (fun _ _ _ _=>False) (fun _ _ _ _=>False) (fun _ _ _=>False) (fun _ _ _=>False) (fun _=>False) (fun _=>False) (fun _=>False) False False (fun _ _=>False) (fun _ _=>False) (fun _ _ _ _=>False) False False False (fun _ _=>False) (fun _ _ _=>False) (fun _ _ _=>False) (fun _ _ _=>False) (fun _ _ _=>False) (fun _ _ _=>False) (fun _=>False) (fun _ _ _=>False) (fun _ _ _ _=>False) (r (.bl (!b) k ρ σ)) (fun op es=>match op with
     | .And=>Br b (r (.al .And es k ρ σ)) (r (.bl false k ρ σ))
     | .Or=>Br b (r (.bl true k ρ σ)) (r (.al .Or es k ρ σ))) (fun t o rest=>Br b (r (.st (t::rest) ρ σ)) (r (.st (o::rest) ρ σ)))
noncomputable def itG (iter:Expr) (k:List Ko) (ρ:Loc) (σ:Hp):Prop:=match Yzg (tg iter) with
 | some (x,a)=>bif Yu6 sc x a then gd (Yoz (T.gv x)) (r (.ev a (.rev::k) ρ σ)) else r (.ev iter k ρ σ)
 | none=>r (.ev iter k ρ σ)
noncomputable def Y06 (a b:Option Str) (iter:Expr) (body:List Stmt) (P:Prop) (rest:List (List Stmt)) (ρ:Loc) (σ:Hp):Prop:=match a,b with
 | some a,some b=>bif Yar sc a && Yar sc b && Yfn iter && !T.hd then itG T sc r iter [.for2 a b body rest] ρ σ else P
 | z1,z2=>P
noncomputable def forG (t:Tg) (iter:Expr) (body:List Stmt) (P:Prop) (rest:List (List Stmt)) (ρ:Loc) (σ:Hp):Prop:=match t with
 | .nm x z1=>bif Yar sc x && Yfn iter && !T.hd then itG T sc r iter [.for1 x body rest] ρ σ else P
 | .tp es z1 z2=>(match es with
   | [a,b]=>Y06 T sc r (nmO (tg a)) (nmO (tg b)) iter body P rest ρ σ
   | z1=>P)
 | z1=>P
noncomputable def Y09 (t:Tg) (value:Expr) (P:Prop) (rest:List (List Stmt)) (ρ:Loc) (σ:Hp):Prop:=match t with
 | .nm x z1=>bif Yar sc x then r (.ev value [.asgN x rest] ρ σ) else P
 | .at o a z1=>r (.ev value [.asgA o a rest] ρ σ)
 | .ix o i z1=>r (.ev value [.asgS o i rest] ρ σ)
 | z1=>P
noncomputable def Y0z (t u:Tg) (value:Expr) (P:Prop) (rest:List (List Stmt)) (ρ:Loc) (σ:Hp):Prop:=match t with
 | .nm y py=>bif Yow sc y then r (.ev value [.asgN y rest] ρ σ) else
   match u with
   | .lc elt gens scope pos=>bif Yj8 sc y && (py.line == pos.line && !(scope.names.any fun (n,k)=>n == y && (k == .local || k == .cell))) then Yv6 T sc r elt gens scope P [.asgN y rest] ρ σ else P
   | z1=>P
 | z1=>P
noncomputable def stM (st:Stmt) (rest:List (List Stmt)) (ρ:Loc) (σ:Hp):Prop:=st.casesOn (fun _ _ _ _ _ _ _ _ _ _=>Stx T d sc ρ X st (Yci r Q rest) σ) (fun _ _ _ _ _ _ _ _ _ _=>Stx T d sc ρ X st (Yci r Q rest) σ) (fun _ _ _ _ _ _ _ _ _ _ _=>Stx T d sc ρ X st (Yci r Q rest) σ) (fun v _=>match v with | some e=>r (.ev e [] ρ σ) | none=>Q (.ret .none) ρ σ) (fun _ _=>Stx T d sc ρ X st (Yci r Q rest) σ) (fun ts value _=>match ts with | [t]=>bif Yfi value then Y09 sc r (tg t) value (Stx T d sc ρ X st (Yci r Q rest) σ) rest ρ σ else Y0z T sc r (tg t) (tg value) value (Stx T d sc ρ X st (Yci r Q rest) σ) rest ρ σ | _=>Stx T d sc ρ X st (Yci r Q rest) σ) (fun _ _ _ _ _ _ _=>Stx T d sc ρ X st (Yci r Q rest) σ) (fun _ _ _ _=>Stx T d sc ρ X st (Yci r Q rest) σ) (fun _ _ _ _ _=>Stx T d sc ρ X st (Yci r Q rest) σ) (fun t iter body el _=>match el with | []=>forG T sc r (tg t) iter body (Stx T d sc ρ X st (Yci r Q rest) σ) rest ρ σ | _::_=>Stx T d sc ρ X st (Yci r Q rest) σ) (fun _ _ _ _ _=>Stx T d sc ρ X st (Yci r Q rest) σ) (fun _ _ _ _=>Stx T d sc ρ X st (Yci r Q rest) σ) (fun e b o _=>r (.ts e [.ite b o rest] ρ σ)) (fun _ _ _=>Stx T d sc ρ X st (Yci r Q rest) σ) (fun _ _ _=>Stx T d sc ρ X st (Yci r Q rest) σ) (fun _ _ _=>Stx T d sc ρ X st (Yci r Q rest) σ) (fun _ _ _=>Stx T d sc ρ X st (Yci r Q rest) σ) (fun _ _ _ _ _=>Stx T d sc ρ X st (Yci r Q rest) σ) (fun _ _ _ _ _=>Stx T d sc ρ X st (Yci r Q rest) σ) (fun _ _ _=>Stx T d sc ρ X st (Yci r Q rest) σ) (fun _ _=>Stx T d sc ρ X st (Yci r Q rest) σ) (fun _ _ _ _=>Stx T d sc ρ X st (Yci r Q rest) σ) (fun _ _=>Stx T d sc ρ X st (Yci r Q rest) σ) (fun _ _=>Stx T d sc ρ X st (Yci r Q rest) σ) (fun e _=>bif Yfi e then r (.ev e [.expr rest] ρ σ) else Stx T d sc ρ X st (Yci r Q rest) σ) (fun _=>r (.st rest ρ σ)) (fun _=>Q .brk ρ σ) (fun _=>Q .cont ρ σ)
noncomputable def Yy5 (c:Cf):Prop:=match c with
 | .ev e k ρ σ=>stE T d sc X r e k ρ σ
 | .rt v k ρ σ=>stR T d sc X Q r v k ρ σ
 | .ag es acc w k ρ σ=>(match es with
   | e::es=>r (.ev e (.arg acc es w::k) ρ σ)
   | []=>Y0i acc [] (Yzf T d X r w k ρ σ))
 | .bo op es k ρ σ=>(match es with
   | []=>False
   | [x]=>r (.ev x k ρ σ)
   | x::y::t=>r (.ev x (.bo op (y::t)::k) ρ σ))
 | .ts e k ρ σ=>stT T d sc X r e k ρ σ
 | .al op es k ρ σ=>(match es with
   | x::es=>r (.ts x (.bal op es::k) ρ σ)
   | []=>r (.bl (match op with | .And=>true | .Or=>false) k ρ σ))
 | .bl b k ρ σ=>stL Q r b k ρ σ
 | .st sss ρ σ=>(match sss with
   | []=>Q .next ρ σ
   | []::rest=>r (.st rest ρ σ)
   | (st::b)::rest=>stM T d sc X Q r st (b::rest) ρ σ)
noncomputable def gw:Nat→Cf→Prop
 | 0,z1=>False
 | n+1,c=>Yy5 T d sc X Q (gw n) c
end
theorem Ye5 {b:Bool}{P R:Prop}(h:bif b then P else R):(b=true∧P)∨(b=false∧R):=by
 cases b
 · exact .inr ⟨rfl,h⟩
 · exact .inl ⟨rfl,h⟩
theorem Ych {b:Bool}{P Rn C:Prop}(h:bif b then P else Rn) (h1:b=true→P→C) (h2:Rn→C):C:=by
 cases b
 · exact h2 h
 · exact h1 rfl h
theorem Yuq {b:Bool}{P C:Prop}(h:gd b P) (k:b=true→P→C):C:=by
 cases b
 · exact h.elim
 · exact k rfl h
theorem Yot {o:Option V}{Q:QE}{σ:Hp}{C:Prop}(h:nmG o Q σ) (k:∀ v,o=some v→Q v σ→C):C:=by
 cases o
 · exact h.elim
 · exact k _ rfl h
theorem Yb5 {a b:Bool}(h:(a && b)=true):a=true∧b=true:=Bool.and_eq_true_iff.mp h
theorem Yzc {b:Bool}(h:(!b)=true):b=false:=by cases b <;> first | rfl | cases h
theorem dr {x y m:Nat}(h:x+y < m):x < m:=Zk (Zy ..) h
theorem dl {x y m:Nat}(h:x+y < m):y < m:=Zk (Ztb ..) h
theorem z1 {a m:Nat}(h:1+a < m+1):a < m:=by rw [Nat.add_comm] at h; exact Nat.lt_of_succ_lt_succ h
theorem z2 {a b m:Nat}(h:1+a+b < m+1):b < m:=dl (z1 (Nat.add_assoc 1 a b▸h))
theorem z3 {a b c m:Nat}(h:1+a+b+c < m+1):c < m:=z2 (a:=a+b) (Nat.add_assoc 1 a b▸h)
theorem Yxd {op:BoolOp}{es:List Expr}{p:Pos}{m:Nat}(h:sizeOf (Expr.BoolOp op es p) < m+1):sizeOf es < m:=by rw [Expr.BoolOp.sizeOf_spec] at h; exact z2 (dr h)
theorem Y08 {l e:Expr}{op:Operator}{p:Pos}{m:Nat}(h:sizeOf (Expr.BinOp l op e p) < m+1):sizeOf l < m∧sizeOf e < m:=by rw [Expr.BinOp.sizeOf_spec] at h; exact ⟨z1 (dr (dr (dr h))),z3 (dr h)⟩
theorem zUn {e:Expr}{op:UnaryOp}{p:Pos}{m:Nat}(h:sizeOf (Expr.UnaryOp op e p) < m+1):sizeOf e < m:=by rw [Expr.UnaryOp.sizeOf_spec] at h; exact z2 (dr h)
theorem Ydb {α:Type}[SizeOf α] {e:α}{es:List α}{m:Nat}(h:sizeOf (e::es) < m):sizeOf e < m∧sizeOf es < m:=by rw [List.cons.sizeOf_spec] at h; exact ⟨dl (dr h),dl h⟩
theorem Y1d {l:Expr}{ops:List CmpOp}{es:List Expr}{p:Pos}{m:Nat}(h:sizeOf (Expr.Compare l ops es p) < m+1):sizeOf l < m∧sizeOf es < m:=by rw [Expr.Compare.sizeOf_spec] at h; exact ⟨z1 (dr (dr (dr h))),z3 (dr h)⟩
theorem Y0a {f:Expr}{es:List Expr}{ks:List Keyword}{p:Pos}{m:Nat}(h:sizeOf (Expr.Call f es ks p) < m+1):sizeOf f < m∧sizeOf es < m:=by rw [Expr.Call.sizeOf_spec] at h; exact ⟨z1 (dr (dr (dr h))),z2 (dr (dr h))⟩
theorem zAtt {o:Expr}{a:Str}{p:Pos}{m:Nat}(h:sizeOf (Expr.Attribute o a p) < m):sizeOf o < m:=by rw [Expr.Attribute.sizeOf_spec] at h; exact dl (dr (dr h))
theorem zAt1 {o:Expr}{a:Str}{p:Pos}{m:Nat}(h:sizeOf (Expr.Attribute o a p) < m+1):sizeOf o < m:=by rw [Expr.Attribute.sizeOf_spec] at h; exact z1 (dr (dr h))
theorem Y07 {o i:Expr}{p:Pos}{m:Nat}(h:sizeOf (Expr.Subscript o i p) < m+1):sizeOf o < m∧sizeOf i < m:=by rw [Expr.Subscript.sizeOf_spec] at h; exact ⟨z1 (dr (dr h)),z2 (dr h)⟩
theorem Y0v {es:List Expr}{p:Pos}{m:Nat}(h:sizeOf (Expr.List es p) < m+1):sizeOf es < m:=by rw [Expr.List.sizeOf_spec] at h; exact z1 (dr h)
theorem zTup {es:List Expr}{k:Nat}{p:Pos}{m:Nat}(h:sizeOf (Expr.Tuple es k p) < m+1):sizeOf es < m:=by rw [Expr.Tuple.sizeOf_spec] at h; exact z1 (dr (dr h))
theorem Yzq {e:Expr}{c:Comprehension}{sc:Scope}{p:Pos}{m:Nat}(h:sizeOf (Expr.ListComp e [c] sc p) < m+1):sizeOf c.iter < m:=by
 rw [Expr.ListComp.sizeOf_spec] at h
 have h:=(Ydb (z2 (dr (dr h)))).1
 cases c; rw [Comprehension.mk.sizeOf_spec] at h; exact dl (dr (dr h))
theorem zSt {st:Stmt}{b:List Stmt}{m:Nat}(h:sizeOf (st::b) < m+1):sizeOf st < m∧sizeOf b < m:=by rw [List.cons.sizeOf_spec] at h; exact ⟨z1 (dr h),z2 h⟩
theorem zIf {e:Expr}{b o:List Stmt}{p:Pos}{m:Nat}(h:sizeOf (Stmt.If e b o p) < m):sizeOf b < m∧sizeOf o < m:=by rw [Stmt.If.sizeOf_spec] at h; exact ⟨dl (dr (dr h)),dl (dr h)⟩
theorem Ye3 {sc:Scope}{x:Str}(h:Yf8 sc x=true):sc.names.lookup x=some .globalImplicit:=by
 unfold Yf8 at h
 generalize sc.names.lookup x=o at h ⊢
 rcases o with zz | k
 · exact (Zv h).elim
 · cases k <;> first | exact (Zv h).elim | rfl
theorem Yl0 {sc:Scope}{x:Str}(h:Yow sc x=true):sc.names.lookup x=some .cell:=by
 unfold Yow at h
 generalize sc.names.lookup x=o at h ⊢
 rcases o with zz | k
 · exact (Zv h).elim
 · cases k <;> first | exact (Zv h).elim | rfl
theorem Yj0 {sc:Scope}{x:Str}(h:Yj8 sc x=true):sc.names.lookup x=some .local:=by
 unfold Yj8 at h
 generalize sc.names.lookup x=o at h ⊢
 rcases o with zz | k
 · exact (Zv h).elim
 · cases k <;> first | exact (Zv h).elim | rfl
theorem Ylb {P:List V→Prop}:∀ {acc out:List V},Y0i acc out P→P (acc.reverse++out)
 | [],z1,h=>h
 | v::acc,out,h=>by rw [List.reverse_cons,Ze]; exact Ylb (acc:=acc) (out:=v::out) h
section
variable {T:Tp}{d:Nat}{sc:Scope}{X:QX}{Q:QS}{ρ:Loc}{σ:Hp}
theorem Yeq.mono {Q Q':Bool→Hp→Prop}{ι:Inj}{h:Heap}{b:Bool}{s':Shared}(p:Yeq T Q ι h b s') (k:∀ b σ,Q b σ→Q' b σ):Yeq T Q' ι h b s' :=
 by obtain ⟨σ',ι',q,rp,e',g,o⟩:=p; exact ⟨σ',ι',k _ _ q,rp,e',g,o⟩
theorem Yd1.mono {e:Expr}{B B':Bool→Hp→Prop}(h:Yd1 T d sc ρ X e B σ) (k:∀ b σ,B b σ→B' b σ):Yd1 T d sc ρ X e B' σ :=
 fun env A fs F ι s hsc I=>Zib (h env A fs F ι s hsc I) (fun zz zz p=>p.mono k) fun zz zz p=>p
theorem Ydc.mono {es:List Expr}{L L':List V→Hp→Prop}(h:Ydc T d sc ρ X es L σ) (k:∀ vs σ,L vs σ→L' vs σ):Ydc T d sc ρ X es L' σ :=
 fun env A fs F ι s hsc I=>Zib (h env A fs F ι s hsc I) (fun zz zz p=>by obtain ⟨vs,σ',ι',q,r,rp,e',g,o⟩:=p; exact ⟨vs,σ',ι',k _ _ q,r,rp,e',g,o⟩) fun zz zz p=>p
theorem Yai.mon {e:Expr}{Q Q':QE}(h:Yai T d sc ρ X e Q σ) (k:∀ v σ,Q v σ→Q' v σ):Yai T d sc ρ X e Q' σ:=h.mono k fun zz zz h=>h
theorem Ycb.mono {nx:V→Loc→Option Loc}{body:List Stmt}{Q Q':QS}{v:V}(h:Ycb T d sc X nx body Q v ρ σ) (k:∀ fl ρ σ,Q fl ρ σ→Q' fl ρ σ):Ycb T d sc X nx body Q' v ρ σ :=
 h.rec fun items J h0 h1 h2 h3=>⟨items,J,h0,h1,fun ρ σ j=>k _ _ _ (h2 ρ σ j),fun i x ρ σ j e=>Zh (h3 i x ρ σ j e) fun ρ' h=>⟨ρ',h.1,h.2.mono (fun fl ρ σ q=>by cases fl <;> first | exact q | exact k _ _ _ q) fun zz zz q=>q⟩⟩
noncomputable def Rn (T:Tp) (d:Nat) (sc:Scope) (X:QX) (Q:QS) (c:Cf):Prop:=∃ n,gw T d sc X Q n c
theorem Rn.of {n:Nat}{c:Cf}(h:gw T d sc X Q n c):Rn T d sc X Q c:=⟨n,h⟩
theorem Rn.un {c:Cf}{P:Prop}(h:Rn T d sc X Q c) (k:∀ n,Yy5 T d sc X Q (gw T d sc X Q n) c→P):P:=Zh h fun n h=>by
 cases n
 · exact (show False from h).elim
 · exact k _ h
theorem Yhc {n:Nat}{rest:List (List Stmt)}(fl:Fl) (ρ:Loc) (σ:Hp) (h:Yci (gw T d sc X Q n) Q rest fl ρ σ):Yci (Rn T d sc X Q) Q rest fl ρ σ:=by
 cases fl <;> first | exact h | exact ⟨_,h⟩
theorem Yx1 {n:Nat}{w:Wh}{k:List Ko}{vs:List V}(h:Yzf T d X (gw T d sc X Q n) w k ρ σ vs):Yzf T d X (Rn T d sc X Q) w k ρ σ vs:=by
 cases w
 · exact gd.of (gd.out h).1 ⟨_,(gd.out h).2⟩
 · exact gd.of (gd.out h).1 ⟨_,(gd.out h).2⟩
 · exact Zh (nmG.out h) fun v h=>nmG.of h.1 ⟨h.2.out.mono (fun zz zz h=>⟨_,h⟩) fun zz zz h=>h⟩
 · exact ⟨(Cal.out h).mono (fun zz zz h=>⟨_,h⟩) fun zz zz h=>h⟩
theorem Ybt {n:Nat}{e:Expr}{k:List Ko}(h:Evx T d sc ρ X e (rtQ (gw T d sc X Q n) k ρ) σ):Yai T d sc ρ X e (rtQ (Rn T d sc X Q) k ρ) σ:=h.out.mon fun zz zz h=>Rn.of h
theorem Yis {n:Nat}{e:Expr}{k:List Ko}(h:Tsx T d sc ρ X e (blQ (gw T d sc X Q n) k ρ) σ):Yd1 T d sc ρ X e (blQ (Rn T d sc X Q) k ρ) σ:=h.out.mono fun zz zz h=>Rn.of h
theorem Yf3 {n:Nat}{st:Stmt}{rest:List (List Stmt)}(h:Stx T d sc ρ X st (Yci (gw T d sc X Q n) Q rest) σ):Ybe T d sc ρ X st (Yci (Rn T d sc X Q) Q rest) σ:=h.out.mono Yhc fun zz zz h=>h
noncomputable abbrev Ykl (T:Tp) (d:Nat) (sc:Scope) (X:QX) (Q:QS) (m:Nat):Prop:=∀ (e:Expr),sizeOf e < m→∀ k ρ σ,Rn T d sc X Q (.ev e k ρ σ)→Yai T d sc ρ X e (rtQ (Rn T d sc X Q) k ρ) σ
theorem Ypk {m:Nat}(ih:Ykl T d sc X Q m):∀ {es:List Expr}{acc:List V}{w:Wh}{k:List Ko}{ρ:Loc}{σ:Hp},sizeOf es < m→Rn T d sc X Q (.ag es acc w k ρ σ)→Ydc T d sc ρ X es (fun vs σ=>Yzf T d X (Rn T d sc X Q) w k ρ σ (acc.reverse++vs)) σ
 | [],z1,z2,z3,z4,z5,z6,h=>h.un fun zz h=>Ydc.nil (Yx1 (Ylb h))
 | e::es,acc,w,k,ρ,σ,hm,h=>h.un fun n h =>
   Ydc.cons ((ih e (Ydb hm).1 _ _ _ (Rn.of h)).mon fun v σ h=>Rn.un h fun n h=>(Ypk ih (Ydb hm).2 (Rn.of h)).mono fun vs σ h=>by rw [List.reverse_cons,Ze] at h; exact h)
theorem Yu7 {m:Nat}(ih:Ykl T d sc X Q m) {op:BoolOp}:∀ {es:List Expr}{k:List Ko}{ρ:Loc}{σ:Hp},sizeOf es < m→Rn T d sc X Q (.bo op es k ρ σ)→Ybn T d sc ρ X op es (rtQ (Rn T d sc X Q) k ρ) σ
 | [],z1,z2,z3,z4,h=>h.un fun zz h=>(show False from h).elim
 | [x],z1,z2,z3,hm,h=>h.un fun zz h=>Ybn.one (ih x (Ydb hm).1 _ _ _ (Rn.of h))
 | x::y::t,k,ρ,σ,hm,h=>h.un fun n h=>by
   have h:=ih x (Ydb hm).1 _ _ _ (Rn.of h)
   cases op
   · exact Ybn.and (h.mon fun v σ h=>Rn.un h fun n h=>Zh (tvc.out h) fun b h=>⟨b,h.1,by
       cases b
       · exact Rn.of h.2
       · exact Yu7 ih (Ydb hm).2 (Rn.of h.2)⟩)
   · exact Ybn.or (h.mon fun v σ h=>Rn.un h fun n h=>Zh (tvc.out h) fun b h=>⟨b,h.1,by
       cases b
       · exact Yu7 ih (Ydb hm).2 (Rn.of h.2)
       · exact Rn.of h.2⟩)
theorem Yny {op:CmpOp}{a v:V}{k:List Ko}(h:Rn T d sc X Q (.rt v (.cmpA op a::k) ρ σ)):Ydg op a v (rtQ (Rn T d sc X Q) k ρ) σ:=h.un fun zz h=>Yct (Yvg.out h) fun zz zz h=>Rn.of h
theorem Ys2 {m:Nat}(ih:Ykl T d sc X Q m) {l e:Expr}{op:CmpOp}{k:List Ko}(hl:sizeOf l < m) (he:sizeOf e < m) (h:Rn T d sc X Q (.ev l (.cmpR op e::k) ρ σ)):Yai T d sc ρ X l (fun a σ=>Yai T d sc ρ X e (fun b σ=>Ydg op a b (rtQ (Rn T d sc X Q) k ρ) σ) σ) σ :=
 (ih l hl _ _ _ h).mon fun zz zz h=>Rn.un h fun zz h=>(ih e he _ _ _ (Rn.of h)).mon fun zz zz h=>Yny h
theorem Ytl {m:Nat}(ih:Ykl T d sc X Q m) {l e e2:Expr}{op op2:CmpOp}{k:List Ko}(hl:sizeOf l < m) (he:sizeOf e < m) (he2:sizeOf e2 < m) (h:Rn T d sc X Q (.ev l (.chnR op op2 e e2::k) ρ σ)) :
   Yai T d sc ρ X l (fun a σ=>Yai T d sc ρ X e (fun b σ=>Ydg op a b (fun v σ=>∃ c,v=.bool c∧(if c then Yai T d sc ρ X e2 (fun w σ=>Ydg op2 b w (rtQ (Rn T d sc X Q) k ρ) σ) σ else rtQ (Rn T d sc X Q) k ρ (.bool false) σ)) σ) σ) σ :=
 (ih l hl _ _ _ h).mon fun zz zz h=>Rn.un h fun zz h=>(ih e he _ _ _ (Rn.of h)).mon fun b zz h=>Rn.un h fun zz h=>Yct (Yvg.out h) fun v σ h=>Rn.un (Rn.of h) fun zz h=>Zh (bvc.out h) fun c h=>⟨c,h.1,by
   cases c
   · exact Rn.of h.2
   · exact (ih e2 he2 _ _ _ (Rn.of h.2)).mon fun zz zz h=>Yny h⟩
theorem Yng {m:Nat}(ih:Ykl T d sc X Q m) {iter elt:Expr}{ifs:List Expr}{scope:Scope}{x:Str}{k:List Ko}(hi:sizeOf iter < m) (h:Rn T d sc X Q (.ev iter (.comp scope x ifs elt::k) ρ σ)):Yai T d sc ρ X iter (fun v σ=>Ybv T d sc ρ X scope x ifs elt (rtQ (Rn T d sc X Q) k ρ) v σ) σ :=
 (ih iter hi _ _ _ h).mon fun zz zz h=>Rn.un h fun zz h=>(show Ybv _ _ _ _ _ _ _ _ _ _ _ _ from h).rec fun items J h0 h1 h2 h3=>⟨items,J,h0,h1,fun acc σ j=>Rn.of (h2 acc σ j),h3⟩
theorem Ycx {scope:Scope}{c:Comprehension}{x:Str}(h:Ym5 T sc scope c x=true):Ydj scope sc=true∧Yar scope x=true∧Yfn c.iter=true∧T.hd=false∧c.is_async=0 :=
 have h:=(Yb5 h).1; ⟨(Yb5 (Yb5 (Yb5 (Yb5 h).1).1).1).1,(Yb5 (Yb5 (Yb5 (Yb5 h).1).1).1).2,(Yb5 (Yb5 (Yb5 h).1).1).2,Yzc (Yb5 (Yb5 h).1).2,eq_of_beq (Yb5 h).2⟩
theorem Yn9 {n:Nat}{elt:Expr}{gens:List Comprehension}{scope:Scope}{P C:Prop}{k:List Ko}(h:Yv6 T sc (gw T d sc X Q n) elt gens scope P k ρ σ) (h1:P→C)
   (h2:∀ x p iter ifs,gens=[⟨.Name x p,iter,ifs,0⟩]→Ydj scope sc=true→Yar scope x=true→Yfn iter=true→T.hd=false→Rn T d sc X Q (.ev iter (.comp scope x ifs elt::k) ρ σ)→C):C:=by
 rcases gens with zz | ⟨c,zz | ⟨zz,zz⟩⟩
 · exact h1 h
 · have h:(match nmO (tg c.target) with
     | some x=>bif Ym5 T sc scope c x then gw T d sc X Q n (.ev c.iter (.comp scope x c.ifs elt::k) ρ σ) else P
     | none=>P):=h
   cases hx:nmO (tg c.target) with
   | none=>rw [hx] at h; exact h1 h
   | some x =>
     rw [hx] at h
     exact Ych h (fun hb h=>Zh (Yh8 hx) fun p e=>h2 x p c.iter c.ifs (by
       have:=(Ycx hb).2.2.2.2
       cases c; cases this; cases e; rfl) (Ycx hb).1 (Ycx hb).2.1 (Ycx hb).2.2.1 (Ycx hb).2.2.2.1 (Rn.of h)) h1
 · exact h1 h
set_option tactic.hygienic true in
theorem Yt9 {m:Nat}(TO:Yag T) (ho:Yem sc=true) (ih:Ykl T d sc X Q m) {n:Nat}{x:Str}{np pos:Pos}{args:List Expr}{k:List Ko}(hm:sizeOf args < m) (ns:Ybz args=true) (hg:Yf8 sc x=true) (h:gd (Yvi T (T.gv x)) (gw T d sc X Q n (.ag args [] (.callG x) k ρ σ))):Yai T d sc ρ X (.Call (.Name x np) args [] pos) (rtQ (Rn T d sc X Q) k ρ) σ :=
 Yuq h fun h0 h=>by
   cases hv:T.gv x with
   | none=>rw [hv] at h0; exact (Zv h0).elim
   | some v =>
     rw [hv] at h0
     have h4:=(Ypk ih hm (Rn.of h)).mono (L':=fun vs σ=>Yaa T d X v vs (rtQ (Rn T d sc X Q) k ρ) σ) fun vs σ h=>Yot h fun u h1 h2=>Yad (hv.symm.trans h1)▸h2.out
     refine Yai.call TO ns (Yai.glob TO ?_ hv (Ye3 hg) ho)
     cases v <;> first | exact ⟨.inl h0,.inl h0,h4⟩ | skip
     rename_i y
     refine ⟨.inr (.inl ⟨y,rfl⟩),.inr fun v hv=>?_,h4⟩
     rcases hv with ⟨y,e,hv⟩ | ⟨c,y,e,zz⟩
     · cases e
       have h0:(T.g y).any (fun v=>PySem.W.keepIn T.K v)=true:=h0
       rw [hv] at h0; exact h0
     · cases e
set_option tactic.hygienic true in
theorem Ypt (TO:Yag T) (ho:Yem sc=true):∀ m,Ykl T d sc X Q m
 | 0,z1,hm,z2,z3,z4,z5=>absurd hm (Zlb _)
 | m+1,e,hm,k,ρ,σ,g=>g.un fun n h=>by
   clear g
   have ih:=Ypt TO ho m
   cases e <;> first | exact Ybt h | skip
   · exact Yai.bools (Yu7 ih (Yxd hm) (Rn.of h))
   · exact Yai.bin ((ih _ (Y08 hm).1 _ _ _ (Rn.of h)).mon fun zz zz h=>Rn.un h fun zz h=>(ih _ (Y08 hm).2 _ _ _ (Rn.of h)).mon fun zz zz h=>Rn.un h fun zz h=>(Ys1.out h).rec fun v σ r q=>⟨v,σ,r,Rn.of q⟩)
   · rename_i op _ _
     cases op <;> first | exact Ybt h | skip
     · exact Yai.not ((ih _ (zUn hm) _ _ _ (Rn.of h)).mon fun zz zz h=>Rn.un h fun zz h=>Zh (tvc.out h) fun b h=>⟨b,h.1,Rn.of h.2⟩)
     · exact Yai.neg ((ih _ (zUn hm) _ _ _ (Rn.of h)).mon fun zz zz h=>Rn.un h fun zz h=>Zh (Yzb.out h) fun b h=>⟨b,h.1,Rn.of h.2⟩)
   · rename_i ks vs _
     cases ks <;> first | exact Ybt h | skip
     cases vs <;> first | exact Ybt h | skip
     exact Yai.dict (Rn.of h)
   · exact Yn9 h Ybt fun x p iter ifs e h1 h2 h3 h4 h5=>by subst e; exact Yai.comp h1 h2 h3 (Yng ih (Yzq hm) h5) h4
   · rename_i l ops rs _
     have hz:=Y1d hm
     clear hm
     rcases ops with zz | ⟨op,zz | ⟨op2,zz | ⟨zz,zz⟩⟩⟩ <;> rcases rs with zz | ⟨r,zz | ⟨r2,zz | ⟨zz,zz⟩⟩⟩ <;> first | exact Ybt h | skip
     · rcases Ye5 h with ⟨zz,h⟩ | ⟨hb,h⟩
       · exact Ybt h
       · exact Yai.cmp (Ys2 ih hz.1 (Ydb hz.2).1 (Rn.of h)) hb
     · rcases Ye5 h with ⟨zz,h⟩ | ⟨hb,h⟩
       · exact Ybt h
       · exact Yai.cmp2 (Ytl ih hz.1 (Ydb hz.2).1 (Ydb (Ydb hz.2).2).1 (Rn.of h)) hb
   · rename_i f args kws pos
     have hz:=Y0a hm
     clear hm
     cases kws <;> first | exact Ybt h | skip
     have h:(match tg f with
       | .nm x z1=>bif Ybz args && Yf8 sc x then gd (Yvi T (T.gv x)) (gw T d sc X Q n (.ag args [] (.callG x) k ρ σ)) else Evx T d sc ρ X (.Call f args [] pos) (rtQ (gw T d sc X Q n) k ρ) σ
       | .at o name apos=>bif Ycp o && Ybz args && (apos.endLine == pos.line) && Nat.ble args.length 20 then gw T d sc X Q n (.ev o (.meth name args::k) ρ σ)
         else Evx T d sc ρ X (.Call f args [] pos) (rtQ (gw T d sc X Q n) k ρ) σ
       | z1=>Evx T d sc ρ X (.Call f args [] pos) (rtQ (gw T d sc X Q n) k ρ) σ):=h
     cases ht:tg f <;> rw [ht] at h <;> first | exact Ybt h | skip
     · exact Ych h (fun hb h=>by rw [Yen ht rfl]; exact Yt9 TO ho ih hz.2 (Yb5 hb).1 (Yb5 hb).2 h) Ybt
     · exact Ych h (fun hb h=>by
         have e:=Yen ht rfl
         rw [e] at hz ⊢
         exact Yai.meth TO (Yb5 (Yb5 (Yb5 hb).1).1).1 (Yb5 (Yb5 (Yb5 hb).1).1).2 (Yb5 (Yb5 hb).1).2 (Zk (Nat.le_of_ble_eq_true (Yb5 hb).2) (by decide)) ((ih _ (zAtt hz.1) _ _ _ (Rn.of h)).mon fun zz zz h=>Rn.un h fun zz h=>(show Yak _ _ _ _ _ from h).rec fun f h1 h2=>⟨f,h1,(Ypk ih hz.2 (Rn.of h2)).mono fun zz zz h=>Cal.out h⟩)) Ybt
   · rename_i c _ _
     cases c <;> first | exact Ybt h | skip
     · exact Yai.none (Rn.of h)
     · exact Yai.bool (Rn.of h)
     · exact Yai.int (Rn.of h)
     · exact Yai.str (Rn.of h)
   · exact Ych h (fun hb h=>Yai.attr TO hb ((ih _ (zAt1 hm) _ _ _ (Rn.of h)).mon fun zz zz h=>Rn.un h fun zz h=>(show Yae _ _ _ _ _ from h).rec fun l c gs v C h0 h1 h2 h3 h4 h5 h6=>⟨l,c,gs,v,C,h0,h1,h2,h3,h4,h5,Rn.of h6⟩)) Ybt
   · exact Ych h (fun hb h=>Yai.ix hb ((ih _ (Y07 hm).1 _ _ _ (Rn.of h)).mon fun zz zz h=>Rn.un h fun zz h=>(ih _ (Y07 hm).2 _ _ _ (Rn.of h)).mon fun zz zz h=>Rn.un h fun zz h=>(Ydi.out h).rec fun v r q=>⟨v,r,Rn.of q⟩)) Ybt
   · exact Ych h (fun hb h=>Yot h fun v h1 h2=>Yai.nm h1 hb ho (Rn.of h2)) fun h=>Yuq h fun h0 h=>Yot h fun v h1 h2=>Yai.glob TO (Rn.of h2) h1 (Ye3 h0) ho
   · exact Ych h (fun hb h=>Yai.list ((Ypk ih (Y0v hm) (Rn.of h)).mono fun vs σ h=>⟨Za (Yfs (gd.out h).1) (by decide),(gd.out h).2⟩) hb) Ybt
   · exact Ych h (fun hb h=>Yai.tup ((Ypk ih (zTup hm) (Rn.of h)).mono fun vs σ h=>⟨Za (Yfs (gd.out h).1) (by decide),(gd.out h).2⟩) hb) Ybt
theorem Ycv (TO:Yag T) (ho:Yem sc=true) {e:Expr}{k:List Ko}(h:Rn T d sc X Q (.ev e k ρ σ)):Yai T d sc ρ X e (rtQ (Rn T d sc X Q) k ρ) σ:=Ypt TO ho _ e (Zs _) k ρ σ h
noncomputable abbrev Yxm (T:Tp) (d:Nat) (sc:Scope) (X:QX) (Q:QS) (m:Nat):Prop:=∀ (e:Expr),sizeOf e < m→∀ k ρ σ,Rn T d sc X Q (.ts e k ρ σ)→Yd1 T d sc ρ X e (blQ (Rn T d sc X Q) k ρ) σ
theorem Yuj {m:Nat}(ih:Yxm T d sc X Q m) {op:BoolOp}:∀ {es:List Expr}{k:List Ko}{ρ:Loc}{σ:Hp},sizeOf es < m→Rn T d sc X Q (.al op es k ρ σ)→Ydy T d sc ρ X op es (blQ (Rn T d sc X Q) k ρ) σ
 | [],z1,z2,z3,z4,h=>h.un fun zz h=>by
   cases op
   · exact Ydy.and_nil (Rn.of h)
   · exact Ydy.or_nil (Rn.of h)
 | x::es,k,ρ,σ,hm,h=>h.un fun zz h=>by
   have h:=ih x (Ydb hm).1 _ _ _ (Rn.of h)
   cases op
   · exact Ydy.and_cons (h.mono fun b σ h=>Rn.un h fun zz h=>by
       cases b
       · exact Rn.of h
       · exact Yuj ih (Ydb hm).2 (Rn.of h))
   · exact Ydy.or_cons (h.mono fun b σ h=>Rn.un h fun zz h=>by
       cases b
       · exact Yuj ih (Ydb hm).2 (Rn.of h)
       · exact Rn.of h)
theorem Ypd {n:Nat}{v:V}{k:List Ko}(h:bvc v (blK (gw T d sc X Q n) k ρ σ)):∃ c,v=.bool c∧blQ (Rn T d sc X Q) k ρ c σ:=Zh (bvc.out h) fun c h=>⟨c,h.1,Rn.of h.2⟩
theorem Yxw {n:Nat}{e:Expr}{k:List Ko}(TO:Yag T) (ho:Yem sc=true) (h:gw T d sc X Q n (.ev e (.tst::k) ρ σ)) (hp:Yjd e=true):Yd1 T d sc ρ X e (blQ (Rn T d sc X Q) k ρ) σ:=Yd1.val ((Ycv TO ho (Rn.of h)).mon fun zz zz h=>Rn.un h fun zz h=>Zh (tvc.out h) fun b h=>⟨b,h.1,Rn.of h.2⟩) hp
set_option tactic.hygienic true in
theorem Yw6 (TO:Yag T) (ho:Yem sc=true):∀ m,Yxm T d sc X Q m
 | 0,z1,hm,z2,z3,z4,z5=>absurd hm (Zlb _)
 | m+1,e,hm,k,ρ,σ,g=>g.un fun n h=>by
   clear g
   have ih:=Yw6 TO ho m
   cases e <;> first | exact Yxw TO ho h rfl | exact Yis h | skip
   · exact Yd1.bool (Yuj ih (Yxd hm) (Rn.of h))
   · rename_i op _ _
     cases op <;> first | exact Yis h | skip
     exact Yd1.not ((ih _ (zUn hm) _ _ _ (Rn.of h)).mono fun b σ h=>Rn.un h fun zz h=>Rn.of h)
   · rename_i l ops rs _
     have hz:=Y1d hm
     clear hm
     rcases ops with zz | ⟨op,zz | ⟨op2,zz | ⟨zz,zz⟩⟩⟩ <;> rcases rs with zz | ⟨r,zz | ⟨r2,zz | ⟨zz,zz⟩⟩⟩ <;> first | exact Yis h | skip
     · rcases Ye5 h with ⟨zz,h⟩ | ⟨hb,h⟩
       · exact Yis h
       · exact Yd1.cmp ((Ys2 (Ypt TO ho m) hz.1 (Ydb hz.2).1 (Rn.of h)).mon fun zz zz h=>h.mon fun zz zz h=>Yct h fun zz zz h=>Rn.un h fun zz h=>Ypd h) hb
     · rcases Ye5 h with ⟨zz,h⟩ | ⟨hb,h⟩
       · exact Yis h
       · exact Yd1.cmp2 ((Ytl (Ypt TO ho m) hz.1 (Ydb hz.2).1 (Ydb (Ydb hz.2).2).1 (Rn.of h)).mon fun zz zz h=>h.mon fun zz zz h=>Yct h fun zz zz h=>Zh h fun c h=>⟨c,h.1,by
           cases c
           · exact Rn.un h.2 fun zz h=>Zh (Ypd (v:=.bool false) h) fun c h=>by cases h.1; exact h.2
           · exact (show Yai _ _ _ _ _ _ _ _ from h.2).mon fun zz zz h=>Yct h fun zz zz h=>Rn.un h fun zz h=>Ypd h⟩) hb
theorem Ytm (TO:Yag T) (ho:Yem sc=true) {e:Expr}{k:List Ko}(h:Rn T d sc X Q (.ts e k ρ σ)):Yd1 T d sc ρ X e (blQ (Rn T d sc X Q) k ρ) σ:=Yw6 TO ho _ e (Zs _) k ρ σ h
theorem Yyr {n:Nat}{x:Str}{np pos:Pos}{a:Expr}{k:List Ko}(TO:Yag T) (ho:Yem sc=true) (hb:Yu6 sc x a=true) (h:gd (Yoz (T.gv x)) (gw T d sc X Q n (.ev a (.rev::k) ρ σ))):Yko T d sc ρ X (.Call (.Name x np) [a] [] pos) (rtQ (Rn T d sc X Q) k ρ) σ :=
 Yuq h fun h0 h=>Yko.reversed TO (Yai.glob TO ⟨rfl,rfl⟩ (Yml h0) (Ye3 (Yb5 (Yb5 hb).2).1) ho) (Yb5 (Yb5 hb).2).2 ((Ycv TO ho (Rn.of h)).mon fun zz zz h=>Rn.un h fun zz h=>(show Yry _ _ _ from h).rec fun l vs a b c=>⟨l,vs,a,b,Rn.of c⟩)
set_option tactic.hygienic true in
theorem Yr7 {e:Expr}{x:Str}{a:Expr}(h:Yzg (tg e)=some (x,a)):∃ np pos,e=.Call (.Name x np) [a] [] pos:=by
 cases ht:tg e <;> rw [ht] at h <;> first | exact (Yaf h).elim | skip
 rename_i f args kws p
 rcases args with zz | ⟨b,zz | ⟨zz,zz⟩⟩ <;> first | exact (Yaf h).elim | skip
 cases kws <;> first | exact (Yaf h).elim | skip
 obtain ⟨y,h1,h2⟩:=Zpb.mp h
 cases h2
 obtain ⟨np,h3⟩:=Yh8 h1
 exact ⟨np,p,h3▸Yen ht rfl⟩
theorem Ytx {n:Nat}{iter:Expr}{k:List Ko}(TO:Yag T) (ho:Yem sc=true) (h:itG T sc (gw T d sc X Q n) iter k ρ σ):Yko T d sc ρ X iter (rtQ (Rn T d sc X Q) k ρ) σ:=by
 have pl:gw T d sc X Q n (.ev iter k ρ σ)→Yko T d sc ρ X iter (rtQ (Rn T d sc X Q) k ρ) σ:=fun h=>(Ycv TO ho (Rn.of h)).it
 unfold itG at h
 cases hv:Yzg (tg iter) with
 | none=>rw [hv] at h; exact pl h
 | some p =>
   rw [hv] at h
   exact Ych h (fun hb h=>ex2 (Yr7 hv) fun np pos e=>by rw [e]; exact Yyr TO ho hb h) pl
theorem Yko.mono {e:Expr}{K K':V→Hp→Prop}(h:Yko T d sc ρ X e K σ) (k:∀ v σ,K v σ→K' v σ):Yko T d sc ρ X e K' σ:=fun env A fs F ι s hsc I =>
 Zib (h env A fs F ι s hsc I) (fun zz zz p=>p.rec (fun v σ' ι' a b c e f g=>.of v σ' ι' (k _ _ a) b c e f g) fun l n I σ' ι' a b c e f g i j m=>.rev l n I σ' ι' (k _ _ a) b c e f g i j m) fun zz zz p=>p
set_option tactic.hygienic true in
theorem Yv4 {n:Nat}{t iter:Expr}{u:Tg}{body:List Stmt}{pos:Pos}{rest:List (List Stmt)}{P:Prop}(TO:Yag T) (ho:Yem sc=true) (vx:P→Ybe T d sc ρ X (.For t iter body [] pos) (Yci (Rn T d sc X Q) Q rest) σ) (ht:tg t=u)
   (h:forG T sc (gw T d sc X Q n) u iter body P rest ρ σ):Ybe T d sc ρ X (.For t iter body [] pos) (Yci (Rn T d sc X Q) Q rest) σ:=by
 cases u <;> first | exact vx h | skip
 · cases Yen ht rfl
   exact Ych h (fun hb h=>Ybe.forG ((Ytx TO ho h).mono fun zz zz h=>Rn.un h fun zz h=>Ycb.mono h Yhc) (Yyb (Yb5 (Yb5 hb).1).1) (Yb5 (Yb5 hb).1).2 (Yzc (Yb5 hb).2)) vx
 · rename_i es _ _
   rcases es with zz | ⟨a,zz | ⟨b,zz | ⟨zz,zz⟩⟩⟩ <;> first | exact vx h | skip
   have h:Y06 T sc (gw T d sc X Q n) (nmO (tg a)) (nmO (tg b)) iter body P rest ρ σ:=h
   cases ha:nmO (tg a) with
   | none=>rw [ha] at h; exact vx h
   | some x =>
     rw [ha] at h
     cases hb:nmO (tg b) with
     | none=>rw [hb] at h; exact vx h
     | some y =>
       rw [hb] at h
       obtain ⟨pa,rfl⟩:=Yh8 ha
       obtain ⟨pb,rfl⟩:=Yh8 hb
       cases Yen ht rfl
       exact Ych h (fun hb h=>Ybe.forG ((Ytx TO ho h).mono fun zz zz h=>Rn.un h fun zz h=>Ycb.mono h Yhc) (Yug (Yzc (Yb5 hb).2) (Yb5 (Yb5 (Yb5 hb).1).1).1 (Yb5 (Yb5 (Yb5 hb).1).1).2) (Yb5 (Yb5 hb).1).2 (Yzc (Yb5 hb).2)) vx
theorem Yju {v:V}{x:Str}{rest:List (List Stmt)}{ρ:Loc}{σ:Hp}(h:Rn T d sc X Q (.rt v [.asgN x rest] ρ σ)):Yci (Rn T d sc X Q) Q rest .next (upd ρ x (some v)) σ:=h.un fun zz h=>Rn.of h
theorem Yx8 {n:Nat}{t value:Expr}{u:Tg}{pos:Pos}{rest:List (List Stmt)}{P:Prop}(TO:Yag T) (ho:Yem sc=true) (hc:Yfi value=true) (vx:P→Ybe T d sc ρ X (.Assign [t] value pos) (Yci (Rn T d sc X Q) Q rest) σ) (ht:tg t=u)
   (h:Y09 sc (gw T d sc X Q n) u value P rest ρ σ):Ybe T d sc ρ X (.Assign [t] value pos) (Yci (Rn T d sc X Q) Q rest) σ:=by
 cases u <;> first | exact vx h | cases Yen ht rfl
 · exact Ych h (fun hb h=>Ybe.assign ((Ycv TO ho (Rn.of h)).mon fun zz zz h=>Yju h) hc hb) vx
 · exact Ybe.setAttr TO ((Ycv TO ho (Rn.of h)).mon fun zz zz h=>Rn.un h fun zz h=>(Ycv TO ho (Rn.of h)).mon fun zz zz h=>Rn.un h fun zz h=>(show Yam _ _ _ _ _ _ _ from h).rec fun l c gs C h0 h1 h2 h3 h4 h5=>⟨l,c,gs,C,h0,h1,h2,h3,h4,Yhc _ _ _ h5⟩) hc
 · exact Ybe.setItem ((Ycv TO ho (Rn.of h)).mon fun zz zz h=>Rn.un h fun zz h=>(Ycv TO ho (Rn.of h)).mon fun zz zz h=>Rn.un h fun zz h=>(Ycv TO ho (Rn.of h)).mon fun zz zz h=>Rn.un h fun zz h=>(show Yas _ _ _ _ _ _ from h).rec (fun l k kvs h0 h1 h2 h3 h4=>.mk l k kvs h0 h1 h2 h3 (Yhc _ _ _ h4)) fun l k kvs h0 h1 h2 h3 h4=>.pr l k kvs h0 h1 h2 h3 (Yhc _ _ _ h4)) hc
theorem Yu5 {n:Nat}{t value:Expr}{u v:Tg}{pos:Pos}{rest:List (List Stmt)}{P:Prop}(TO:Yag T) (ho:Yem sc=true) (vx:P→Ybe T d sc ρ X (.Assign [t] value pos) (Yci (Rn T d sc X Q) Q rest) σ) (ht:tg t=u) (hu:tg value=v)
   (h:Y0z T sc (gw T d sc X Q n) u v value P rest ρ σ):Ybe T d sc ρ X (.Assign [t] value pos) (Yci (Rn T d sc X Q) Q rest) σ:=by
 cases u <;> first | exact vx h | skip
 cases Yen ht rfl
 refine Ych h (fun hb h=>Ybe.assignCell ((Ycv TO ho (Rn.of h)).mon fun zz zz h=>Yju h) (Yl0 hb)) fun g=>?_
 clear h
 cases v <;> first | exact vx g | skip
 cases Yen hu rfl
 refine Ych g (fun hb h=>?_) vx
 exact Yn9 h vx fun x p iter ifs e h1 h2 h3 h4 h5=>by
   subst e
   exact Ybe.assignComp h1 h2 h3 (Yj0 (Yb5 hb).1) (Yb5 hb).2 ((Yng (Ypt TO ho _) (Zs _) h5).mon fun zz zz h=>h.rec fun items J h0 h1 h2 h3=>⟨items,J,h0,h1,fun acc σ j=>Yju (h2 acc σ j),h3⟩) h4
set_option tactic.hygienic true in
theorem Yyf (TO:Yag T) (ho:Yem sc=true):∀ (m:Nat) (b:List Stmt),sizeOf b < m→∀ rest ρ σ,Rn T d sc X Q (.st (b::rest) ρ σ)→Yda T d sc ρ X b (Yci (Rn T d sc X Q) Q rest) σ
 | 0,z1,hm,z2,z3,z4,z5=>absurd hm (Zlb _)
 | m+1,[],z1,rest,ρ,σ,h=>h.un fun zz h=>Yda.nil (Rn.of h)
 | m+1,st::b,hm,rest,ρ,σ,g=>g.un fun n h=>by
   clear g
   have ih:=Yyf TO ho m
   have hz:=zSt hm
   clear hm
   refine Yda.cons (Ybe.mono (Q:=Yci (Rn T d sc X Q) Q (b::rest)) ?_ (fun fl ρ' σ' h=>?_) fun zz zz h=>h)
   rotate_left
   · cases fl <;> first | exact h | exact ih b hz.2 _ _ _ h
   cases st <;> first | exact Yf3 h | skip
   · rename_i e _
     cases e
     · exact Ybe.retNone h
     · exact Ybe.ret ((Ycv TO ho (Rn.of h)).mon fun zz zz h=>Rn.un h fun zz h=>h)
   · rename_i ts value _
     rcases ts with zz | ⟨t,zz | ⟨zz,zz⟩⟩ <;> first | exact Yf3 h | skip
     rcases Ye5 h with ⟨hc,h⟩ | ⟨zz,h⟩
     · exact Yx8 TO ho hc Yf3 rfl h
     · exact Yu5 TO ho Yf3 rfl rfl h
   · rename_i t iter body orelse _
     cases orelse <;> first | exact Yf3 h | skip
     exact Yv4 TO ho Yf3 rfl h
   · exact Ybe.ite ((Ytm TO ho (Rn.of h)).mono fun t σ h=>Rn.un h fun zz h=>by
       cases t
       · exact ih _ (zIf hz.1).2 _ _ _ (Rn.of h)
       · exact ih _ (zIf hz.1).1 _ _ _ (Rn.of h))
   · rcases Ye5 h with ⟨hc,h⟩ | ⟨zz,h⟩
     · exact Ybe.expr ((Ycv TO ho (Rn.of h)).mon fun zz zz h=>Rn.un h fun zz h=>Rn.of h) hc
     · exact Yf3 h
   · exact Ybe.pass (Rn.of h)
   · exact Ybe.brk h
   · exact Ybe.cont h
end
noncomputable def tsQ (B:Bool→Hp→Prop):QS:=fun fl zz σ=>match fl with
 | .ret v=>bvc v fun b=>B b σ
 | z1=>False
section
variable {T:Tp}{d:Nat}{sc:Scope}{X:QX}{ρ:Loc}
theorem Yc9 (TO:Yag T) (ho:Yem sc=true) (_:Nat) (e:Expr) (Q:QE) (σ:Hp) (h:gw T d sc X (Yva Q) 4000 (.ev e [] ρ σ)):Yai T d sc ρ X e Q σ:=(Ycv TO ho (Rn.of h)).mon fun zz zz h=>Rn.un h fun zz h=>h
theorem Yd7 (TO:Yag T) (ho:Yem sc=true) (_ _:Nat) (e:Expr) (B:Bool→Hp→Prop) (σ:Hp) (h:gw T d sc X (tsQ B) 4000 (.ts e [] ρ σ)):Yd1 T d sc ρ X e B σ:=(Ytm TO ho (Rn.of h)).mono fun zz zz h=>Rn.un h fun zz h=>h
theorem Ya5 (TO:Yag T) (ho:Yem sc=true) (_:Nat) (ss:List Stmt) (Q:QS) (ρ:Loc) (σ:Hp) (h:gw T d sc X Q 4000 (.st [ss] ρ σ)):Yda T d sc ρ X ss Q σ:=(Yyf TO ho _ ss (Zs _) [] ρ σ (Rn.of h)).mono (fun fl ρ σ h=>by
 cases fl <;> first | exact h | exact Rn.un h fun zz h=>h) fun zz zz h=>h
end
end
section
noncomputable def Has (ρ:Loc):List (Str×V)→Prop
 | []=>True
 | (k,v)::r=>ρ k=some v∧Has ρ r
noncomputable def Yr9 (ρ:Loc):List (Str×V)→Loc
 | []=>ρ
 | (k,v)::r=>upd (Yr9 ρ r) k (some v)
theorem Has.eq {ρ:Loc}:∀ {kvs:List (Str×V)},Has ρ kvs→Yr9 ρ kvs=ρ:=by
 intro xx
 induction xx with
 | nil =>
   intro z1
   exact rfl
 | cons pp r ih =>
   obtain ⟨k,v⟩:=pp
   intro h
   show upd (Yr9 ρ r) k (some v)=ρ
   rw [ih h.2]
   funext y
   unfold upd
   split
   · next e=>rw [e]; exact h.1.symm
   · rfl
theorem Ykt {T:Tp}{d n:Nat}{sc:Scope}{X:QX}{ρ:Loc}{σ:Hp}{b:Bool}{A B:Hp→Prop}(h:¬ b=true) (q:B σ):blK (gw T d sc X (tsQ fun b σ=>if b then A σ else B σ) (n+1)) [] ρ σ b:=show (if b then A σ else B σ) by rw [if_neg h]; exact q
theorem Yh3 {T:Tp}{d n:Nat}{sc:Scope}{X:QX}{ρ:Loc}{σ:Hp}{b:Bool}{A B:Hp→Prop}(h:b=true) (q:A σ):blK (gw T d sc X (tsQ fun b σ=>if b then A σ else B σ) (n+1)) [] ρ σ b:=show (if b then A σ else B σ) by rw [if_pos h]; exact q
theorem Has.on {P:Loc→Prop}{ρ:Loc}{kvs:List (Str×V)}(h:Has ρ kvs) (k:P (Yr9 ρ kvs)):P ρ:=h.eq▸k
theorem Has.use {ρ:Loc}{kvs:List (Str×V)}(h:Has ρ kvs):∃ r,ρ=Yr9 r kvs:=⟨ρ,h.eq.symm⟩
section
variable {T:Tp}{d:Nat}{sc:Scope}{X:QX}{Q:QE}{σ:Hp}
theorem Yaa.go {x:Str}{ps:List Str}{body:List Stmt}{args:List V}(TO:Yag T) (e:(T.g x).bind (Yxc T.K)=some (ps,body,sc)) (hl:args.length=ps.length)
 (hb:gw T d sc X (Yva Q) 4000 (.st [body] (Ycl (fun zz=>none) ps args) σ)):Yaa T (d+1) X (.glob x) args Q σ:=Zh (Option.bind_eq_some_iff.mp e) fun zz e=>Yaa.fn TO (FnV.glob e.1 (Yei e.2).1) hl (Ya5 TO (Yei e.2).2 0 _ _ _ _ hb)
theorem Ycc.goM {c x:Str}{ps:List Str}{body:List Stmt}{args:List V}(TO:Yag T) (e:(T.m c x).bind (Yxc T.K)=some (ps,body,sc)) (hl:args.length=ps.length)
 (hb:gw T d sc X (Yva Q) 4000 (.st [body] (Ycl (fun zz=>none) ps args) σ)):Ycc T (d+1) X (.mth c x) args Q σ:=Zh (Option.bind_eq_some_iff.mp e) fun zz e=>Ycc.fn TO (FnV.mth e.1 (Yei e.2).1) hl (Ya5 TO (Yei e.2).2 0 _ _ _ _ hb)
theorem Yaa.goM {c x:Str}{ps:List Str}{body:List Stmt}{args:List V}(TO:Yag T) (e:(T.m c x).bind (Yxc T.K)=some (ps,body,sc)) (hl:args.length=ps.length)
 (hb:gw T d sc X (Yva Q) 4000 (.st [body] (Ycl (fun zz=>none) ps args) σ)):Yaa T (d+1) X (.mth c x) args Q σ:=(Ycc.goM TO e hl hb).call
theorem Yaa.goX {x:Str}{ps:List Str}{body:List Stmt}{args:List V}(TO:Yag T) (e:(T.g x).bind (Yxc T.K)=some (ps,body,sc)) (hl:args.length=ps.length)
 (hb:Yda T d sc (Ycl (fun zz=>none) ps args) X body (Yva Q) σ):Yaa T (d+1) X (.glob x) args Q σ:=Zh (Option.bind_eq_some_iff.mp e) fun zz e=>Yaa.fn TO (FnV.glob e.1 (Yei e.2).1) hl hb
theorem Cal.len {v:V}{n:Nat}(e:Ytq σ v=some n) (hn:n < 2 ^ 62) (q:Q (.int n) σ):Cal T d X (.bi "len") [v] Q σ:=⟨Yaa.len e hn q⟩
theorem Cal.lenT {vs:List V}(h:Yqa vs 100=true) (q:Q (.int vs.length) σ):Cal T d X (.bi "len") [.tup vs] Q σ:=.len rfl (Zk (Yfs h) (by decide)) q
theorem Cal.isi {v:V}{ty:String}{b:Bool}(e:Yww σ v ty=some b) (q:Q (.bool b) σ):Cal T d X (.bi "isinstance") [v,.type ty] Q σ:=⟨Yaa.isi e q⟩
theorem Cal.ord {c:Nat}(q:Q (.int c) σ):Cal T d X (.bi "ord") [.str ⟨#[c]⟩] Q σ:=⟨Yaa.ord q⟩
theorem Cal.range {n:Int}(q:Q (.rng n) σ):Cal T d X (.type "range") [.int n] Q σ:=⟨Yaa.range q⟩
theorem Cal.list {v:V}{vs:List V}(e:Yz4 σ v=some vs) (hn:vs.length≤sizeLine) (q:Q (.ref σ.length) (σ++[.list vs])):Cal T d X (.type "list") [v] Q σ:=⟨Yaa.list e hn q⟩
theorem Yav {l:Nat}{vs:List V}(h:σ[l]?=some (.list vs)):Yef σ (.ref l)=some vs:=Yim h
theorem Yk3 {l:Nat}{vs:List V}(h:σ[l]?=some (.list vs)):Yef σ (.rev l vs.length)=some vs.reverse:=(Yim h).trans (if_pos rfl)
theorem Ydw {l:Nat}{vs:List V}(h:σ[l]?=some (.list vs)):Yz4 σ (.ref l)=some vs:=Yim h
theorem Yvv {l:Nat}{vs:List V}(h:σ[l]?=some (.list vs)):Yhg σ (.ref l)=some "list":=Yim h
theorem Yfo {l:Nat}{vs:List V}(h:σ[l]?=some (.list vs)):Yww σ (.ref l) "list" = some true:=by unfold Yww; rw [Yvv h]; rfl
theorem Ycq {l:Nat}{vs:List V}(h:σ[l]?=some (.list vs)) (hl:vs.length < 1000000000):Ydl (.ref l) σ=some (!vs.isEmpty):=(Yim h).trans (if_pos hl)
theorem Ydx {l:Nat}{vs:List V}(h:σ[l]?=some (.list vs)) (hl:vs.length < 1000000000) (h0:vs.isEmpty=false):Ydl (.ref l) σ=some true:=(Ycq h hl).trans (congrArg (fun b=>some (!b)) h0)
theorem Yf5 {vs:List V}{n:Nat}(h:vs.length=n):Ytq σ (.tup vs)=some n:=congrArg some h
theorem Yc7 {x:Str}{n:Nat}(h:x.length=n):Ytq σ (.str x)=some n:=congrArg some h
theorem Yd0 {l n:Nat}{vs:List V}(h:σ[l]?=some (.list vs)) (hn:vs.length=n):Ytq σ (.ref l)=some n:=(Ylm h).trans (congrArg some hn)
theorem Yej {l:Nat}{vs:List V}(h:σ[l]?=some (.list vs)):Ynx σ (.ref l)=some "list":=congrArg Yu3 h
theorem Yak.bi {ov:V}{name:Str}{id ty:String}{K:V→Prop}(h1:Ynx σ ov=some ty) (h2:Ybs ty name id) (k:K (.bi id)):Yak T ov name σ K:=⟨.bi id,.bi h1 h2,k⟩
theorem Yak.append {l:Nat}{vs:List V}{K:V→Prop}(h:σ[l]?=some (.list vs)) (k:K (.bi "list.append")):Yak T (.ref l) "append" σ K:=.bi (Yej h) Ysh k
theorem Yak.pop {l:Nat}{vs:List V}{K:V→Prop}(h:σ[l]?=some (.list vs)) (k:K (.bi "list.pop")):Yak T (.ref l) "pop" σ K:=.bi (Yej h) Y0l k
theorem Yak.extend {l:Nat}{vs:List V}{K:V→Prop}(h:σ[l]?=some (.list vs)) (k:K (.bi "list.extend")):Yak T (.ref l) "extend" σ K:=.bi (Yej h) Yrz k
theorem Yak.clear {l:Nat}{vs:List V}{K:V→Prop}(h:σ[l]?=some (.list vs)) (k:K (.bi "list.clear")):Yak T (.ref l) "clear" σ K:=.bi (Yej h) Yv7 k
theorem Yak.join {x:Str}{K:V→Prop}(k:K (.bi "str.join")):Yak T (.str x) "join" σ K:=.bi (ty:="str") rfl Ywz k
theorem Itm.list {l:Nat}{vs:List V}{k:Int}{j:Nat}{v:V}(e0:σ[l]?=some (.list vs)) (e1:seqIndex? k vs.length=some j) (e2:vs[j]?=some v) (e3:Ys8 k) (q:Q v σ):Itm (.ref l) (.int k) Q σ:=⟨Yy8 e0 e1 e2 e3 q⟩
theorem Cmp.inR {neg r:Bool}{a b:V}(h:InR σ a b r) (q:Q (.bool (neg != r)) σ):Cmp (if neg then .NotIn else .In) a b Q σ:=by
 cases neg
 · exact ⟨r,.isin _ _ _ h,Bool.false_bne r▸q⟩
 · exact ⟨!r,.nin _ _ _ h,Bool.true_bne r▸q⟩
theorem Cmp.inD {k:Str}{l:Nat}{kvs:List (Str×V)}{r:Bool}(h:σ[l]?=some (.sdict kvs)) (e:(kvs.any fun kv=>kv.1=k)=r) (q:Q (.bool r) σ):Cmp .In (.str k) (.ref l) Q σ:=⟨r,.isin _ _ _ (e▸.dict _ _ _ h),q⟩
theorem Cmp.ninD {k:Str}{l:Nat}{kvs:List (Str×V)}{r:Bool}(h:σ[l]?=some (.sdict kvs)) (e:(kvs.any fun kv=>kv.1=k)=r) (q:Q (.bool (!r)) σ):Cmp .NotIn (.str k) (.ref l) Q σ:=⟨_,.nin _ _ _ (e▸.dict _ _ _ h),q⟩
theorem Cmp.eqR {a b:V}{da db:PyData}{r:Bool}(h1:Yep σ da a) (h2:Yep σ db b) (h3:da.depth≤40) (e:PyData.eqv da db=r) (q:Q (.bool r) σ):Cmp .Eq a b Q σ:=⟨r,e▸.eq _ _ _ _ h1 h2 h3,q⟩
theorem Cmp.neR {a b:V}{da db:PyData}{r:Bool}(h1:Yep σ da a) (h2:Yep σ db b) (h3:da.depth≤40) (e:PyData.eqv da db=r) (q:Q (.bool (!r)) σ):Cmp .NotEq a b Q σ:=⟨_,.ne _ _ _ _ h1 h2 h3,e▸q⟩
theorem Cmp.isN {v:V}{r:Bool}(h:Yfz v=some r) (q:Q (.bool r) σ):Cmp .Is v .none Q σ:=⟨r,.isN _ _ h,q⟩
theorem Cmp.notN {v:V}{r:Bool}(h:Yfz v=some r) (q:Q (.bool (!r)) σ):Cmp .IsNot v .none Q σ:=⟨_,.notN _ _ h,q⟩
theorem Bin.cat {s t:Str}(k:s.length+t.length≤sizeLine) (h:Q (.str (s++t)) σ):Bin .Add (.str s) (.str t) Q σ:=⟨_,_,.cat _ _ k,h⟩
theorem Bin.mulr {x y:Int}(k:decide (-(2 ^ 64) < y∧y < 2 ^ 64)=true) (h:Q (.int (x*y)) σ):Bin .Mult (.int x) (.int y) Q σ:=⟨_,_,.mul _ _ (.inr (Zgb k:-(2 ^ 64) < y∧y < 2 ^ 64)),h⟩
theorem Bin.mull {x y:Int}(k:decide (-(2 ^ 64) < x∧x < 2 ^ 64)=true) (h:Q (.int (x*y)) σ):Bin .Mult (.int x) (.int y) Q σ:=⟨_,_,.mul _ _ (.inl (Zgb k:-(2 ^ 64) < x∧x < 2 ^ 64)),h⟩
theorem Ys1.add {Q:QS}{k:List Ko}{ρ:Loc}{n:Nat}{x y z:Int}(e:x+y=z) (h:rtQ (gw T d sc X Q n) k ρ (.int z) σ):rtQ (gw T d sc X Q (n+1)) (.binA .Add (.int x)::k) ρ (.int y) σ:=by subst e; exact h
theorem Bin.lists {l m:Nat}{xs ys:List V}(h1:σ[l]?=some (.list xs)) (h2:σ[m]?=some (.list ys)) (h3:xs.length+ys.length≤sizeLine) (h:Q (.ref σ.length) (σ++[.list (xs++ys)])):Bin .Add (.ref l) (.ref m) Q σ:=⟨_,_,.lists _ _ _ _ h1 h2 h3,h⟩
end
end
section
theorem VRels.take {T:Tp}{ι:Inj}{h:Heap}{vs:List V}{xs:List Value}(k:Nat) (e:VRels T ι h vs xs):VRels T ι h (vs.take k) (xs.take k):=(e.all.take k).vrels
theorem VRels.drop {T:Tp}{ι:Inj}{h:Heap}{vs:List V}{xs:List Value}(k:Nat) (e:VRels T ι h vs xs):VRels T ι h (vs.drop k) (xs.drop k):=(e.all.drop k).vrels
section
variable {T:Tp}{d:Nat}{sc:Scope}{ρ:Loc}{X:QX}{Q:QE}{σ:Hp}
end
theorem Yfd (env:Env) (r:List Stmt):∀ ss:List Stmt,execs (ss++r) env=(execs ss env >>= fun f=>match f with | .next=>execs r env | f=>pure f)
 | []=>by
   rw [List.nil_append,show execs [] env=pure Flow.next from rfl,pure_bind]
 | st::ss=>by
   rw [List.cons_append,execs_cons,execs_cons,bind_assoc]
   congr 1
   funext f
   cases f
   · exact Yfd env r ss
   · exact (pure_bind _ _).symm
   · exact (pure_bind _ _).symm
   · exact (pure_bind _ _).symm
theorem Yda.cutAt {T:Tp}{d:Nat}{sc:Scope}{ρ:Loc}{X:XS}{Q:QS}{σ:Hp}{ss:List Stmt}(k:Nat) (P:Loc→Hp→Prop) (h1:Yda T d sc ρ X (ss.take k) (fun fl ρ' σ'=>match fl with | .next=>P ρ' σ' | fl=>Q fl ρ' σ') σ) (h2:∀ ρ' σ',P ρ' σ'→Yda T d sc ρ' X (ss.drop k) Q σ'):Yda T d sc ρ X ss Q σ:=by
 intro env A fs F ι s hsc I
 rw [← List.take_append_drop k ss,Yfd]
 refine Zhb (Zib (h1 env A fs F ι s hsc I) (fun f s₁ p=>?_) fun zz zz p=>p)
 obtain ⟨fl,ρ',σ',ι',q,r,i,e⟩:=p
 induction r with
 | next=>exact Zib (h2 _ _ q env A fs F ι' s₁ hsc i) (fun zz zz p=>p.trans e) fun zz zz p=>p.trans e
 | brk=>exact Zjb ⟨_,ρ',σ',ι',q,.brk,i,e⟩
 | cont=>exact Zjb ⟨_,ρ',σ',ι',q,.cont,i,e⟩
 | ret r=>exact Zjb ⟨_,ρ',σ',ι',q,.ret r,i,e⟩
end
section
theorem Rep.retag {T:Tp}{ι:Inj}{σ:Hp}{h:Heap}(r:Rep T ι σ h) {k:Nat}(hk:σ[k]?=some (.sdict [])):Rep T ι (σ.set k (.tdict [])) h where
 len:=by simp [r.len]
 big:=r.big
 size:=r.size
 base:=r.base
 objs:=fun l o p e q=>by
   by_cases hl:k=l
   · subst hl
     rw [Zw (Zb.mp hk).1] at e
     cases e
     obtain ⟨h0,rvs,⟨o,es,ep,h1,h2,h3,zz,h5,zz⟩,h7⟩:=r.objs k _ p hk q
     cases rvs with
     | cons=>cases h7
     | nil =>
       refine ⟨h0,[],⟨o,es,ep,h1,h2,h3,?_,fun zz hx=>by simp at hx,List.nodup_nil⟩,.nil⟩
       cases hs:es.toList with
       | nil=>rfl
       | cons=>rw [hs] at h5; cases h5
   · rw [Zi hl] at e
     exact r.objs l o p e q
 fresh:=r.fresh
 apart:=r.apart
theorem Yaa.retag {T:Tp}{d:Nat}{X:QX}{f:V}{args:List V}{Q:QE}{σ:Hp}(h:Yaa T d X f args (fun v σ'=>∃ k,σ'[k]?=some (.sdict [])∧Q v (σ'.set k (.tdict []))) σ):Yaa T d X f args Q σ:=by
 intro A fs ι s fv xs S rf rxs
 refine Zib (h A fs ι s fv xs S rf rxs) (fun x s' p=>?_) fun zz zz p=>p
 obtain ⟨v,σ',ι',⟨k,hk,q⟩,rv,rp,ex,g,o⟩:=p
 exact ⟨v,_,ι',q,rv,rp.retag hk,ex,g,o⟩
section
variable {T:Tp}{d:Nat}{X:QX}{Q:QE}{σ:Hp}
theorem Cmp.pairs {neg:Bool}{k:Str×Int}{l:Nat}{kvs:List ((Str×Int)×V)}(hl:σ[l]?=some (.tdict kvs)) (q:Q (.bool (neg != kvs.any fun kv=>kv.1=k)) σ):Cmp (if neg then .NotIn else .In) (.tup [.str k.1,.int k.2]) (.ref l) Q σ:=.inR (.tdict _ _ _ hl) q
theorem Itm.pair {l:Nat}{k:Str×Int}{kvs:List ((Str×Int)×V)}{v:V}(h1:σ[l]?=some (.tdict kvs)) (h2:(kvs.find? fun kv=>kv.1=k).map (·.2)=some v) (q:Q v σ):Itm (.ref l) (.tup [.str k.1,.int k.2]) Q σ:=⟨⟨v,.tdict _ _ _ _ h1 h2,q⟩⟩
theorem Yas.pair {l:Nat}{k:Str×Int}{kvs:List ((Str×Int)×V)}{v:V}{ρ:Loc}{K:QS}(h1:σ[l]?=some (.tdict kvs)) (h2:kvs.length≤sizeLine) (q:K .next ρ (σ.set l (.tdict (Yb4 kvs k v)))):Yas ρ K v (.ref l) (.tup [.str k.1,.int k.2]) σ:=.pr l k kvs rfl rfl h1 h2 q
end
end
section
section
variable {T:Tp}{d:Nat}{sc:Scope}{ρ:Loc}{X:QX}{Q:QE}{σ:Hp}
theorem Cal.isiInt {i:Int}(q:Q (.bool true) σ):Cal T d X (.bi "isinstance") [.int i,.type "int"] Q σ:=⟨.b2 rfl fun S r r2=>by
 rw [Yau.type_inv r2]; obtain ⟨t,rfl⟩:=r.int_inv
 exact IsiPair.int_int (S.post0 q .bool_mk)⟩
theorem Cal.isiNo {i:Int}(q:Q (.bool false) σ):Cal T d X (.bi "isinstance") [.int i,.type "bool"] Q σ:=⟨.b2 rfl fun S r r2=>by
 rw [Yau.type_inv r2]; obtain ⟨t,rfl⟩:=r.int_inv
 exact IsiPair.int_bool (S.post q .bool_mk _)⟩
end
section
variable {T:Tp}{A:Around}{fs:List Env}{d:Nat}{env:Env}{F:List Addr}{ι:Inj}{s:Shared}{ρ:Loc}{σ:Hp}{sc:Scope}{X:QX}{Q:QE}
theorem Yly (x:Str):(Builtin.Str.strSliceIndices none none (-1) x.length).filterMap (x.cps[·]?)=x.cps.toList.reverse:=by
 rw [picked_rev,PySem.W.krv_range,List.filterMap_reverse]
 exact congrArg List.reverse (PySem.W.krv_all x.cps)
theorem Yai.revStr {value st:Expr}{p pos:Pos}(ht:∀ o r,letTemporaryGo value o r=pure ())
   (h:Yai T d sc ρ X value (fun o σ₁=>Yai T d sc ρ X st (fun k σ₂=>k=.int (-1)∧∃ x:Str,o=.str x∧x.length≤sizeLine∧Q (.str ⟨x.cps.toList.reverse.toArray⟩) σ₂) σ₁) σ) :
   Yai T d sc ρ X (.Subscript value (.Slice Option.none Option.none (some st) p) pos) Q σ:=by
 intro env A fs F ι s hsc I
 refine wpAny_Subscript_Slice_step (T:="str") PySem.F.slot_str_getitem.lookup (Zib (h env A fs F ι s hsc I) (fun o s₁ p=>?_) fun zz zz p=>p) ht
 obtain ⟨v,σ₁,ι₁,q,rv,rp,ex,g,oo⟩:=p
 have I₁:=I.ext ex rp g oo
 refine wpAny_Slice ?_
 rw [evalPart_none,evalPart_some]
 refine Zjb (Zjb (Zib (q env A fs F ι₁ s₁ hsc I₁) (fun k s₂ p=>?_) fun zz zz p=>p.trans ex))
 obtain ⟨kv,σ₂,ι₂,⟨rfl,x,rfl,hx,q⟩,rk,rp2,ex2,g2,o2⟩:=p
 obtain ⟨t,rfl⟩:=rv.str_inv
 obtain ⟨u,rfl⟩:=rk.int_inv
 refine ⟨typeIs_str _ x t,wpAny_getItem_str_slice (l:=Option.none) (u:=Option.none) (st:=some (-1,u)) ⟨_,Zsc _ rfl,rfl,rfl⟩ rfl ?_⟩
 have e:sliceMade x t Option.none Option.none (some (-1,u))=.str ⟨x.cps.toList.reverse.toArray⟩:=by
   rw [← Yly x]; rfl
 rw [e]
 have I₂:=I₁.ext ex2 rp2 g2 o2
 have ep:=Ext.push T [] ι₂ s₂.heap { cls:=.type "slice",data:=.fields #[.none,.none,.int (-1) u] }
 exact ⟨by simpa [Str.length] using hx,_,σ₂,ι₂,q,.str_mk,I₂.rep.push _,ex.trans (ex2.trans ep),I₂.gens,I₂.os⟩
end
end
section
section
variable {prog:Program}{w:World}{A:Around}{E:Value→Shared→Prop}{s:Shared}
theorem Yp5 (b n:Nat) (hb:b≤n):Builtin.Slice.sliceAdjust none (some (b:Int)) 1 (n:Int)=(0,(b:Int)):=by
 unfold Builtin.Slice.sliceAdjust
 have h1:¬ ((1:Int) < 0):=by decide
 have h2:¬ ((b:Int) < 0):=Int.not_lt.mpr (Zvc b)
 simp only [h1,h2,if_false]
 congr 1
 omega
theorem Yl8 {sl:Addr}{b n:Nat}{u:Tok}{Q:Int×Int×Nat→Shared→Prop}(hs:s.heap.IsSliceOf sl .none (.int b u) .none) (hb:b≤n) (h:Q (0,1,b) s):wpAny (model prog w) A (Builtin.Slice.sliceApplied (.ref sl) (pure (n:Int))) Q E s:=by
 refine hs.elim fun o h9=>Ygi h9 fun ho zz hd=>?_
 unfold Builtin.Slice.sliceApplied Builtin.Slice.sliceFields
 refine Zhb (Zhb (wpAny_field ho hd (x:=.none) rfl (Zhb (wpAny_field ho hd (x:=.int b u) rfl (Zhb (wpAny_field ho hd (x:=.none) rfl (Zjb ?_)))))))
 refine Zhb (slicePart_none ?_)
 show wpAny _ _ (if ((1:Int) == 0)=true then _ else _) _ _ s
 rw [if_neg (by decide)]
 refine Zhb (slicePart_none (Zhb (slicePart_int (Zhb (Zjb ?_)))))
 show wpAny _ _ (match Builtin.Slice.sliceAdjust none (some (b:Int)) 1 (n:Int) with | (lo,hi)=>pure (lo,(1:Int),Builtin.Slice.slicePlaces lo hi 1)) _ _ s
 rw [Yp5 b n hb]
 show wpAny _ _ (pure ((0:Int),(1:Int),Builtin.Slice.slicePlaces ((0:Nat):Int) (b:Int) 1)) _ _ s
 rw [places_from 0 b (Zkb b)]
 exact Zjb h
theorem Yus {t sl:Addr}{items:Array Value}{b:Nat}{u:Tok}{Q:Value→Shared→Prop}(ht:IsTup s.heap t items) (hs:s.heap.IsSliceOf sl .none (.int b u) .none) (hb:b < items.size)
   (h:Q (.ref s.heap.objs.size) { s with heap:=s.heap.push { cls:=.type "tuple",data:=.seq (items.toList.take b).toArray } })
   (hsz:items.size≤sizeLine):wpAny (model prog w) A (getItem (.ref t) (.ref sl)) Q E s:=by
 have hcut:sizeOk (.seq (items.toList.take b).toArray):=by
   show (items.toList.take b).toArray.size≤sizeLine
   rw [List.size_toArray,List.length_take,Array.length_toList]
   exact Za (Nat.min_le_right ..) hsz
 have hTs:s.TypeIs (.ref sl) "slice":=by obtain ⟨o,ho,hc,zz⟩:=hs; exact ⟨o,ho,hc⟩
 have pk:((List.range b).filterMap fun (k:Nat)=>items[((0:Int)+(k:Int)*1).toNat]?).toArray=(items.toList.take b).toArray:=by
   have:=pick_run items 0 b
   rw [List.filterMap_map,List.drop_zero] at this
   rw [← this]
   congr 2
   funext k
   show items[((0:Int)+(k:Int)*1).toNat]?=items[0+k]?
   congr 1; omega
 unfold getItem
 try with_reducible refine wpAny_holding ?_
 first | refine Zhb (Zjb ?_) | skip
 refine Zhb (wpAny_sequenceKey ht.typeIs (by decide) ?_)
 refine Zhb (wpAny_callSpecial?_slot (name:=Str.ofString "__getitem__") ht.typeIs slot_tuple_getitem
   (wpAny_call_entry slot_tuple_getitem ht.typeIs entry_tuple_getitem ?_ (args_tuple_getitem _ _)))
 show wpAny _ _ (Builtin.Tuple.tupleItemsOf (.ref t) >>= _) _ _ s
 refine Zhb (tupleItemsOf_ ht ?_)
 refine Zhb (wpAny_typeOf hTs ?_)
 rw [if_pos (by decide)]
 refine Zhb (Yl8 hs (Zq hb) ?_)
 have hno:¬ (((0:Int) == 0 && (1:Int) == 1 && b == items.size)=true):=by
   have:(b == items.size)=false:=Zmc.mpr (Znc hb)
   rw [this]; decide
 show wpAny _ _ (if ((0:Int) == 0 && (1:Int) == 1 && b == items.size)=true then _ else _) _ _ s
 rw [if_neg hno,pk]
 first
   | exact Zhb (m:=Builtin.Tuple.tupleExact _) (wpAny_newObj_type (Zjb ⟨_,rfl,Zjb h⟩) hcut)
   | exact Zhb (m:=Builtin.Tuple.tupleExact _) (wpAny_newObj_type (Zhb (Zjb (Zjb ⟨_,rfl,Zjb h⟩))) hcut)
   | exact Zhb (Zhb (m:=Builtin.Tuple.tupleExact _) (wpAny_newObj_type (Zjb (Zjb ⟨_,rfl,Zjb h⟩)) hcut))
   | exact Zhb (Zhb (m:=Builtin.Tuple.tupleExact _) (wpAny_newObj_type (Zjb ⟨_,rfl,Zjb h⟩) hcut))
end
inductive TSl (f:List V→Nat→List V) (o i:V) (Q:QE) (σ:Hp):Prop where
 | mk (vs:List V) (k:Nat) (h0:o=.tup vs) (h1:i=.int k) (h2:1≤k) (h3:k < vs.length) (h4:vs.length≤sizeLine) (q:Q (.tup (f vs k)) σ):TSl f o i Q σ
section
variable {T:Tp}{d:Nat}{sc:Scope}{ρ:Loc}{X:QX}{Q:QE}{σ:Hp}
theorem Yai.tupTo {x:Str}{np p pos:Pos}{e:Expr}(h:Yai T d sc ρ X (.Name x np) (fun o σ₁=>Yai T d sc ρ X e (fun i σ₂=>TSl (fun vs k=>vs.take k) o i Q σ₂) σ₁) σ) :
   Yai T d sc ρ X (.Subscript (.Name x np) (.Slice Option.none (some e) Option.none p) pos) Q σ:=by
 intro env A fs F ι s hsc I
 refine wpAny_Subscript_Slice (T:="tuple") PySem.F.slot_tuple_getitem.lookup (Zib (h env A fs F ι s hsc I) (fun o s₁ p=>?_) fun zz zz p=>p) (fun zz zz=>rfl)
 obtain ⟨v,σ₁,ι₁,q,rv,rp,ex,g,oo⟩:=p
 have I₁:=I.ext ex rp g oo
 refine wpAny_Slice ?_
 rw [evalPart_none,evalPart_some]
 refine Zjb (Zib (q env A fs F ι₁ s₁ hsc I₁) (fun y s₂ p=>?_) fun zz zz p=>p.trans ex)
 obtain ⟨v₂,σ₂,ι₂,⟨vs,k,rfl,rfl,h2,h3,h4,q2⟩,rv₂,rp₂,ex₂,g₂,o₂⟩:=p
 have I₂:=I₁.ext ex₂ rp₂ g₂ o₂
 obtain ⟨a,items,n,rfl,ht,hv⟩:=(rv.mono ex₂.mono).tup_inv
 obtain ⟨t,rfl⟩:=rv₂.int_inv
 have hlen:=hv.length
 rw [Array.length_toList] at hlen
 have ep:=Ext.push T [] ι₂ s₂.heap { cls:=.type "slice",data:=.fields #[.none,.int k t,.none] }
 have I₃:Inv T A fs d env F ρ ι₂ σ₂ { s₂ with heap:=s₂.heap.push { cls:=.type "slice",data:=.fields #[.none,.int k t,.none] } }:=I₂.ext ep (rp₂.push _) I₂.gens I₂.os
 have hT:IsTup (s₂.heap.push { cls:=.type "slice",data:=.fields #[.none,.int k t,.none] }) a items:=⟨_,Zx _ ht,rfl,n,rfl⟩
 refine Zjb ⟨hT.typeIs,Yus hT (Heap.IsSliceOf.new ..) (hlen.symm▸h3) ?_ (hlen.symm▸h4)⟩
 exact (I₃.st.newTup (Q:=Q) (items:=(items.toList.take k).toArray) (F:=[]) (by simpa using (hv.mono ep.mono).take k) q2 (t:=s₂.toks)).trans (ex.trans (ex₂.trans ep))
theorem Yai.tupFrom {x:Str}{np p pos:Pos}{e:Expr}(h:Yai T d sc ρ X (.Name x np) (fun o σ₁=>Yai T d sc ρ X e (fun i σ₂=>TSl (fun vs k=>vs.drop k) o i Q σ₂) σ₁) σ) :
   Yai T d sc ρ X (.Subscript (.Name x np) (.Slice (some e) Option.none Option.none p) pos) Q σ:=by
 intro env A fs F ι s hsc I
 refine wpAny_Subscript_Slice (T:="tuple") PySem.F.slot_tuple_getitem.lookup (Zib (h env A fs F ι s hsc I) (fun o s₁ p=>?_) fun zz zz p=>p) (fun zz zz=>rfl)
 obtain ⟨v,σ₁,ι₁,q,rv,rp,ex,g,oo⟩:=p
 have I₁:=I.ext ex rp g oo
 refine wpAny_Slice ?_
 rw [evalPart_some]
 refine Zib (q env A fs F ι₁ s₁ hsc I₁) (fun y s₂ p=>?_) fun zz zz p=>p.trans ex
 obtain ⟨v₂,σ₂,ι₂,⟨vs,k,rfl,rfl,h2,h3,h4,q2⟩,rv₂,rp₂,ex₂,g₂,o₂⟩:=p
 have I₂:=I₁.ext ex₂ rp₂ g₂ o₂
 obtain ⟨a,items,n,rfl,ht,hv⟩:=(rv.mono ex₂.mono).tup_inv
 obtain ⟨t,rfl⟩:=rv₂.int_inv
 have hlen:=hv.length
 rw [Array.length_toList] at hlen
 have ep:=Ext.push T [] ι₂ s₂.heap { cls:=.type "slice",data:=.fields #[.int k t,.none,.none] }
 have I₃:Inv T A fs d env F ρ ι₂ σ₂ { s₂ with heap:=s₂.heap.push { cls:=.type "slice",data:=.fields #[.int k t,.none,.none] } }:=I₂.ext ep (rp₂.push _) I₂.gens I₂.os
 have hT:IsTup (s₂.heap.push { cls:=.type "slice",data:=.fields #[.int k t,.none,.none] }) a items:=⟨_,Zx _ ht,rfl,n,rfl⟩
 refine Zjb (Zjb ⟨hT.typeIs,getItem_tuple_from hT (Heap.IsSliceOf.new ..) h2 (hlen.symm▸Zq h3) ?_ (hlen.symm▸h4)⟩)
 exact (I₃.st.newTup (Q:=Q) (items:=(items.toList.drop k).toArray) (F:=[]) (by simpa using (hv.mono ep.mono).drop k) q2 (t:=s₂.toks)).trans (ex.trans (ex₂.trans ep))
theorem Yda.retag {X:XS}{Q:QS}{ss:List Stmt}{k:Nat}(hk:σ[k]?=some (.sdict [])) (h:Yda T d sc ρ X ss Q (σ.set k (.tdict []))):Yda T d sc ρ X ss Q σ :=
 fun env A fs F ι s hsc I=>h env A fs F ι s hsc ⟨I.rep.retag hk,I.aok,I.frm,I.top,I.gens,I.os⟩
theorem Yaa.retagI {f:V}{args:List V}{k:Nat}(hk:σ[k]?=some (.sdict [])) (h:Yaa T d X f args Q (σ.set k (.tdict []))):Yaa T d X f args Q σ :=
 fun A fs ι s fv xs S rf rxs=>h A fs ι s fv xs ⟨S.rep.retag hk,S.aok,S.gens,S.os⟩ rf rxs
end
end
section
section
variable {T:Tp}{d:Nat}{X:QX}{Q:QE}{σ:Hp}
theorem Cal.intB {b:Bool}(q:Q (.int (if b then 1 else 0)) σ):Cal T d X (.type "int") [.bool b] Q σ:=⟨.b1 rfl fun S r=>by
 rw [r.bool_inv]
 exact call_int_bool (S.post q .int_mk _)⟩
end
section
variable {prog:Program}{w:World}{K:Type}[DecidableEq K] {knd:HeapKind prog w K}{A:Around}{E:Value→Shared→Prop}{s:Shared}
end
section
variable {T:Tp}{d:Nat}{X:QX}{Q:QE}{σ:Hp}
end
end
section
open PySem PySem.Calls PyProof.Rows PySem.SeqAt PySem.W
section
variable {prog:Program}{w:World}{A:Around}{E:Value→Shared→Prop}{s:Shared}{d it:Addr}{es:Array DictEntry}{ep i:Nat}
noncomputable def Yph (h:Heap) (d:Addr) (es:Array DictEntry) (ep:Nat):Prop:=∃ o,h.get? d=some o∧o.cls=.type "dict" ∧ o.data=.dict es ep
theorem Yph.at' {h h':Heap}(x:Yph h d es ep) (e:∀ o,h.get? d=some o→h'.get? d=some o):Yph h' d es ep:=by
 obtain ⟨o,ho,r⟩:=x; exact ⟨o,e _ ho,r⟩
theorem Yph.typeIs (x:Yph s.heap d es ep):s.TypeIs (.ref d) "dict":=by
 obtain ⟨o,ho,hc,zz⟩:=x; exact ⟨o,ho,hc⟩
theorem Yrq {Q:Value→Shared→Prop}(hd:(d == sysModules)=false) (hm:Yph s.heap d es ep)
   (hQ:Q (.ref s.heap.objs.size) { s with heap:=s.heap.push { cls:=.type "dict_keyiterator",data:=.fields #[.ref d,.int 0 0,.int es.size 0,.int ep 0] } }) :
   wpAny (model prog w) A (pyIter (.ref d)) Q E s:=by
 have hT:=hm.typeIs
 obtain ⟨o,ho,hc,hdat⟩:=hm
 refine wpAny_pyIter_slot hT F.slot_dict_iter (wpAny_call_entry F.slot_dict_iter hT F.entry_dict_iter ?_ (F.args_dict_iter_1 _))
 unfold Builtin.«dict.__iter__» Builtin.Dict.dictSlotNone
 refine Zhb (Zhb (wpAny_notOrdered_dict hT (Zjb ?_)))
 show wpAny _ _ (Builtin.Dict.showsAll d >>= _) _ _ s
 unfold Builtin.Dict.showsAll
 rw [if_neg (by rw [hd]; exact Zv)]
 refine Zhb (Zjb (Zhb (wpAny_dictEntries ho hdat (Zhb (wpAny_dictEpoch ho hdat ?_)))))
 exact Zhb (wpAny_newObj_type (Zjb ⟨_,rfl, "dict_keyiterator",_,⟨_,Zsc _ rfl,rfl⟩,F.slot_dict_keyiterator_next.lookup,hQ⟩))
theorem Ylf {Q:Option Value→Shared→Prop}(hh:A.handled=none) (hit:s.heap.IsKeyIter it d i es.size ep) (hm:Yph s.heap d es ep)
   (hQ:∀ e h',es[i]?=some e→h'.IsKeyIter it d (i+1) es.size ep→Heap.SameBut it s.heap h'→Q (some e.key) { s with heap:=h' })
   (hE:es.size≤i→∀ h',Heap.ExtBut it s.heap h'→Q none { s with heap:=h' }):wpAny (model prog w) A (pyNext (.ref it)) Q E s:=by
 have hT:=hit.typeIs
 obtain ⟨o,ho,hc,hd⟩:=id hit
 obtain ⟨od,hod,hcd,hdd⟩:=hm
 unfold pyNext
 refine Zhb (wpAny_attempt (wpAny_callSpecial?_slot (name:=Str.ofString "__next__") hT F.slot_dict_keyiterator_next
   (wpAny_call_entry F.slot_dict_keyiterator_next hT F.entry_dict_keyiterator_next ?_ (F.args_dict_keyiterator_next_1 _))))
 refine Zhb (Zjb ?_)
 refine Zhb ?_
 refine Zhb ?_
 first | refine Zhb (wpAny_typeNameOfWhole_keyiter hT (Zjb ?_)) | refine Zhb (wpAny_typeNameOf_keyiter hT (Zjb ?_))
 refine Zhb (wpAny_fieldsOf ho hd ?_)
 have hown:Builtin.Dict_items.ownsTuple "dict_keyiterator" = false:=by decide
 rw [hown]
 show wpAny _ _ (if (Value.ref d == Value.none)=true then _ else _) _ _ s
 rw [if_neg (show ¬ ((Value.ref d == Value.none)=true) from Zv)]
 refine Zhb (Zjb (Zhb (wpAny_dictEntries hod hdd ?_)))
 rw [if_neg (by simp)]
 refine Zhb (Zjb (Zhb (wpAny_dictEpoch hod hdd ?_)))
 rw [if_neg (by simp)]
 refine Zjb ?_
 by_cases hlt:i < es.size
 · have hx:es[i]?=some es[i]:=Array.getElem?_eq_getElem hlt
   dsimp only
   rw [if_neg (show ¬ ((i:Int) < 0) from Int.not_lt.mpr (Zvc i)),Zzc,hx]
   refine Zhb ?_
   first | refine Zhb (wpAny_typeNameOfWhole_keyiter hT (Zjb ?_)) | refine Zhb (wpAny_typeNameOf_keyiter hT (Zjb ?_))
   refine Zhb (wpAny_isOneOf_keyiter hT ?_)
   show wpAny _ _ (setField (.ref it) 1 (rawInt ((i:Int)+1)) >>= _) _ _ s
   refine Zhb (wpAny_setField ho hd (by simp) ?_)
   have hit':(s.heap.update it (Obj.mapFields (·.setIfInBounds 1 (rawInt ((i:Int)+1))))).IsKeyIter it d (i+1) es.size ep :=
     ⟨_,Heap.get?_update_self _ ho (Obj.isFreed_of_fields (Obj.data_mapFields hd _)),(Obj.cls_mapFields ..).trans hc,by rw [Obj.data_mapFields hd]; simp [rawInt]⟩
   refine Zhb (wpAny_holding ?_)
   refine Zhb (wpAny_isOneOf_keyiter (s:={ s with heap:=s.heap.update it (Obj.mapFields (·.setIfInBounds 1 (rawInt ((i:Int)+1)))) }) hit'.typeIs ?_)
   show wpAny _ _ (pure es[i].key) _ _ _
   exact Zjb (Zjb ⟨_,rfl,Zjb (hQ _ _ hx hit' (Heap.SameBut.update ..))⟩)
 · have hge:es.size≤i:=Zo.mp hlt
   dsimp only
   rw [if_neg (show ¬ ((i:Int) < 0) from Int.not_lt.mpr (Zvc i)),Zzc,Array.getElem?_eq_none hge]
   refine Zhb ?_
   first | refine Zhb (wpAny_typeNameOfWhole_keyiter hT (Zjb ?_)) | refine Zhb (wpAny_typeNameOf_keyiter hT (Zjb ?_))
   show wpAny _ _ (setField (.ref it) 0 .none >>= _) _ _ s
   refine Zhb (wpAny_setField ho hd (by simp) ?_)
   show wpAny _ _ (newExc (.type "StopIteration") [] >>= _) _ _ _
   refine Zhb ?_
   unfold newExc newTuple
   refine Zhb (wpAny_newObj_type ?_ (by size_fits))
   refine Zhb (m:=firstArgMember _ _) (wpAny_of_eq (a:=Value.none) (by first | rfl | (simp only [firstArgMember]; rfl)) ?_)
   refine wpAny_newObj_type ?_ (by size_fits)
   unfold raiseNew
   refine Zhb (wpAny_handled ?_)
   rw [show A.in1.handled=none from hh]
   refine Zhb (Zjb (wpAny_throw ?_))
   refine Zhb (wpAny_isInstance (T:="StopIteration") (b:=true) ⟨_,Zsc _ rfl,rfl⟩ isSubtype_stop ?_)
   exact Zjb (hE hge _ (((Heap.SameBut.update ..).extBut.push _).push _))
theorem Ym8 (hh:A.handled=none) (I d:Addr) (hne:d≠I) (es:Array DictEntry) (ep:Nat) :
   Walks prog w A I [I,d] [I] es.size (fun i v=>∃ e,es[i]?=some e∧v=e.key) (fun i h=>h.IsKeyIter I d i es.size ep∧Yph h d es ep) where
 sub:=fun b hb=>by simp at hb; simp [hb]
 frame:=fun _ _ _ st hk=>⟨st.1.at fun o e=>hk I (by simp) o e,st.2.at' fun o e=>hk d (by simp) o e⟩
 item:=fun i s Q E hi st hQ=>Ylf hh st.1 st.2 (fun e h' he hit' hs'=>hQ e.key h' s.toks ⟨e,he,rfl⟩ ⟨hit',st.2.at' fun o e=>hs'.extBut d o hne e⟩ fun b o hb e=>hs'.extBut b o (fun h=>hb (by simp [h])) e) fun h=>absurd hi (Zo.mpr h)
 done:=fun s Q E st hQ=>Ylf hh st.1 st.2 (fun e h' he=>absurd (Array.getElem?_eq_some_iff.mp he).1 (Zub _)) fun zz h' he'=>hQ h' s.toks fun b o hb e=>he' b o (fun h=>hb (by simp [h])) e
 self:=fun _ _ _ _ st hQ=>wpAny_pyIter_keyiter st.1 hQ
theorem Yv2 (lo:(d == sysModules)=false):KdlSrc prog w "dict" d d es.size (fun i v=>∃ e,es[i]?=some e∧v=e.key) (fun h=>Yph h d es ep) where
 type:=fun _ hm=>hm.typeIs
 there:=fun h hm=>by obtain ⟨o,ho,zz⟩:=hm; exact ⟨Zu ho,Zu ho⟩
 keep:=fun _ _ hm hk=>hm.at' fun o e=>hk d (.inl rfl) o e
 notList:=by decide
 notTuple:=by decide
 hint:=fun _ _ _ _ hm hq=>kdl_hint_dict hm.typeIs hq
 iter:=fun A s hh hm=>⟨_,_,(fun _ _ hq=>Yrq lo hm hq),Ym8 hh _ d (by obtain ⟨o,ho,zz⟩:=hm; exact Znc (Zu ho)) es ep,⟨⟨_,Zsc _ rfl,rfl,rfl⟩,hm.at' fun o e=>Zx _ e⟩⟩
end
section
variable {T:Tp}{d:Nat}{X:QX}{Q:QE}{σ:Hp}
noncomputable def kvT (k:Str×Int):V:=.tup [.str k.1,.int k.2]
theorem Ya7.rel {ι:Inj}{h:Heap}{k:Str×Int}{a:Addr}(x:Ya7 h k a):Yau T ι h (kvT k) (.ref a):=by
 obtain ⟨o,t,u,n,ho,⟨h1,h2,h3⟩,hd⟩:=x
 refine ⟨a,#[.str k.1 t,.int k.2 u],n,rfl,?_,VRels.cons_iff.mpr ⟨_,_,rfl,.str_mk,VRels.cons_iff.mpr ⟨_,_,rfl,.int_mk,VRels.nil_iff.mpr rfl⟩⟩⟩
 refine ho.trans (congrArg some (show Obj.mk o.cls o.dict o.data o.slots=_ from ?_))
 rw [h1,h2,h3,hd]
theorem Yqo {ι:Inj}{h:Heap}{xs:List ((Str×Int)×Addr×Value)}(hk:∀ x∈xs,Ya7 h x.1 x.2.1):VRels T ι h (xs.map fun x=>kvT x.1) (xs.map fun x=>Value.ref x.2.1):=by
 induction xs with
 | nil=>exact VRels.nil_iff.mpr rfl
 | cons x r ih=>exact VRels.cons_iff.mpr ⟨_,_,rfl,(hk x (Zt ..)).rel,ih fun y hy=>hk y (Zd _ hy)⟩
theorem Yaa.listT {l:Nat}{kvs:List ((Str×Int)×V)}(h:σ[l]?=some (.tdict kvs)) (hn:kvs.length≤sizeLine) (q:Q (.ref σ.length) (σ++[.list (kvs.map fun kv=>kvT kv.1)])) (hT:T.hd=false:=by rfl):Yaa T d X (.type "list") [.ref l] Q σ:=.b1 rfl fun {A fs ι s x} S r=>by
 obtain ⟨a,d1,rfl,hla⟩:=r.ref_inv
 obtain ⟨xa,da,ra,na⟩:=S.rep.tdict_at h hla
 obtain ⟨o,es,ep,ho,hc,hd,he,hi,zz⟩:=da
 have hz:es.size=xa.length:=size_of_entries he
 have hl:xa.length=kvs.length:=ra.length
 refine Zib (Ybo (kdl_call (Yv2 (es:=es) (ep:=ep) na) (S.aok.hd hT) ⟨o,ho,hc.1,hd⟩ (by rw [hz,hl]; exact hn) (Q:=fun y s'=>y=.ref s.heap.objs.size∧∃ h' tk acc c',s'={ s with heap:=h',toks:=tk }∧(∀ b o',s.heap.get? b=some o'→h'.get? b=some o')∧h'.get? s.heap.objs.size=some { cls:=.type "list",dict:=Option.none,data:=.seq acc c',slots:=#[] }∧ItemsOf (fun i v=>∃ e,es[i]?=some e∧v=e.key) acc es.size) fun h' tk acc c' k g hI=>⟨rfl,h',tk,acc,c',rfl,k,g,hI⟩)) (fun y s' p=>?_) fun zz zz p=>p.1
 obtain ⟨⟨rfl,h',tk,acc,c',rfl,k,g,hI⟩,hzz⟩:=p
 have e1:acc.toList=xa.map fun x=>Value.ref x.2.1:=by
   apply List.ext_getElem?
   intro j
   rw [Zdb,Array.getElem?_toList]
   cases hj:acc[j]? with
   | none =>
     have:=Array.getElem?_eq_none_iff.mp hj
     rw [hI.1,hz] at this
     rw [Zrb this]; rfl
   | some v =>
     obtain ⟨e,q1,q2⟩:=hI.2 j v hj
     rw [entry_at he j] at q1
     obtain ⟨x,q3,q4⟩:=Zpb.mp q1
     rw [q3,q2,← q4]; rfl
 have e2:(kvs.map fun kv=>kvT kv.1)=xa.map fun x=>kvT x.1:=by
   have:=congrArg (List.map kvT) ra.keys
   rw [List.map_map,List.map_map] at this
   exact this.symm
 exact S.madeList (t:=tk) hzz k g (by rw [e1,e2]; exact Yqo hi) q
theorem Cal.listT {l:Nat}{kvs:List ((Str×Int)×V)}(h:σ[l]?=some (.tdict kvs)) (hn:kvs.length≤sizeLine) (q:Q (.ref σ.length) (σ++[.list (kvs.map fun kv=>kvT kv.1)])) (hT:T.hd=false:=by rfl):Cal T d X (.type "list") [.ref l] Q σ:=⟨Yaa.listT h hn q hT⟩
end
section
variable {T:Tp}{d:Nat}{sc:Scope}{ρ:Loc}{X:XS}{Q:QS}{σ:Hp}
theorem Ycw.plain {c x:Str}{np pos:Pos}{b₀:Stmt}{body:List Stmt}{rest:List ExceptHandler}{C D:Addr}(TO:Yag T) (hg:T.gv x=some (.glob x)) (hk:sc.names.lookup x=some .globalImplicit) (ho:Yem sc=true) (hc:T.c c=some C) (hd:T.c x=some D)
   (hm:Yk0 T.K C D true=true) (h:∀ ρ,Yda (T.at true) d sc ρ (fun zz zz=>False) (b₀::body) (fun fl zz σ'=>∀ ρ',Q fl ρ' σ') σ) :
   Ycw T d sc X (.ExceptHandler (some (.Name x np)) Option.none (b₀::body) pos::rest) c Q σ:=by
 intro env A fs F ρ ι s ea ι₀ h₀ hsc I f hn hb e
 subst hsc
 refine wpAny_handleBy_cons (codeAny_handlers_test (Yk8 I TO hg hk ho hd ?_)) (by intro q; cases q)
 refine f.fly.at hc fun oe vs f1 f2 f3 f4 f5 f7=>?_
 obtain ⟨hh,g,dr,t,os⟩:=s
 refine Yf1 (TO.X0.keeps I.rep.base) hm f3 f4 ?_
 refine codeAny_handlers_suite ?_
 refine Ydh (S:=frs fs) f fun h'' tt f'=>?_
 have hle:h₀.objs.size≤ea:=f2
 have I₂:=I.touch tt f.fly hn hb hle
 have e₂:Ext T F ι₀ h₀ ι h'':=e.touch tt (fun a ha=>(by obtain ⟨_,_,o,_,_,g,gc,_⟩:=I.aok.mem ha; exact ⟨o,g,gc⟩)) hle
 refine f'.fly.at hc fun oe vs g1 g2 g3 g4 g5 g7=>?_
 have hx:Yb2 (A.mark (some (.ref ea))) ι h'':=fun v q=>by
   have:v=.ref ea:=(Zab q).symm
   subst this
   exact ⟨ea,oe,C,vs,rfl,g3,g4,g5,g7,hn⟩
 have I₃:Inv (T.at true) (A.mark (some (.ref ea))) fs d env F ρ ι σ ⟨h'',g,dr,t,os⟩:=⟨I₂.rep.at,⟨I₂.aok.frames,fun e he=>(I₂.aok.funs e he).at,I₂.aok.depth,I₂.aok.units,fun q=>(by cases q),hx⟩,I₂.frm.at,I₂.top,I₂.gens,I₂.os⟩
 refine Zib (h ρ env _ fs F ι _ rfl I₃) (fun fl s₅ p=>?_) fun z s₅ p=>?_
 · obtain ⟨fl',ρ',σ',ι',q,r,I₅,e₅⟩:=p
   have hA:A.handled=none:=I.aok.hd f1
   have IT:Inv T A fs d env F ρ' ι' σ' s₅ :=
     ⟨I₅.rep.at (b:=T.hd),⟨I₅.aok.frames,fun e he=>(I₅.aok.funs e he).at (b:=T.hd),I₅.aok.depth,I₅.aok.units,fun zz=>hA,.none hA⟩,I₅.frm.at (b:=T.hd),I₅.top,I₅.gens,I₅.os⟩
   exact ⟨fl',ρ',σ',ι',q ρ',(show Yid ((T.at true).at T.hd) ι' s₅.heap fl' fl from r.imp fun zz zz r=>r.at),IT,e₂.trans (e₅.at (b:=T.hd))⟩
 · obtain ⟨zz,zz,zz,zz,zz,zz,q,zz⟩:=p
   exact q.elim
end
end
section
open PySem PySem.Calls PyProof.Rows PySem.SeqAt PySem.W
section
variable {prog:Program}{w:World}{A:Around}{E:Value→Shared→Prop}{s:Shared}{d:Addr}{es:Array DictEntry}{ep:Nat}
theorem Yo1 (hd:(d == sysModules)=false):MeetsIn prog w (Builtin.«dict.__len__» ⟨[.ref d],[]⟩) (fun _ R s=>Yph s.heap d es ep∧R (.ok (.ret (.int es.size s.toks))) { s with toks:=s.toks+1 }) :=
 .of_wp fun A R s hm=>by
   obtain ⟨⟨o,ho,hc,hdat⟩,h⟩:=hm
   show wpAny _ _ (dictSize d >>= _) _ _ s
   unfold dictSize
   refine Zhb (Zhb (wpAny_dictEntries ho hdat (Zjb ?_)))
   show wpAny _ _ (Builtin.Dict.pendingCount d >>= _) _ _ s
   refine Zhb (wpAny_pendingCount_other hd ?_)
   exact wpAny_ret_mkInt h
theorem Yi0 {Q:Value→Shared→Prop}(hd:(d == sysModules)=false) (hm:Yph s.heap d es ep) (hfit:(es.size:Int) < 2 ^ 63) (h:Q (.int es.size (s.toks+1)) { s with toks:=s.toks+1+1 }):wpAny (model prog w) A (call (.builtin "len") [.ref d]) Q E s:=by
 refine Calls.call_function_entry kind_len plain_len entry_len (args_len1 _) ?_
 unfold Builtin.«len»
 refine Zhb (m:=oneArg "len" _) (Zjb ?_)
 refine Zhb (m:=callSpecial? (.ref d) (Str.ofString "__len__")) (wpAny_callSpecial?_slot (name:=Str.ofString "__len__") hm.typeIs F.slot_dict_len
   (call_meetsIn F.slot_dict_len hm.typeIs F.entry_dict_len (F.args_dict_len_1 _) (Yo1 (es:=es) (ep:=ep) hd) ⟨hm,?_⟩))
 show wpAny _ _ _ _ _ { s with toks:=s.toks+1 }
 refine Zhb (wpAny_holding (Zjb ?_))
 refine Zhb (wpAny_letGo ?_)
 show wpAny _ _ (if ((es.size:Nat):Int) < 0 then _ else _) _ _ _
 rw [if_neg (Int.not_lt.mpr (Zvc _))]
 show wpAny _ _ (if ((es.size:Nat):Int) ≥ 2 ^ 63 then _ else _) _ _ _
 rw [if_neg (Int.not_le.mpr hfit)]
 exact Zhb (wpAny_mkInt (Zjb ⟨_,rfl,h⟩))
end
section
variable {T:Tp}{d:Nat}{X:QX}{Q:QE}{σ:Hp}
theorem Cal.lenD {l n:Nat}{kvs:List ((Str×Int)×V)}(h:σ[l]?=some (.tdict kvs)) (hl:kvs.length=n) (hn:n < 2 ^ 62) (q:Q (.int n) σ):Cal T d X (.bi "len") [.ref l] Q σ:=⟨.b1 rfl fun {A fs ι s x} S r=>by
 obtain ⟨a,d1,rfl,hla⟩:=r.ref_inv
 obtain ⟨xa,da,ra,na⟩:=S.rep.tdict_at h hla
 obtain ⟨o,es,ep,ho,hc,hd,he,hi,zz⟩:=da
 have hz:es.size=n:=(size_of_entries he).trans (ra.length.trans hl)
 exact Yi0 na ⟨o,ho,hc.1,hd⟩ (n63 hn hz) (S.post (hz▸q) .int_mk _)⟩
end
end
section
noncomputable def Yaj (c:Nat):Bool:=c == 10 || c == 9 || (decide (32≤c) && decide (c≤126) && c != 37)
theorem sz (n:Nat) (h:Nat.ble n 1000=true):n≤sizeLine:=Za (Nat.le_of_ble_eq_true h) (by decide)
theorem szo {n:Nat}(h:n≤16777216):n≤sizeLine:=sizeLine_eq▸h
theorem Yz7 {α:Type}{l:List α}(h:l.length=1):∃ a,l=[a]:=by
 cases l with
 | nil=>cases h
 | cons a r=>cases r with
   | nil=>exact ⟨a,rfl⟩
   | cons b r=>cases h
theorem len2 {α:Type}{l:List α}(h:l.length=2):∃ a b,l=[a,b]:=by
 cases l with
 | nil=>cases h
 | cons a r=>obtain ⟨b,rfl⟩:=Yz7 (Nat.succ.inj h); exact ⟨a,b,rfl⟩
theorem len3 {α:Type}{l:List α}(h:l.length=3):∃ a b c,l=[a,b,c]:=by
 cases l with
 | nil=>cases h
 | cons a r=>obtain ⟨b,c,rfl⟩:=len2 (Nat.succ.inj h); exact ⟨a,b,c,rfl⟩
theorem Yqb {a b:Nat}:((⟨#[a]⟩:Str) == ⟨#[b]⟩)=(a == b):=by
 by_cases e:a=b
 · subst e; simp
 · have e2:(⟨#[a]⟩:Str)≠⟨#[b]⟩:=fun q=>e (by injection q with q; simpa using q)
   rw [Zmc.mpr e2,Zmc.mpr e]
set_option tactic.hygienic true in
end
section
set_option genSizeOf false
set_option genInjectivity false
inductive Pt where
 | sign (c:Nat)
 | span (a b:Nat)
 | any
 | rule (n:Str)
 | row (ps:List Pt)
 | alt (ps:List Pt)
 | many (p:Pt)
 | nt (p:Pt)
mutual
noncomputable def Pt.v:Pt→V
 | .sign c=>.tup [.str "sign",.str ⟨#[c]⟩]
 | .span a b=>.tup [.str "span",.str ⟨#[a]⟩,.str ⟨#[b]⟩]
 | .any=>.tup [.str "any"]
 | .rule n=>.tup [.str "rule",.str n]
 | .row ps=>.tup [.str "row",.tup (Pt.vs ps)]
 | .alt ps=>.tup [.str "or",.tup (Pt.vs ps)]
 | .many p=>.tup [.str "many",p.v]
 | .nt p=>.tup [.str "not",p.v]
noncomputable def Pt.vs:List Pt→List V
 | []=>[]
 | p::r=>p.v::Pt.vs r
end
theorem Pt.v1 (c:Nat):(Pt.sign c).v=V.tup [V.str (Str.ofString "sign"),V.str { cps:=#[c] }]:=rfl
theorem Pt.v2 (a b:Nat):(Pt.span a b).v=V.tup [V.str (Str.ofString "span"),V.str { cps:=#[a] },V.str { cps:=#[b] }]:=rfl
theorem Pt.v3:Pt.any.v=V.tup [V.str (Str.ofString "any")]:=rfl
theorem Pt.v4 (n:Str):(Pt.rule n).v=V.tup [V.str (Str.ofString "rule"),V.str n]:=rfl
theorem Pt.v5 (ps:List Pt):(Pt.row ps).v=V.tup [V.str (Str.ofString "row"),V.tup (Pt.vs ps)]:=rfl
theorem Pt.v6 (ps:List Pt):(Pt.alt ps).v=V.tup [V.str (Str.ofString "or"),V.tup (Pt.vs ps)]:=rfl
theorem Pt.v7 (p:Pt):p.many.v=V.tup [V.str (Str.ofString "many"),p.v]:=rfl
theorem Pt.v8 (p:Pt):p.nt.v=V.tup [V.str (Str.ofString "not"),p.v]:=rfl
theorem Pt.vs1:Pt.vs []=[]:=rfl
theorem Pt.vs2 (p:Pt) (r:List Pt):Pt.vs (p::r)=p.v::Pt.vs r:=rfl
theorem Pt.vs_map:∀ ps:List Pt,Pt.vs ps=ps.map Pt.v:=by
 intro xx
 induction xx with
 | nil =>
   simp [Pt.vs1]
 | cons p r ih =>
   simp [Pt.vs2,ih]
noncomputable def Pt.kids:Pt→List Pt
 | .row ps | .alt ps=>ps
 | .many p | .nt p=>[p]
 | .sign _ | .span _ _ | .any | .rule _=>[]
theorem Pt.kids1 (ps:List Pt):(Pt.row ps).kids=ps:=rfl
theorem Pt.kids2 (ps:List Pt):(Pt.alt ps).kids=ps:=rfl
theorem Pt.kids3 (p:Pt):p.many.kids=[p]:=rfl
theorem Pt.kids4 (p:Pt):p.nt.kids=[p]:=rfl
theorem Pt.kids5 (c:Nat):(Pt.sign c).kids=[]:=rfl
theorem Pt.kids6 (a b:Nat):(Pt.span a b).kids=[]:=rfl
theorem Pt.kids7:Pt.any.kids=[]:=rfl
theorem Pt.kids8 (n:Str):(Pt.rule n).kids=[]:=rfl
noncomputable def Pt.word:Pt→Str
 | .sign z1 => "sign" | .span _ _ => "span" | .any => "any" | .rule _ => "rule" | .row _ => "row" | .alt _ => "or" | .many _ => "many" | .nt _ => "not"
theorem Pt.word1 (c:Nat):(Pt.sign c).word=Str.ofString "sign":=rfl
theorem Pt.word2 (a b:Nat):(Pt.span a b).word=Str.ofString "span":=rfl
theorem Pt.word3:Pt.any.word=Str.ofString "any":=rfl
theorem Pt.word4 (n:Str):(Pt.rule n).word=Str.ofString "rule":=rfl
theorem Pt.word5 (ps:List Pt):(Pt.row ps).word=Str.ofString "row":=rfl
theorem Pt.word6 (ps:List Pt):(Pt.alt ps).word=Str.ofString "or":=rfl
theorem Pt.word7 (p:Pt):p.many.word=Str.ofString "many":=rfl
theorem Pt.word8 (p:Pt):p.nt.word=Str.ofString "not":=rfl
mutual
noncomputable def Pt.deep:Pt→Nat
 | .row ps | .alt ps=>Pt.deeps ps+1
 | .many p | .nt p=>p.deep+1
 | .sign _ | .span _ _ | .any | .rule _=>1
noncomputable def Pt.deeps:List Pt→Nat
 | []=>0
 | p::r=>max p.deep (Pt.deeps r)
end
theorem Pt.deep1 (ps:List Pt):(Pt.row ps).deep=Pt.deeps ps+1:=rfl
theorem Pt.deep2 (ps:List Pt):(Pt.alt ps).deep=Pt.deeps ps+1:=rfl
theorem Pt.deep3 (p:Pt):p.many.deep=p.deep+1:=rfl
theorem Pt.deep4 (p:Pt):p.nt.deep=p.deep+1:=rfl
theorem Pt.deep5 (c:Nat):(Pt.sign c).deep=1:=rfl
theorem Pt.deep6 (a b:Nat):(Pt.span a b).deep=1:=rfl
theorem Pt.deep7:Pt.any.deep=1:=rfl
theorem Pt.deep8 (n:Str):(Pt.rule n).deep=1:=rfl
theorem Pt.deeps2 (p:Pt) (r:List Pt):Pt.deeps (p::r)=max p.deep (Pt.deeps r):=rfl
mutual
noncomputable def Pt.size:Pt→Nat
 | .row ps | .alt ps=>Pt.sizes ps+1
 | .many p | .nt p=>p.size+1
 | .sign _ | .span _ _ | .any | .rule _=>1
noncomputable def Pt.sizes:List Pt→Nat
 | []=>0
 | p::r=>p.size+Pt.sizes r
end
theorem Pt.size1 (ps:List Pt):(Pt.row ps).size=Pt.sizes ps+1:=rfl
theorem Pt.size2 (ps:List Pt):(Pt.alt ps).size=Pt.sizes ps+1:=rfl
theorem Pt.size3 (p:Pt):p.many.size=p.size+1:=rfl
theorem Pt.size4 (p:Pt):p.nt.size=p.size+1:=rfl
theorem Pt.size5 (c:Nat):(Pt.sign c).size=1:=rfl
theorem Pt.size6 (a b:Nat):(Pt.span a b).size=1:=rfl
theorem Pt.size7:Pt.any.size=1:=rfl
theorem Pt.size8 (n:Str):(Pt.rule n).size=1:=rfl
theorem Pt.sizes1:Pt.sizes []=0:=rfl
theorem Pt.sizes2 (p:Pt) (r:List Pt):Pt.sizes (p::r)=p.size+Pt.sizes r:=rfl
mutual
noncomputable def Pt.good:Pt→Bool
 | .sign c=>Yaj c
 | .span a b=>Yaj a && Yaj b && decide (a≤b)
 | .any=>true
 | .rule z1=>true
 | .row ps=>Pt.goods ps
 | .alt ps => !ps.isEmpty && Pt.goods ps
 | .many p | .nt p=>p.good
noncomputable def Pt.goods:List Pt→Bool
 | []=>true
 | p::r=>p.good && Pt.goods r
end
theorem Pt.good1 (c:Nat):(Pt.sign c).good=Yaj c:=rfl
theorem Pt.good2 (a b:Nat):(Pt.span a b).good=(Yaj a && Yaj b && decide (a≤b)):=rfl
theorem Pt.good3:Pt.any.good=true:=rfl
theorem Pt.good4 (n:Str):(Pt.rule n).good=true:=rfl
theorem Pt.good5 (ps:List Pt):(Pt.row ps).good=Pt.goods ps:=rfl
theorem Pt.good6 (ps:List Pt):(Pt.alt ps).good=(!ps.isEmpty && Pt.goods ps):=rfl
theorem Pt.good7 (p:Pt):p.many.good=p.good:=rfl
theorem Pt.good8 (p:Pt):p.nt.good=p.good:=rfl
theorem Pt.goods1:Pt.goods []=true:=rfl
theorem Pt.goods2 (p:Pt) (r:List Pt):Pt.goods (p::r)=(p.good && Pt.goods r):=rfl
end
section
section
variable {σ r:Hp}{a b a':Yaq}
theorem Ye0:(σ++a::r)[σ.length]?=some a:=by simp
theorem Yq9:(σ++a::r).set σ.length a'=σ++a'::r:=by simp
theorem Yif:(σ++a::b::r)[σ.length+1]?=some b:=by
 rw [Ztc (by exact Zq (Zs (List.length σ)))]; simp
theorem Ywd:(σ++a::b::r).set (σ.length+1) a'=σ++a::a'::r:=by
 rw [List.set_append_right _ _ (by exact Zq (Zs (List.length σ)))]; simp
end
class inductive Pt.Asks:Pt→Str→Prop where
 | here {n:Str}:Pt.Asks (.rule n) n
 | deep {p q:Pt}{n:Str}:q∈p.kids→Pt.Asks q n→Pt.Asks p n
theorem Pt.size_pos (p:Pt):1≤p.size:=by cases p <;> simp [Pt.size1,Pt.size2,Pt.size3,Pt.size4,Pt.size5,Pt.size6,Pt.size7,Pt.size8]
theorem Pt.sizes_append:∀ a b:List Pt,Pt.sizes (a++b)=Pt.sizes a+Pt.sizes b:=by
 intro xx
 induction xx with
 | nil =>
   intro b
   simp [Pt.sizes1]
 | cons p r ih =>
   intro b
   simp [Pt.sizes2,ih b]; lia
theorem Pt.kids_size (p:Pt):Pt.sizes p.kids+1≤p.size:=by
 cases p <;> simp [Pt.kids1,Pt.kids2,Pt.kids3,Pt.kids4,Pt.kids5,Pt.kids6,Pt.kids7,Pt.kids8,Pt.size1,Pt.size2,Pt.size3,Pt.size4,Pt.size5,Pt.size6,Pt.size7,Pt.size8,Pt.sizes1,Pt.sizes2]
theorem Pt.deep_pos (p:Pt):1≤p.deep:=by cases p <;> simp [Pt.deep1,Pt.deep2,Pt.deep3,Pt.deep4,Pt.deep5,Pt.deep6,Pt.deep7,Pt.deep8]
theorem Pt.deeps_mem {ps:List Pt}{p:Pt}(h:p∈ps):p.deep≤Pt.deeps ps:=by
 induction ps with
 | nil=>cases h
 | cons a r ih =>
   rw [Pt.deeps2]
   rcases Zg.mp h with rfl | h
   · exact Nat.le_max_left ..
   · exact Za (ih h) (Nat.le_max_right ..)
theorem Pt.goods_mem {ps:List Pt}{p:Pt}(hg:Pt.goods ps=true) (h:p∈ps):p.good=true:=by
 induction ps with
 | nil=>cases h
 | cons a r ih =>
   rw [Pt.goods2,Zob] at hg
   rcases Zg.mp h with rfl | h
   · exact hg.1
   · exact ih hg.2 h
theorem Pt.kids_deep {p q:Pt}(h:q∈p.kids):q.deep+1≤p.deep:=by
 cases p <;> simp only [Pt.kids1,Pt.kids2,Pt.kids3,Pt.kids4,Pt.kids5,Pt.kids6,Pt.kids7,Pt.kids8,Zdc,Zj] at h
 · rw [Pt.deep1]; exact Zwb (Pt.deeps_mem h)
 · rw [Pt.deep2]; exact Zwb (Pt.deeps_mem h)
 · subst h; rw [Pt.deep3]; exact Zl _
 · subst h; rw [Pt.deep4]; exact Zl _
noncomputable def Pt.few:Pt→Prop:=fun p=>p.kids.length < 1000
class inductive Pt.All (P:Pt→Prop):Pt→Prop where
 | mk {p:Pt}:P p→(∀ q∈p.kids,Pt.All P q)→Pt.All P p
noncomputable def Pt.rest:Pt→List V
 | .sign c=>[.str ⟨#[c]⟩] | .span a b=>[.str ⟨#[a]⟩,.str ⟨#[b]⟩] | .any=>[] | .rule n=>[.str n] | .row ps=>[.tup (Pt.vs ps)] | .alt ps=>[.tup (Pt.vs ps)] | .many p=>[p.v] | .nt p=>[p.v]
theorem Pt.head (p:Pt):p.v=.tup (.str p.word::p.rest):=by
 cases p <;> simp only [Pt.v1,Pt.v2,Pt.v3,Pt.v4,Pt.v5,Pt.v6,Pt.v7,Pt.v8,Pt.word1,Pt.word2,Pt.word3,Pt.word4,Pt.word5,Pt.word6,Pt.word7,Pt.word8,Pt.rest]
theorem Pt.word_rule {p:Pt}(h:p.word = "rule"):∃ n,p=.rule n:=by
 cases p <;> first | exact ⟨_,rfl⟩ | (have h':=h; simp only [Pt.word1,Pt.word2,Pt.word3,Pt.word5,Pt.word6,Pt.word7,Pt.word8] at h'; exact absurd h' (by decide +kernel))
noncomputable def Ydq (c:Nat):Bool:=decide (97≤c) && decide (c≤122)
theorem Ylv:((List.range 123).all fun c => !Ydq c || Yq0 ⟨#[c]⟩ (Str.ofString "abcdefghijklmnopqrstuvwxyz"))=true:=by decide +kernel
theorem Yof {c:Nat}(h:Ydq c=true):Yq0 ⟨#[c]⟩ (Str.ofString "abcdefghijklmnopqrstuvwxyz")=true:=by
 have hc:c < 123:=by simp [Ydq] at h; lia
 have:=List.all_eq_true.mp Ylv c (by simpa using hc)
 simpa [h] using this
noncomputable def Yel (x:Str):Bool:=decide (1≤x.length) && decide (x.length≤12) && x.cps.toList.all Ydq
noncomputable abbrev Ybi (r:Str×Pt):V:=.tup [.str r.1,r.2.v]
structure Yst (names:List Str) (r:Str×Pt):Prop where
 name:Yel r.1=true
 good:r.2.good=true
 deep:r.2.deep≤12
 few:Pt.All Pt.few r.2
 size:r.2.size < 100000
 asks:∀ n,r.2.Asks n→n∈names
structure Yax (rs:List (Str×Pt)):Prop where
 one:1≤rs.length
 most:rs.length≤40
 nodup:(rs.map (·.1)).Nodup
 all:∀ r∈rs,Yst (rs.map (·.1)) r
noncomputable def Ydk (ns:List Str):List (Str×V):=ns.map fun n=>(n,.bool true)
theorem Yga {ns:List Str}{n:Str}:((Ydk ns).any fun kv=>decide (kv.1=n))=decide (n∈ns):=by
 rw [Bool.eq_iff_iff]; simp [Ydk]
theorem Yft {ns:List Str}{n:Str}(h:n∉ns):Yca (Ydk ns) n (.bool true)=Ydk (ns++[n]):=by
 unfold Yca; rw [Yga,if_neg (by simpa using h)]; simp [Ydk]
theorem Ydt {α:Type}{rs:List α}{f:α→Str}{i:Nat}{r:α}(h:(rs.map f).Nodup) (hr:rs[i]?=some r):f r∉(rs.take i).map f:=fun hmem=>by
 obtain ⟨r',hr',e⟩:=Zsb.mp hmem
 obtain ⟨j,hj,e2⟩:=List.getElem_of_mem hr'
 simp only [List.length_take] at hj
 rw [List.getElem_take] at e2
 obtain ⟨hi1,hi2⟩:=Zb.mp hr
 have:=List.pairwise_iff_getElem.mp h j i (by simp; (clear hi1 hi2 hr e2; lia)) (by simpa using hi1) (by (clear hi1 hi2 hr e2; lia))
 simp [e2,hi2,e] at this
theorem Ya3 {α:Type}{rs:List α}{i:Nat}{r:α}(hr:rs[i]?=some r):rs.take (i+1)=rs.take i++[r]:=by
 rw [List.take_add_one,hr]; rfl
end
section
mutual
noncomputable def Pt.may (B:Str→Bool):Pt→Bool
 | .many _ | .nt _=>true
 | .rule n=>B n
 | .row ps=>Pt.mayAll B ps
 | .alt ps=>Pt.mayAny B ps
 | .sign _ | .span _ _ | .any=>false
noncomputable def Pt.mayAll (B:Str→Bool):List Pt→Bool
 | []=>true
 | p::r=>p.may B && Pt.mayAll B r
noncomputable def Pt.mayAny (B:Str→Bool):List Pt→Bool
 | []=>false
 | p::r=>p.may B || Pt.mayAny B r
end
theorem Pt.may1 (B:Str→Bool) (p:Pt):Pt.may B p.many=true:=rfl
theorem Pt.may2 (B:Str→Bool) (p:Pt):Pt.may B p.nt=true:=rfl
theorem Pt.may3 (B:Str→Bool) (n:Str):Pt.may B (Pt.rule n)=B n:=rfl
theorem Pt.may4 (B:Str→Bool) (ps:List Pt):Pt.may B (Pt.row ps)=Pt.mayAll B ps:=rfl
theorem Pt.may5 (B:Str→Bool) (ps:List Pt):Pt.may B (Pt.alt ps)=Pt.mayAny B ps:=rfl
theorem Pt.may6 (B:Str→Bool) (c:Nat):Pt.may B (Pt.sign c)=false:=rfl
theorem Pt.may7 (B:Str→Bool) (a b:Nat):Pt.may B (Pt.span a b)=false:=rfl
theorem Pt.may8 (B:Str→Bool):Pt.may B Pt.any=false:=rfl
theorem Pt.mayAll1 (B:Str→Bool):Pt.mayAll B []=true:=rfl
theorem Pt.mayAll2 (B:Str→Bool) (p:Pt) (r:List Pt):Pt.mayAll B (p::r)=(Pt.may B p && Pt.mayAll B r):=rfl
theorem Pt.mayAny1 (B:Str→Bool):Pt.mayAny B []=false:=rfl
theorem Pt.mayAny2 (B:Str→Bool) (p:Pt) (r:List Pt):Pt.mayAny B (p::r)=(Pt.may B p || Pt.mayAny B r):=rfl
theorem Pt.mayAll_eq (B:Str→Bool):∀ ps,Pt.mayAll B ps=ps.all (Pt.may B)
 | []=>by simp [Pt.mayAll1]
 | p::r=>by simp [Pt.mayAll2,Pt.mayAll_eq B r]
theorem Pt.mayAny_eq (B:Str→Bool):∀ ps,Pt.mayAny B ps=ps.any (Pt.may B)
 | []=>by simp [Pt.mayAny1]
 | p::r=>by simp [Pt.mayAny2,Pt.mayAny_eq B r]
mutual
theorem Pt.may_mono {B C:Str→Bool}(h:∀ x,B x=true→C x=true):∀ p:Pt,p.may B=true→p.may C=true
 | .sign _,q | .span _ _,q | .any,q=>by simp [Pt.may6,Pt.may7,Pt.may8] at q
 | .rule n,q=>by simp only [Pt.may3] at q ⊢; exact h n q
 | .row ps,q=>by simp only [Pt.may4] at q ⊢; exact Pt.mayAll_mono h ps q
 | .alt ps,q=>by simp only [Pt.may5] at q ⊢; exact Pt.mayAny_mono h ps q
 | .many _,_ | .nt _,_=>by simp [Pt.may1,Pt.may2]
theorem Pt.mayAll_mono {B C:Str→Bool}(h:∀ x,B x=true→C x=true):∀ ps:List Pt,Pt.mayAll B ps=true→Pt.mayAll C ps=true
 | [],z1=>by simp [Pt.mayAll1]
 | p::r,q=>by
   simp only [Pt.mayAll2,Zob] at q ⊢
   exact ⟨Pt.may_mono h p q.1,Pt.mayAll_mono h r q.2⟩
theorem Pt.mayAny_mono {B C:Str→Bool}(h:∀ x,B x=true→C x=true):∀ ps:List Pt,Pt.mayAny B ps=true→Pt.mayAny C ps=true
 | [],q=>by simp [Pt.mayAny1] at q
 | p::r,q=>by
   simp only [Pt.mayAny2,Bool.or_eq_true] at q ⊢
   rcases q with q | q
   · exact .inl (Pt.may_mono h p q)
   · exact .inr (Pt.mayAny_mono h r q)
end
noncomputable def inB (bs:List Str):Str→Bool:=fun x=>decide (x∈bs)
theorem Ye8 {bs:List Str}{x:Str}:inB bs x=true↔x∈bs:=by simp [inB]
noncomputable def Yeh (rs:List (Str×Pt)) (E:List Str):List Str:=(rs.filter fun r=>r.2.may (inB E)).map (·.1)
noncomputable def Yba (rs:List (Str×Pt)):Nat→List Str
 | 0=>[]
 | n+1=>Yeh rs (Yba rs n)
structure Yzy (rs:List (Str×Pt)) (bs:List Str):Prop where
 sub:∀ x∈bs,x∈rs.map (·.1)
 closed:∀ r∈rs,r.2.may (inB bs)=true→r.1∈bs
 least:∀ S:Str→Bool,(∀ r∈rs,r.2.may S=true→S r.1=true)→∀ x∈bs,S x=true
section
variable {rs:List (Str×Pt)}
theorem Yio {E:List Str}{x:Str}:x∈Yeh rs E↔∃ r∈rs,r.2.may (inB E)=true∧r.1=x:=by
 simp only [Yeh,Zsb,List.mem_filter]
 constructor
 · rintro ⟨r,⟨h1,h2⟩,h3⟩; exact ⟨r,h1,h2,h3⟩
 · rintro ⟨r,h1,h2,h3⟩; exact ⟨r,⟨h1,h2⟩,h3⟩
theorem Ymc {E F:List Str}(h:∀ x∈E,x∈F):∀ x∈Yeh rs E,x∈Yeh rs F:=fun x hx=>by
 rw [Yio] at hx ⊢
 obtain ⟨r,h1,h2,h3⟩:=hx
 exact ⟨r,h1,Pt.may_mono (fun y hy=>Ye8.mpr (h y (Ye8.mp hy))) _ h2,h3⟩
theorem Yjj:∀ n,∀ x∈Yba rs n,x∈Yba rs (n+1)
 | 0,x,hx=>by cases hx
 | n+1,x,hx=>Ymc (Yjj n) x hx
theorem Yno {E F:List Str}(h:∀ x∈E,x∈F):(Yeh rs E).Sublist (Yeh rs F):=by
 unfold Yeh
 refine List.Sublist.map _ ?_
 induction rs with
 | nil=>simp
 | cons r t ih =>
   simp only [List.filter_cons]
   by_cases h1:r.2.may (inB E)=true
   · have h2:=Pt.may_mono (fun y hy=>Ye8.mpr (h y (Ye8.mp hy))) _ h1
     rw [if_pos h1,if_pos h2]; exact ih.cons_cons _
   · rw [if_neg h1]
     split
     · exact ih.cons _
     · exact ih
theorem Ygb:∀ n,Yba rs (n+1)=Yba rs n∨(Yba rs n).length+1≤(Yba rs (n+1)).length:=fun n=>by
 have hs:(Yba rs n).Sublist (Yba rs (n+1)):=by
   cases n with
   | zero=>exact List.nil_sublist _
   | succ n=>exact Yno (Yjj n)
 rcases Nat.lt_or_ge (Yba rs n).length (Yba rs (n+1)).length with h | h
 · exact .inr h
 · exact .inl (hs.eq_of_length_le h).symm
theorem Ygz:∀ n,Yba rs (n+1)=Yba rs n∨n+1≤(Yba rs (n+1)).length
 | 0=>by
   rcases Ygb (rs:=rs) 0 with h | h
   · exact .inl h
   · exact .inr (by exact h)
 | n+1=>by
   rcases Ygz n with h | h
   · left; show Yeh rs (Yba rs (n+1))=Yeh rs (Yba rs n); rw [h]
   · rcases Ygb (rs:=rs) (n+1) with g | g
     · exact .inl g
     · exact .inr (by lia)
theorem Ymx:Yeh rs (Yba rs rs.length)=Yba rs rs.length:=by
 rcases Ygz (rs:=rs) rs.length with h | h
 · exact h
 · have:(Yeh rs (Yba rs rs.length)).length≤rs.length:=by
     unfold Yeh; rw [Zc]; exact List.length_filter_le ..
   exact absurd h (by show ¬ (rs.length+1≤(Yeh rs (Yba rs rs.length)).length); (clear h; lia))
end
end
section
mutual
noncomputable def Pt.ahd (B:Str→Bool):Pt→List Str
 | .rule n=>[n]
 | .row ps=>Pt.ahdRow B ps
 | .alt ps=>Pt.ahdAlt B ps
 | .many p | .nt p=>p.ahd B
 | .sign _ | .span _ _ | .any=>[]
noncomputable def Pt.ahdRow (B:Str→Bool):List Pt→List Str
 | []=>[]
 | p::r=>p.ahd B++if p.may B then Pt.ahdRow B r else []
noncomputable def Pt.ahdAlt (B:Str→Bool):List Pt→List Str
 | []=>[]
 | p::r=>p.ahd B++Pt.ahdAlt B r
end
theorem Pt.ahd1 (B:Str→Bool) (n:Str):Pt.ahd B (Pt.rule n)=[n]:=rfl
theorem Pt.ahd2 (B:Str→Bool) (ps:List Pt):Pt.ahd B (Pt.row ps)=Pt.ahdRow B ps:=rfl
theorem Pt.ahd3 (B:Str→Bool) (ps:List Pt):Pt.ahd B (Pt.alt ps)=Pt.ahdAlt B ps:=rfl
theorem Pt.ahd4 (B:Str→Bool) (p:Pt):Pt.ahd B p.many=Pt.ahd B p:=rfl
theorem Pt.ahd5 (B:Str→Bool) (p:Pt):Pt.ahd B p.nt=Pt.ahd B p:=rfl
theorem Pt.ahd6 (B:Str→Bool) (c:Nat):Pt.ahd B (Pt.sign c)=[]:=rfl
theorem Pt.ahd7 (B:Str→Bool) (a b:Nat):Pt.ahd B (Pt.span a b)=[]:=rfl
theorem Pt.ahd8 (B:Str→Bool):Pt.ahd B Pt.any=[]:=rfl
theorem Pt.ahdRow1 (B:Str→Bool):Pt.ahdRow B []=[]:=rfl
theorem Pt.ahdRow2 (B:Str→Bool) (p:Pt) (r:List Pt):Pt.ahdRow B (p::r)=Pt.ahd B p++if Pt.may B p=true then Pt.ahdRow B r else []:=rfl
theorem Pt.ahdAlt1 (B:Str→Bool):Pt.ahdAlt B []=[]:=rfl
theorem Pt.ahdAlt2 (B:Str→Bool) (p:Pt) (r:List Pt):Pt.ahdAlt B (p::r)=Pt.ahd B p++Pt.ahdAlt B r:=rfl
mutual
theorem Pt.ahd_size (B:Str→Bool):∀ p:Pt,(p.ahd B).length≤p.size
 | .sign _ | .span _ _ | .any | .rule _=>by simp [Pt.ahd1,Pt.ahd6,Pt.ahd7,Pt.ahd8,Pt.size5,Pt.size6,Pt.size7,Pt.size8]
 | .row ps=>by have:=Pt.ahdRow_size B ps; simp only [Pt.ahd2,Pt.size1]; exact Zeb this
 | .alt ps=>by have:=Pt.ahdAlt_size B ps; simp only [Pt.ahd3,Pt.size2]; exact Zeb this
 | .many p | .nt p=>by have:=Pt.ahd_size B p; simp only [Pt.ahd4,Pt.ahd5,Pt.size3,Pt.size4]; exact Zeb this
theorem Pt.ahdRow_size (B:Str→Bool):∀ ps:List Pt,(Pt.ahdRow B ps).length≤Pt.sizes ps
 | []=>by simp [Pt.ahdRow1]
 | p::r=>by
   have h1:=Pt.ahd_size B p
   have h2:=Pt.ahdRow_size B r
   simp only [Pt.ahdRow2,Pt.sizes2,Zf]
   split
   · lia
   · simp; (clear h2; lia)
theorem Pt.ahdAlt_size (B:Str→Bool):∀ ps:List Pt,(Pt.ahdAlt B ps).length≤Pt.sizes ps
 | []=>by simp [Pt.ahdAlt1]
 | p::r=>by
   have h1:=Pt.ahd_size B p
   have h2:=Pt.ahdAlt_size B r
   simp only [Pt.ahdAlt2,Pt.sizes2,Zf]; lia
end
mutual
noncomputable def Pt.ok (P:Str→Prop):Pt→Prop
 | .sign c=>Yaj c=true
 | .span a b=>Yaj a=true∧Yaj b=true∧a≤b
 | .any=>True
 | .rule n=>P n
 | .row ps=>ps.length < 1000∧Pt.oks P ps
 | .alt ps=>ps≠[]∧ps.length < 1000∧Pt.oks P ps
 | .many p | .nt p=>p.ok P
noncomputable def Pt.oks (P:Str→Prop):List Pt→Prop
 | []=>True
 | p::r=>p.ok P∧Pt.oks P r
end
theorem Pt.ok1 (P:Str→Prop) (c:Nat):Pt.ok P (Pt.sign c)=(Yaj c=true):=rfl
theorem Pt.ok2 (P:Str→Prop) (a b:Nat):Pt.ok P (Pt.span a b)=(Yaj a=true∧Yaj b=true∧a≤b):=rfl
theorem Pt.ok3 (P:Str→Prop):Pt.ok P Pt.any=True:=rfl
theorem Pt.ok4 (P:Str→Prop) (n:Str):Pt.ok P (Pt.rule n)=P n:=rfl
theorem Pt.ok5 (P:Str→Prop) (ps:List Pt):Pt.ok P (Pt.row ps)=(ps.length < 1000∧Pt.oks P ps):=rfl
theorem Pt.ok6 (P:Str→Prop) (ps:List Pt):Pt.ok P (Pt.alt ps)=(ps≠[]∧ps.length < 1000∧Pt.oks P ps):=rfl
theorem Pt.ok7 (P:Str→Prop) (p:Pt):Pt.ok P p.many=Pt.ok P p:=rfl
theorem Pt.ok8 (P:Str→Prop) (p:Pt):Pt.ok P p.nt=Pt.ok P p:=rfl
theorem Pt.oks1 (P:Str→Prop):Pt.oks P []=True:=rfl
theorem Pt.oks2 (P:Str→Prop) (p:Pt) (r:List Pt):Pt.oks P (p::r)=(Pt.ok P p∧Pt.oks P r):=rfl
theorem Pt.oks_mem {P:Str→Prop}{ps:List Pt}(h:Pt.oks P ps):∀ q∈ps,q.ok P:=by
 induction ps with
 | nil=>intro q hq; cases hq
 | cons a r ih =>
   intro q hq
   rw [Pt.oks2] at h
   rcases Zg.mp hq with rfl | hq
   · exact h.1
   · exact ih h.2 q hq
theorem Pt.ok_kids {P:Str→Prop}{p:Pt}(h:p.ok P):∀ q∈p.kids,q.ok P:=by
 intro q hq
 cases p <;> simp only [Pt.kids1,Pt.kids2,Pt.kids3,Pt.kids4,Pt.kids5,Pt.kids6,Pt.kids7,Pt.kids8,Zdc,Zj] at hq
 · rw [Pt.ok5] at h; exact Pt.oks_mem h.2 q hq
 · rw [Pt.ok6] at h; exact Pt.oks_mem h.2.2 q hq
 · subst hq; rw [Pt.ok7] at h; exact h
 · subst hq; rw [Pt.ok8] at h; exact h
mutual
theorem Pt.ok_good {P:Str→Prop}:∀ p:Pt,p.ok P→p.good=true
 | .sign c,h=>by simpa only [Pt.ok1,Pt.ok2,Pt.ok3,Pt.ok4,Pt.ok5,Pt.ok6,Pt.ok7,Pt.ok8,Pt.good1,Pt.good2,Pt.good3,Pt.good4,Pt.good5,Pt.good6,Pt.good7,Pt.good8] using h
 | .span a b,h=>by simp only [Pt.ok2] at h; simp [Pt.good2,h]
 | .any,_ | .rule _,_=>by simp [Pt.good3,Pt.good4]
 | .row ps,h=>by simp only [Pt.ok5] at h; simp only [Pt.good5]; exact Pt.oks_good ps h.2
 | .alt ps,h=>by simp only [Pt.ok6] at h; simp only [Pt.good6,Zob]; exact ⟨by simpa using h.1,Pt.oks_good ps h.2.2⟩
 | .many p,h | .nt p,h=>by simp only [Pt.ok7,Pt.ok8] at h; simp only [Pt.good7,Pt.good8]; exact Pt.ok_good p h
theorem Pt.oks_good {P:Str→Prop}:∀ ps:List Pt,Pt.oks P ps→Pt.goods ps=true
 | [],z1=>by simp [Pt.goods1]
 | p::r,h=>by simp only [Pt.oks2] at h; simp only [Pt.goods2,Zob]; exact ⟨Pt.ok_good p h.1,Pt.oks_good r h.2⟩
end
theorem Pt.ok_few {P:Str→Prop}:∀ (n:Nat) (p:Pt),p.deep≤n→p.ok P→Pt.All Pt.few p
 | 0,p,hn,z1=>absurd (Pt.deep_pos p) (by lia)
 | n+1,p,hn,h=>⟨by
     show p.kids.length < 1000
     cases p <;> simp only [Pt.kids1,Pt.kids2,Pt.kids3,Pt.kids4,Pt.kids5,Pt.kids6,Pt.kids7,Pt.kids8,List.length_nil,List.length_singleton] <;> first | (clear hn; exact Zgb (id (Eq.refl true))) | (simp only [Pt.ok5,Pt.ok6] at h; first | exact h.1 | exact h.2.1),
   fun q hq=>Pt.ok_few n q (by have:=Pt.kids_deep hq; lia) (Pt.ok_kids h q hq)⟩
theorem Pt.ok_asks {P:Str→Prop}{p:Pt}{n:Str}(h:p.Asks n):p.ok P→P n:=by
 induction h with
 | here=>intro h; simpa only [Pt.ok1,Pt.ok2,Pt.ok3,Pt.ok4,Pt.ok5,Pt.ok6,Pt.ok7,Pt.ok8] using h
 | deep hq z1 ih=>intro h; exact ih (Pt.ok_kids h _ hq)
mutual
theorem Pt.ok_mono {P R:Str→Prop}(hm:∀ n,P n→R n):∀ p:Pt,p.ok P→p.ok R
 | .sign c,h=>by simpa only [Pt.ok1,Pt.ok2,Pt.ok3,Pt.ok4,Pt.ok5,Pt.ok6,Pt.ok7,Pt.ok8] using h
 | .span a b,h=>by simpa only [Pt.ok1,Pt.ok2,Pt.ok3,Pt.ok4,Pt.ok5,Pt.ok6,Pt.ok7,Pt.ok8] using h
 | .any,z1=>by simp [Pt.ok3]
 | .rule z1,h=>by simp only [Pt.ok4] at h ⊢; exact hm _ h
 | .row ps,h=>by simp only [Pt.ok5] at h ⊢; exact ⟨h.1,Pt.oks_mono hm ps h.2⟩
 | .alt ps,h=>by simp only [Pt.ok6] at h ⊢; exact ⟨h.1,h.2.1,Pt.oks_mono hm ps h.2.2⟩
 | .many p,h | .nt p,h=>by simp only [Pt.ok7,Pt.ok8] at h ⊢; exact Pt.ok_mono hm p h
theorem Pt.oks_mono {P R:Str→Prop}(hm:∀ n,P n→R n):∀ ps:List Pt,Pt.oks P ps→Pt.oks R ps
 | [],z1=>by simp [Pt.oks1]
 | p::r,h=>by simp only [Pt.oks2] at h ⊢; exact ⟨Pt.ok_mono hm p h.1,Pt.oks_mono hm r h.2⟩
end
mutual
theorem Pt.ok_ahd {P:Str→Prop}(B:Str→Bool):∀ p:Pt,p.ok P→∀ n∈p.ahd B,P n
 | .sign _,_ | .span _ _,_ | .any,_=>by simp [Pt.ahd6,Pt.ahd7,Pt.ahd8]
 | .rule m,h=>by simp only [Pt.ok4] at h; simpa [Pt.ahd1,Pt.ahd2,Pt.ahd3,Pt.ahd4,Pt.ahd5,Pt.ahd6,Pt.ahd7,Pt.ahd8] using h
 | .row ps,h=>by simp only [Pt.ok5] at h; simp only [Pt.ahd2]; exact Pt.oks_ahdRow B ps h.2
 | .alt ps,h=>by simp only [Pt.ok6] at h; simp only [Pt.ahd3]; exact Pt.oks_ahdAlt B ps h.2.2
 | .many p,h | .nt p,h=>by simp only [Pt.ok7,Pt.ok8] at h; simp only [Pt.ahd4,Pt.ahd5]; exact Pt.ok_ahd B p h
theorem Pt.oks_ahdRow {P:Str→Prop}(B:Str→Bool):∀ ps:List Pt,Pt.oks P ps→∀ n∈Pt.ahdRow B ps,P n
 | [],z1=>by simp [Pt.ahdRow1]
 | p::r,h=>by
   simp only [Pt.oks2] at h
   intro n hn
   simp only [Pt.ahdRow2,Zm] at hn
   rcases hn with hn | hn
   · exact Pt.ok_ahd B p h.1 n hn
   · split at hn
     · exact Pt.oks_ahdRow B r h.2 n hn
     · cases hn
theorem Pt.oks_ahdAlt {P:Str→Prop}(B:Str→Bool):∀ ps:List Pt,Pt.oks P ps→∀ n∈Pt.ahdAlt B ps,P n
 | [],z1=>by simp [Pt.ahdAlt1]
 | p::r,h=>by
   simp only [Pt.oks2] at h
   intro n hn
   simp only [Pt.ahdAlt2,Zm] at hn
   rcases hn with hn | hn
   · exact Pt.ok_ahd B p h.1 n hn
   · exact Pt.oks_ahdAlt B r h.2 n hn
end
noncomputable def Yrk (rs:List (Str×Pt)) (B:Str→Bool) (x y:Str):Prop:=∃ r∈rs,r.1=x∧y∈r.2.ahd B
class inductive Rch (rs:List (Str×Pt)) (B:Str→Bool) (x:Str):Str→Prop where
 | one {y:Str}:Yrk rs B x y→Rch rs B x y
 | more {y z:Str}:Rch rs B x y→Yrk rs B y z→Rch rs B x z
noncomputable def Ygr (rs:List (Str×Pt)):Prop:=∀ (i:Nat) (r:Str×Pt),rs[i]?=some r→∀ (B:Str→Bool),∀ y∈r.2.ahd B,∃ (j:Nat) (r':Str×Pt),i < j∧rs[j]?=some r'∧r'.1=y
theorem Yki {rs:List (Str×Pt)}(hn:(rs.map (·.1)).Nodup) {i j:Nat}{r r':Str×Pt}(h:rs[i]?=some r) (h':rs[j]?=some r') (e:r.1=r'.1):i=j:=by
 obtain ⟨h1,rfl⟩:=Zb.mp h
 obtain ⟨h2,rfl⟩:=Zb.mp h'
 rcases Nat.lt_trichotomy i j with g | g | g
 · have:=List.pairwise_iff_getElem.mp hn i j (by simpa using h1) (by simpa using h2) g
   simp [e] at this
 · exact g
 · have:=List.pairwise_iff_getElem.mp hn j i (by simpa using h2) (by simpa using h1) g
   simp [e] at this
theorem Ygr.rch {rs:List (Str×Pt)}(hl:Ygr rs) (hn:(rs.map (·.1)).Nodup) {B:Str→Bool}{x y:Str}(h:Rch rs B x y):∀ (i:Nat) (r:Str×Pt),rs[i]?=some r→r.1=x→∃ (j:Nat) (r':Str×Pt),i < j∧rs[j]?=some r'∧r'.1=y:=by
 have lead:∀ {a b:Str}{i:Nat}{r:Str×Pt},rs[i]?=some r→r.1=a→Yrk rs B a b→∃ (j:Nat) (r':Str×Pt),i < j∧rs[j]?=some r'∧r'.1=b:=by
   intro a b i r h1 h2 ⟨r',h3,h4,h5⟩
   obtain ⟨k,h6⟩:=List.mem_iff_getElem?.mp h3
   have e:=Yki hn h1 h6 (by rw [h2,h4])
   subst e
   exact hl i r' h6 B _ h5
 induction h with
 | one h=>exact fun i r h1 h2=>lead h1 h2 h
 | more z1 h ih =>
   intro i r h1 h2
   obtain ⟨j,r',g1,g2,g3⟩:=ih i r h1 h2
   obtain ⟨k,r'',f1,f2,f3⟩:=lead g2 g3 h
   exact ⟨k,r'',by (clear f2 g2 lead ih h1; exact Zq (Zk g1 f1)),f2,f3⟩
theorem Ygr.no {rs:List (Str×Pt)}(hl:Ygr rs) (hn:(rs.map (·.1)).Nodup) {B:Str→Bool}{r:Str×Pt}(hr:r∈rs):¬ Rch rs B r.1 r.1:=fun h=>by
 obtain ⟨i,hi⟩:=List.mem_iff_getElem?.mp hr
 obtain ⟨j,r',g1,g2,g3⟩:=hl.rch hn h i r hi rfl
 have:=Yki hn hi g2 g3.symm
 (clear g2 hi; exact Zoc g1 (id (Eq.symm this)))
end
section
noncomputable def Ya0 (P:Str→Prop) (n s:Nat) (p:Pt):Prop:=p.ok P∧p.deep≤n∧p.size≤s
structure Pcw (P:Str→Prop) (s n c k:Nat) (p:Pt):Prop where
 ok:p.ok P
 deep:p.deep≤n
 size:p.size≤c*s+k
structure Pcs (P:Str→Prop) (s n c k l:Nat) (ps:List Pt):Prop where
 ok:Pt.oks P ps
 deep:Pt.deeps ps≤n
 size:Pt.sizes ps≤c*s+k
 len:ps.length=l
section
variable {P:Str→Prop}{s n c k c' k' l:Nat}{p:Pt}{ps:List Pt}
theorem Pcs.nil:Pcs P s n 0 0 0 []:=⟨(trivial:True),Zkb n,Zkb _,rfl⟩
theorem Pcs.cons (h:Pcw P s n c k p) (t:Pcs P s n c' k' l ps):Pcs P s n (c+c') (k+k') (l+1) (p::ps) :=
 ⟨(⟨h.ok,t.ok⟩:p.ok P∧Pt.oks P ps),(Nat.max_le.mpr ⟨h.deep,t.deep⟩:max p.deep (Pt.deeps ps)≤n),Za (Zcb h.size t.size:p.size+Pt.sizes ps≤_) (Zr (by rw [Nat.add_mul,Zwc])),congrArg Nat.succ t.len⟩
theorem Pcs.row (h:Pcs P s n c k l ps) (hl:Nat.ble l 9=true):Pcw P s (n+1) c (k+1) (.row ps) :=
 ⟨(⟨h.len▸Zk (Nat.le_of_ble_eq_true hl) (by decide),h.ok⟩:ps.length < 1000∧Pt.oks P ps),Zwb h.deep,Zwb h.size⟩
theorem Pcs.alt (h:Pcs P s n c k (l+1) ps) (hl:Nat.ble (l+1) 9=true):Pcw P s (n+1) c (k+1) (.alt ps) :=
 ⟨(⟨fun e=>(Nat.succ_ne_zero l) (h.len.symm.trans (congrArg List.length e)),h.len▸Zk (Nat.le_of_ble_eq_true hl) (by decide),h.ok⟩:ps≠[]∧ps.length < 1000∧Pt.oks P ps),Zwb h.deep,Zwb h.size⟩
theorem Pcw.many (h:Pcw P s n c k p):Pcw P s (n+1) c (k+1) (.many p):=⟨h.ok,Zwb h.deep,Zwb h.size⟩
theorem Pcw.nt (h:Pcw P s n c k p):Pcw P s (n+1) c (k+1) (.nt p):=⟨h.ok,Zwb h.deep,Zwb h.size⟩
theorem Pcw.any (h:1≤n):Pcw P s n 0 1 .any:=⟨trivial,h,Ztb ..⟩
theorem Pcw.up (h:Pcw P s n c k p):Pcw P s (n+1) c k p:=⟨h.ok,Zeb h.deep,h.size⟩
theorem Pcw.fin {m:Nat}(h:Pcw P s n c k p) (hc:Nat.ble c 2=true) (hk:Nat.ble k m=true):Ya0 P n (2*s+m) p:=⟨h.ok,h.deep,Za h.size (Zcb (Zvb s (Nat.le_of_ble_eq_true hc)) (Nat.le_of_ble_eq_true hk))⟩
theorem Ya0.one (h:Ya0 P n s p):Pcw P s n 1 0 p:=⟨h.1,h.2.1,(Nat.one_mul s).symm▸h.2.2⟩
theorem Ya0.lf (h:Ya0 P 1 1 p) (hn:1≤n):Pcw P s n 0 1 p:=⟨h.1,Za h.2.1 hn,Za h.2.2 (Ztb ..)⟩
end
class inductive AllP (C:Pt→Prop):List Pt→Prop where
 | nil:AllP C []
 | cons {p:Pt}{ps:List Pt}(h:C p) (t:AllP C ps):AllP C (p::ps)
theorem AllP.get {C:Pt→Prop}{ps:List Pt}{d:Pt}(h:AllP C ps) (hd:C d):∀ k,C (ps.getD k d):=h.rec (fun zz=>hd) fun h zz ih k=>k.rec h fun k zz=>ih k
noncomputable def Yd9 (p a b:Pt) (k:Nat):Pt:=[.many p,.nt p,.row [p,a],.row [a,p],.alt [p,a],.alt [a,p],.alt [p,.row []],.row [p,.nt a],.row [a,p,b],.alt [a,.row [p,b],b,p],.alt [b,a,p],.row [.many a,.nt b,.many b,p,.many a],.alt [.nt .any,a,b,p,a,.any]].getD k (.row [a,.many b,p,.many a,b,.nt a,.many p])
theorem Ya0.joined {P:Str→Prop}{n s:Nat}{p a b:Pt}(hn:1≤n) (hp:Ya0 P n s p) (ha:Ya0 P 1 1 a) (hb:Ya0 P 1 1 b) (k:Nat):Ya0 P (n+2) (2*s+10) (Yd9 p a b k) :=
 have p0:Pcw P s n 1 0 p:=hp.one
 have a0:Pcw P s n 0 1 a:=ha.lf hn
 have b0:Pcw P s n 0 1 b:=hb.lf hn
 have p1:=p0.up
 have a1:=a0.up
 have b1:=b0.up
 AllP.get (.cons (p1.many.fin rfl rfl)<|.cons (p1.nt.fin rfl rfl)<|.cons (((Pcs.nil.cons a1).cons p1 |>.row rfl).fin rfl rfl)<|.cons (((Pcs.nil.cons p1).cons a1 |>.row rfl).fin rfl rfl)<|.cons (((Pcs.nil.cons a1).cons p1 |>.alt rfl).fin rfl rfl)<|.cons (((Pcs.nil.cons p1).cons a1 |>.alt rfl).fin rfl rfl)<|.cons (((Pcs.nil.cons (Pcs.nil.row rfl)).cons p1 |>.alt rfl).fin rfl rfl) <|
   .cons (((Pcs.nil.cons a0.nt).cons p1 |>.row rfl).fin rfl rfl)<|.cons ((((Pcs.nil.cons b1).cons p1).cons a1 |>.row rfl).fin rfl rfl)<|.cons (((((Pcs.nil.cons p1).cons b1).cons ((Pcs.nil.cons b0).cons p0 |>.row rfl)).cons a1 |>.alt rfl).fin rfl rfl)<|.cons ((((Pcs.nil.cons p1).cons a1).cons b1 |>.alt rfl).fin rfl rfl) <|
   .cons ((((((Pcs.nil.cons a0.many).cons p1).cons b0.many).cons b0.nt).cons a0.many |>.row rfl).fin rfl rfl)<|.cons (((((((Pcs.nil.cons (.any (Zeb hn))).cons a1).cons p1).cons b1).cons a1).cons (Pcw.any hn).nt |>.alt rfl).fin rfl rfl) .nil)
   (((((((((Pcs.nil.cons p0.many).cons a0.nt).cons b1).cons a0.many).cons p1).cons b0.many).cons a1 |>.row rfl).fin rfl rfl)) k
section
variable {P:Str→Prop}{n s:Nat}{p a b:Pt}
theorem Ya0.mono {n' s':Nat}(h:Ya0 P n s p) (hn:n≤n') (hs:s≤s'):Ya0 P n' s' p:=⟨h.1,Za h.2.1 hn,Za h.2.2 hs⟩
theorem Ya0.weak {R:Str→Prop}(h:Ya0 P n s p) (hm:∀ x,P x→R x):Ya0 R n s p:=⟨Pt.ok_mono hm _ h.1,h.2⟩
end
inductive Pt.sure:Pt→Prop where
 | sign {c:Nat}(h:Yaj c=true):Pt.sure (.sign c)
 | span {a b:Nat}(h1:Yaj a=true) (h2:Yaj b=true) (h3:a≤b):Pt.sure (.span a b)
 | any:Pt.sure .any
theorem Pt.sure.pc {P:Str→Prop}{p:Pt}(h:p.sure):Ya0 P 1 1 p:=h.rec (fun h=>⟨h,Zl _,Zl _⟩) (fun h1 h2 h3=>⟨⟨h1,h2,h3⟩,Zl _,Zl _⟩) ⟨trivial,Zl _,Zl _⟩
theorem Pt.sure.ah {p:Pt}(h:p.sure) {B:Str→Bool}{ps:List Pt}:(Pt.row (p::ps)).ahd B=[]:=h.rec (fun zz=>rfl) (fun zz zz zz=>rfl) rfl
noncomputable def Ygm (x h t:Pt) (k:Nat):Pt:=[.alt [.row [x,h],t],.alt [t,.row [x,h]],.row [x,h]].getD k t
noncomputable def Ymw (p:Pt):Pt:=.row [.alt [.row [p]]]
theorem Ya0.rule {P R:Str→Prop}{s:Nat}{x h t:Pt}(hx:x.sure) (hh:Ya0 P 7 s h) (ht:Ya0 R 7 s t) (hm:∀ y,R y→P y) (k:Nat):Ya0 P 9 (2*s+5) (Ygm x h t k)∧∀ B,∀ y∈(Ygm x h t k).ahd B,R y :=
 have t0:Pcw P s 8 1 0 t:=(ht.weak hm).one.up
 have r0:Pcw P s 8 1 2 (.row [x,h]):=((Pcs.nil.cons hh.one).cons (hx.pc.lf (by decide))).row rfl
 have t1:∀ B,∀ y∈t.ahd B,R y:=fun B=>Pt.ok_ahd B t ht.1
 have r1:∀ B,(Pt.row [x,h]).ahd B=[]:=fun B=>hx.ah
 have al:∀ {p q:Pt}(B:Str→Bool),(Pt.alt [p,q]).ahd B=p.ahd B++(q.ahd B++[]):=fun B=>rfl
 AllP.get (C:=fun p=>Ya0 P 9 (2*s+5) p∧∀ B,∀ y∈p.ahd B,R y) (.cons ⟨((Pcs.nil.cons t0).cons r0 |>.alt rfl).fin rfl rfl,fun B y hy=>by rw [al,r1,List.nil_append,Zlc] at hy; exact t1 B y hy⟩<|.cons ⟨((Pcs.nil.cons r0).cons t0 |>.alt rfl).fin rfl rfl,fun B y hy=>by rw [al,r1,List.nil_append,Zlc] at hy; exact t1 B y hy⟩ <|
   .cons ⟨r0.up.fin rfl rfl,fun B y hy=>by rw [r1] at hy; cases hy⟩ .nil) ⟨t0.up.fin rfl rfl,t1⟩ k
theorem Ya0.wrap {P R:Str→Prop}{s n:Nat}{p:Pt}(h:Ya0 P n s p) (ha:∀ B,∀ y∈p.ahd B,R y):Ya0 P (n+3) (s+3) (Ymw p)∧∀ B,∀ y∈(Ymw p).ahd B,R y :=
 have w:Pcw P s (n+3) 1 3 (Ymw p):=(Pcs.nil.cons ((Pcs.nil.cons ((Pcs.nil.cons h.one).row rfl)).alt rfl)).row rfl
 ⟨⟨w.ok,w.deep,Nat.one_mul s▸w.size⟩,fun B y hy=>by
   simp [Ymw,Pt.ahd2,Pt.ahd3,Pt.ahdAlt1,Pt.ahdAlt2,Pt.ahdRow1,Pt.ahdRow2] at hy; exact ha B y hy⟩
noncomputable def Yc1 (i:Int):Nat:=97+(i.fmod 26).toNat
noncomputable def Ya9 (c:Int) (n:Nat):List Nat:=(List.range n).map fun j:Nat=>Yc1 (c+5*(j:Int))
noncomputable def Ybd (k:Nat):List Nat:=[97+k % 26,97+k / 26]
noncomputable def Ya6 (style cell:Int) (k:Nat):List Nat :=
 if style.fmod 4=0 then Ybd k++Ya9 cell (cell.fmod 11).toNat
 else if style.fmod 4=1 then
   let al:=Ya9 style ((style.fdiv 4).fmod 11).toNat
   let i:=(((style*7).fmod 1009).fmod (al.length+1)).toNat
   al.take i++Ybd k++al.drop i
 else if style.fmod 4=2 then (if k < 12 then List.replicate (k+1) (Yc1 (style.fdiv 4)) else Ybd k++[122])
 else if k < 26 then [97+k] else Ybd k
theorem Yue (i:Int) {n:Nat}(h:0 < (n:Int)):(i.fmod n).toNat < n:=(Int.toNat_lt (Int.fmod_nonneg_of_pos i h)).mpr (Int.fmod_lt_of_pos i h)
theorem Ysm (k m:Nat):(k:Int).fdiv m=((k / m:Nat):Int):=(Int.fdiv_eq_ediv_of_nonneg _ (Zvc m)).trans (Int.natCast_ediv k m).symm
theorem Ywu (k m:Nat):(k:Int).fmod m=((k % m:Nat):Int):=(Int.fmod_eq_emod_of_nonneg _ (Zvc m)).trans (Int.natCast_emod k m).symm
theorem Yf4 (i:Int):97≤Yc1 i∧Yc1 i≤122:=⟨Zy ..,Zzb (Zjc (Yue i (n:=26) (by decide))) 97⟩
theorem Yij {C:List Nat→Prop}{style cell:Int}{k:Nat}(h0:∀ n,n≤10→C (Ybd k++Ya9 cell n)) (h1:∀ n i,n≤10→C ((Ya9 style n).take i++Ybd k++(Ya9 style n).drop i)) (h2:∀ i,k < 12→C (List.replicate (k+1) (Yc1 i))) (h3:C (Ybd k++[122])) (h4:k < 26→C [97+k]) (h5:C (Ybd k)):C (Ya6 style cell k):=by
 unfold Ya6
 by_cases e:style.fmod 4=0
 · rw [if_pos e]; exact h0 _ (Zjc (Yue cell (n:=11) (by decide)))
 rw [if_neg e]
 by_cases e:style.fmod 4=1
 · rw [if_pos e]; exact h1 _ _ (Zjc (Yue (style.fdiv 4) (n:=11) (by decide)))
 rw [if_neg e]
 by_cases e:style.fmod 4=2
 · rw [if_pos e]
   by_cases g:k < 12
   · rw [if_pos g]; exact h2 _ g
   · rw [if_neg g]; exact h3
 rw [if_neg e]
 by_cases g:k < 26
 · rw [if_pos g]; exact h4 g
 · rw [if_neg g]; exact h5
theorem Ybb (c:Int) (n:Nat):(Ya9 c n).length=n:=(Zc _).trans List.length_range
theorem Yl5 (style cell:Int) {k:Nat}(_hk:k < 40):1≤(Ya6 style cell k).length∧(Ya6 style cell k).length≤12 :=
 Yij (C:=fun l=>1≤l.length∧l.length≤12) (fun n h=>by rw [Zf,Ybb]; exact ⟨Za (by decide) (Zy 2 n),Zzb h 2⟩)
   (fun n i h=>by rw [Ze,Zf,Zf,Nat.add_left_comm,← Zf,List.take_append_drop,Ybb]; exact ⟨Za (by decide) (Zy 2 n),Zzb h 2⟩)
   (fun i h=>by rw [List.length_replicate]; exact ⟨Zwb (Zkb k),h⟩) (show 1≤3∧3≤12 by decide) (fun zz=>show 1≤1∧1≤12 by decide) (show 1≤2∧2≤12 by decide)
theorem Yl3 {k:Nat}(hk:k < 40):∀ c∈Ybd k,97≤c∧c≤122:=List.forall_mem_cons.mpr ⟨⟨Zy ..,Zzb (Zjc (Nat.mod_lt k (by decide:26 > 0))) 97⟩,List.forall_mem_cons.mpr ⟨⟨Zy ..,Zzb (Za (Nat.div_le_div_right (Zq hk)) (by decide:40 / 26≤25)) 97⟩,(by intros; contradiction)⟩⟩
theorem Ygj (style cell:Int) {k:Nat}(hk:k < 40):∀ c∈Ya6 style cell k,97≤c∧c≤122:=by
 have hs:=Yl3 hk
 have ht:∀ (x:Int) (n:Nat),∀ c∈Ya9 x n,97≤c∧c≤122:=fun x n c hc=>Zh (Zsb.mp hc) fun j h=>h.2▸Yf4 _
 have ap:∀ {a b:List Nat},(∀ c∈a,97≤c∧c≤122)→(∀ c∈b,97≤c∧c≤122)→∀ c∈a++b,97≤c∧c≤122:=fun h g c hc=>(Zm.mp hc).elim (h c) (g c)
 exact Yij (C:=fun l=>∀ c∈l,97≤c∧c≤122) (fun n zz=>ap hs (ht _ _)) (fun n i zz=>ap (ap (fun c h=>ht _ _ c (List.mem_of_mem_take h)) hs) fun c h=>ht _ _ c (List.mem_of_mem_drop h)) (fun i zz c hc=>(List.mem_replicate.mp hc).2▸Yf4 _) (ap hs fun c h=>Zj.mp h▸(by decide:97≤122∧122≤122))
   (fun g c h=>Zj.mp h▸⟨Zy ..,Zzb (Zjc g) 97⟩) hs
theorem Ycy {k k':Nat}(h:Ybd k=Ybd k'):k=k':=by
 have h1:97+k % 26=97+k' % 26:=congrArg (·.headD 0) h
 have h2:97+k / 26=97+k' / 26:=congrArg (·.tail.headD 0) h
 rw [← Nat.div_add_mod k 26,Nat.add_left_cancel h1,Nat.add_left_cancel h2,Nat.div_add_mod]
theorem Ymb {style c c':Int}{k k':Nat}(hk:k < 40) (hk':k' < 40) (h:Ya6 style c k=Ya6 style c' k'):k=k':=by
 unfold Ya6 at h
 by_cases e:style.fmod 4=0
 · rw [if_pos e,if_pos e] at h; exact Ycy (List.append_inj h rfl).1
 rw [if_neg e,if_neg e] at h
 by_cases e:style.fmod 4=1
 · rw [if_pos e,if_pos e] at h
   rw [Ze,Ze] at h
   exact Ycy (List.append_inj (List.append_cancel_left h) rfl).1
 rw [if_neg e,if_neg e] at h
 have two:∀ {k:Nat}{x:Nat},List.replicate 3 x=Ybd k++[122]→k < 40→False:=fun {k x} h hk=>by
   have h1:x=97+k / 26:=congrArg (·.tail.headD 0) h
   have h2:x=122:=congrArg (·.tail.tail.headD 0) h
   have h3:97+k / 26≤97+1:=Zzb (Za (Nat.div_le_div_right (Zq hk)) (by decide:40 / 26≤1)) 97
   rw [← h1,h2] at h3; exact absurd h3 (by decide)
 by_cases e:style.fmod 4=2
 · rw [if_pos e,if_pos e] at h
   by_cases g:k < 12 <;> by_cases g':k' < 12
   · rw [if_pos g,if_pos g'] at h
     have h:=congrArg List.length h
     rw [List.length_replicate,List.length_replicate] at h; exact Nat.succ.inj h
   · rw [if_pos g,if_neg g'] at h
     have l:=congrArg List.length h
     rw [List.length_replicate] at l
     have l:k=2:=Nat.succ.inj l
     rw [l] at h; exact (two h hk').elim
   · rw [if_neg g,if_pos g'] at h
     have l:=congrArg List.length h
     rw [List.length_replicate] at l
     have l:k'=2:=(Nat.succ.inj l).symm
     rw [l] at h; exact (two h.symm hk).elim
   · rw [if_neg g,if_neg g'] at h; exact Ycy (List.append_inj h rfl).1
 · rw [if_neg e,if_neg e] at h
   by_cases g:k < 26 <;> by_cases g':k' < 26
   · rw [if_pos g,if_pos g'] at h; exact Nat.add_left_cancel (congrArg (·.headD 0) h)
   · rw [if_pos g,if_neg g'] at h; exact absurd (congrArg List.length h) (by decide:¬ 1=2)
   · rw [if_neg g,if_pos g'] at h; exact absurd (congrArg List.length h) (by decide:¬ 2=1)
   · rw [if_neg g,if_neg g'] at h; exact Ycy h
end
section
section
variable {p:Pt}{B:Str→Bool}
noncomputable def Ymv (B:Str→Bool) (row:Bool):List Pt→List Str
 | []=>[]
 | p::r=>p.ahd B++if row && !p.may B then [] else Ymv B row r
theorem Yiq (B:Str→Bool) (row:Bool):Ymv B row []=[]:=rfl
theorem Yov (B:Str→Bool) (row:Bool) (p:Pt) (r:List Pt):Ymv B row (p::r)=Pt.ahd B p++if (row && !Pt.may B p)=true then [] else Ymv B row r:=rfl
theorem Yso:∀ ps:List Pt,Pt.ahdRow B ps=Ymv B true ps:=by
 intro xx
 induction xx with
 | nil =>
   simp [Pt.ahdRow1,Yiq]
 | cons p r ih =>
   rw [Pt.ahdRow2,Yov,ih]
   cases p.may B <;> simp
theorem Yrx:∀ ps:List Pt,Pt.ahdAlt B ps=Ymv B false ps:=by
 intro xx
 induction xx with
 | nil =>
   simp [Pt.ahdAlt1,Yiq]
 | cons p r ih =>
   rw [Pt.ahdAlt2,Yov,ih]; simp
theorem Pt.ahd_kids (h:p.word ≠ "rule"):p.ahd B=Ymv B (p.word == "row") p.kids:=by
 have e1:((Str.ofString "row" : Str) == "row")=true:=by decide +kernel
 have e2:((Str.ofString "or" : Str) == "row")=false:=by decide +kernel
 have e3:((Str.ofString "many" : Str) == "row")=false:=by decide +kernel
 have e4:((Str.ofString "not" : Str) == "row")=false:=by decide +kernel
 cases p with
 | rule n=>exact absurd rfl h
 | row ps=>simp only [Pt.ahd2,Pt.kids1,Pt.word5,e1,Yso]
 | alt ps=>simp only [Pt.ahd3,Pt.kids2,Pt.word6,e2,Yrx]
 | many q=>simp only [Pt.ahd4,Pt.kids3,Pt.word7,e3,Yiq,Yov]; simp
 | nt q=>simp only [Pt.ahd5,Pt.kids4,Pt.word8,e4,Yiq,Yov]; simp
 | sign z1=>simp only [Pt.ahd6,Pt.kids5,Yiq]
 | span z1 z2=>simp only [Pt.ahd7,Pt.kids6,Yiq]
 | any=>simp only [Pt.ahd8,Pt.kids7,Yiq]
end
theorem Ysi {α:Type}(f:α→Bool) (l:List α):(l.map fun k=>V.bool (f k))=(l.map f).map V.bool:=List.map_map.symm
theorem Pt.size_mem {p q:Pt}(h:q∈p.kids):q.size < p.size:=by
 have h1:=Pt.kids_size p
 have:∀ ps:List Pt,q∈ps→q.size≤Pt.sizes ps:=by
   intro ps
   induction ps with
   | nil=>intro h; cases h
   | cons a r ih =>
     intro h
     rw [Pt.sizes2]
     rcases Zg.mp h with rfl | h
     · (clear h1 ih; exact Zy q.size (sizes r))
     · have:=ih h; (clear ih h1; lia)
 have:=this _ h
 lia
noncomputable def Ygn (kvs:List (Str×V)) (x:Str):Bool:=kvs.any fun kv=>decide (kv.1=x)
theorem Yla {bs:List Str}:Ygn (Ydk bs)=inB bs:=by
 funext x; exact Yga
section
variable {σ:Hp}{a b:Nat}{o o':Yaq}{junk:Hp}
theorem Yao {α:Type}{P:α→Prop}{a b:α}(e:a=b) (h:P b):P a:=e▸h
theorem Yab (h:σ[a]?=some o):(σ++junk)[a]?=some o:=by
 rw [Zbb (Zb.mp h).1]; exact h
theorem Yha (h:σ[a]?=some o):a < σ.length:=(Zb.mp h).1
theorem Yhj (h:σ[a]?=some o):(σ.set a o')[a]?=some o':=by
 rw [Zw (Yha h)]
theorem Ybj (hn:b≠a):(σ.set b o')[a]?=σ[a]?:=Zi hn
theorem Yac:(σ++[o])[σ.length]?=some o:=by simp
theorem Ytd (h:σ.length≤a):∃ jk,(σ++junk).set a o=σ++jk:=⟨_,List.set_append_right _ _ h⟩
end
end
section
mutual
theorem Pt.ahd_asks {B:Str→Bool}{n:Str}:∀ p:Pt,n∈p.ahd B→p.Asks n
 | .sign _,h | .span _ _,h | .any,h=>by simp [Pt.ahd6,Pt.ahd7,Pt.ahd8] at h
 | .rule m,h=>by simp only [Pt.ahd1,Zj] at h; subst h; exact .here
 | .row ps,h=>by
   simp only [Pt.ahd2] at h
   obtain ⟨q,hq,ha⟩:=Pt.ahdRow_asks ps h
   exact .deep (p:=.row ps) hq ha
 | .alt ps,h=>by
   simp only [Pt.ahd3] at h
   obtain ⟨q,hq,ha⟩:=Pt.ahdAlt_asks ps h
   exact .deep (p:=.alt ps) hq ha
 | .many p,h=>by simp only [Pt.ahd4] at h; exact .deep (p:=.many p) (Zj.mpr rfl) (Pt.ahd_asks p h)
 | .nt p,h=>by simp only [Pt.ahd5] at h; exact .deep (p:=.nt p) (Zj.mpr rfl) (Pt.ahd_asks p h)
theorem Pt.ahdRow_asks {B:Str→Bool}{n:Str}:∀ ps:List Pt,n∈Pt.ahdRow B ps→∃ q∈ps,q.Asks n
 | [],h=>by simp [Pt.ahdRow1] at h
 | p::r,h=>by
   simp only [Pt.ahdRow2,Zm] at h
   rcases h with h | h
   · exact ⟨p,by simp,Pt.ahd_asks p h⟩
   · split at h
     · obtain ⟨q,hq,ha⟩:=Pt.ahdRow_asks r h
       exact ⟨q,Zd _ hq,ha⟩
     · cases h
theorem Pt.ahdAlt_asks {B:Str→Bool}{n:Str}:∀ ps:List Pt,n∈Pt.ahdAlt B ps→∃ q∈ps,q.Asks n
 | [],h=>by simp [Pt.ahdAlt1] at h
 | p::r,h=>by
   simp only [Pt.ahdAlt2,Zm] at h
   rcases h with h | h
   · exact ⟨p,by simp,Pt.ahd_asks p h⟩
   · obtain ⟨q,hq,ha⟩:=Pt.ahdAlt_asks r h
     exact ⟨q,Zd _ hq,ha⟩
end
noncomputable def Yjo (kvs:List (Str×V)) (x:Str):Option V:=(kvs.find? fun kv=>decide (kv.1=x)).map (·.2)
theorem Ydd:∀ (kvs:List (Str×V)) (x:Str),Yjo kvs x=kvs.lookup x
 | [],z1=>rfl
 | (k,v)::r,x=>by
   unfold Yjo
   rw [List.find?_cons,List.lookup_cons]
   by_cases e:k=x
   · subst e; simp
   · have e2:¬ x=k:=fun q=>e q.symm
     simp only [e,decide_false,Zmc.mpr e2]
     exact Ydd r x
theorem Yin (kvs:List (Str×V)) (k x:Str) (v:V):Yjo (Yca kvs k v) x=if x=k then some v else Yjo kvs x:=by
 rw [Ydd,Ydd,Yfe]
noncomputable def Yb9 (rs:List (Str×Pt)):List (Str×V):=rs.map fun r=>(r.1,r.2.v)
theorem Yit {rs:List (Str×Pt)}{n:Str}:((Yb9 rs).any fun kv=>decide (kv.1=n))=decide (n∈rs.map (·.1)):=by
 rw [Bool.eq_iff_iff]; simp [Yb9]
theorem Yiv {rs:List (Str×Pt)}{r:Str×Pt}(h:r.1∉rs.map (·.1)):Yca (Yb9 rs) r.1 r.2.v=Yb9 (rs++[r]):=by
 unfold Yca; rw [Yit,if_neg (by simpa using h)]; simp [Yb9]
theorem Yjl {rs:List (Str×Pt)}(hn:(rs.map (·.1)).Nodup) {r:Str×Pt}(hr:r∈rs):Yjo (Yb9 rs) r.1=some r.2.v:=by
 induction rs with
 | nil=>cases hr
 | cons a t ih =>
   rw [List.map_cons,Zxc] at hn
   unfold Yjo Yb9
   rw [List.map_cons,List.find?_cons]
   rcases Zg.mp hr with rfl | hr
   · simp
   · have:¬ a.1=r.1:=fun e=>hn.1 (e▸Zsb.mpr ⟨r,hr,rfl⟩)
     simp only [this,decide_false]
     exact ih hn.2 hr
noncomputable def Yc6 (rs:List (Str×Pt)) (B:Str→Bool) (kl:List (Str×V)) (lo:Nat) (σ:Hp):Prop:=∀ r∈rs,∃ j,lo < j∧Yjo kl r.1=some (.ref j)∧σ[j]?=some (.list ((r.2.ahd B).map V.str))
theorem Yc6.up {rs:List (Str×Pt)}{B:Str→Bool}{kl:List (Str×V)}{lo:Nat}{σ junk:Hp}(h:Yc6 rs B kl lo σ):Yc6 rs B kl lo (σ++junk):=fun r hr=>by
 obtain ⟨j,h0,h1,h2⟩:=h r hr
 exact ⟨j,h0,h1,Yab h2⟩
inductive Yqp (rs:List (Str×Pt)) (bs:List Str) (g:Nat) (σ:Hp):Prop where
 | mk (a b c e:Nat) (kl:List (Str×V)) (h0:g < a) (h1:a < b) (h2:b < c) (h3:c < e) (h4:σ[g]?=some (.inst "Grammar" [("pairs",.ref a),("table",.ref b),("bare",.ref c),("leads",.ref e)])) (h5:σ[a]?=some (.list (rs.map Ybi))) (h6:σ[b]?=some (.sdict (Yb9 rs))) (h7:σ[c]?=some (.sdict (Ydk bs))) (h8:σ[e]?=some (.sdict kl)) (h9:Yc6 rs (inB bs) kl g σ):Yqp rs bs g σ
theorem Yqp.up {rs:List (Str×Pt)}{bs:List Str}{g:Nat}{σ junk:Hp}(h:Yqp rs bs g σ):Yqp rs bs g (σ++junk):=by
 obtain ⟨a,b,c,e,kl,h1,h2,h3,h4,h5,h6,h7,h8,h9,h10⟩:=h
 exact ⟨a,b,c,e,kl,h1,h2,h3,h4,Yab h5,Yab h6,Yab h7,Yab h8,Yab h9,h10.up⟩
structure Ysr (rs:List (Str×Pt)) (B:Str→Bool) (x:Str) (ms ws:List Str):Prop where
 nodup:ms.Nodup
 mr:∀ y∈ms,Rch rs B x y
 wr:∀ y∈ws,Rch rs B x y
 x0:∀ y,Yrk rs B x y→y∈ms∨y∈ws
 cl:∀ y∈ms,∀ z,Yrk rs B y z→z∈ms∨z∈ws
theorem Ysr.end {rs:List (Str×Pt)}{B:Str→Bool}{x:Str}{ms:List Str}(h:Ysr rs B x ms []):decide (x∈ms)=true↔Rch rs B x x:=by
 rw [decide_eq_true_iff]
 refine ⟨h.mr x,fun hr=>?_⟩
 have:∀ y,Rch rs B x y→y∈ms:=by
   intro y hy
   induction hy with
   | one h1=>exact (h.x0 _ h1).resolve_right (by simp)
   | more z1 h1 ih=>exact (h.cl _ ih _ h1).resolve_right (by simp)
 exact this x hr
theorem Ysr.old {rs:List (Str×Pt)}{B:Str→Bool}{x y:Str}{ms ws:List Str}(h:Ysr rs B x ms (ws++[y])) (hy:y∈ms):Ysr rs B x ms ws where
 nodup:=h.nodup
 mr:=h.mr
 wr:=fun z hz=>h.wr z (Zxb _ hz)
 x0:=fun z hz=>by
   rcases h.x0 z hz with g | g
   · exact .inl g
   · rcases Zm.mp g with g | g
     · exact .inr g
     · cases Zj.mp g; exact .inl hy
 cl:=fun a ha z hz=>by
   rcases h.cl a ha z hz with g | g
   · exact .inl g
   · rcases Zm.mp g with g | g
     · exact .inr g
     · cases Zj.mp g; exact .inl hy
theorem Yrk.uniq {rs:List (Str×Pt)}{B:Str→Bool}(hn:(rs.map (·.1)).Nodup) {r:Str×Pt}(hr:r∈rs) {z:Str}(h:Yrk rs B r.1 z):z∈r.2.ahd B:=by
 obtain ⟨r',hr',e,hz⟩:=h
 obtain ⟨i,hi⟩:=List.mem_iff_getElem?.mp hr
 obtain ⟨j,hj⟩:=List.mem_iff_getElem?.mp hr'
 have:=Yki hn hi hj e.symm
 subst this
 rw [hi] at hj; cases hj; exact hz
theorem Ysr.new {rs:List (Str×Pt)}{B:Str→Bool}{x:Str}{ms ws:List Str}{r:Str×Pt}(hn:(rs.map (·.1)).Nodup) (hr:r∈rs) (h:Ysr rs B x ms (ws++[r.1])) (hy:r.1∉ms):Ysr rs B x (ms++[r.1]) (ws++r.2.ahd B) where
 nodup:=by
   rw [List.nodup_append]
   exact ⟨h.nodup,by simp,fun a ha b hb=>by cases Zj.mp hb; exact fun e=>hy (e▸ha)⟩
 mr:=fun z hz=>by
   rcases Zm.mp hz with g | g
   · exact h.mr z g
   · cases Zj.mp g; exact h.wr _ (by simp)
 wr:=fun z hz=>by
   rcases Zm.mp hz with g | g
   · exact h.wr z (Zxb _ g)
   · exact .more (h.wr r.1 (by simp)) ⟨r,hr,rfl,g⟩
 x0:=fun z hz=>by
   rcases h.x0 z hz with g | g
   · exact .inl (Zxb _ g)
   · rcases Zm.mp g with g | g
     · exact .inr (Zxb _ g)
     · exact .inl (Zyb _ g)
 cl:=fun a ha z hz=>by
   rcases Zm.mp ha with g | g
   · rcases h.cl a g z hz with g | g
     · exact .inl (Zxb _ g)
     · rcases Zm.mp g with g | g
       · exact .inr (Zxb _ g)
       · exact .inl (Zyb _ g)
   · cases Zj.mp g
     exact .inr (Zyb _ (Yrk.uniq hn hr hz))
theorem Rch.last {rs:List (Str×Pt)}{B:Str→Bool}{x y:Str}(h:Rch rs B x y):∃ r∈rs,y∈r.2.ahd B:=by
 cases h with
 | one h=>obtain ⟨r,h1,zz,h2⟩:=h; exact ⟨r,h1,h2⟩
 | more z1 h=>obtain ⟨r,h1,zz,h2⟩:=h; exact ⟨r,h1,h2⟩
theorem Yax.lead {rs:List (Str×Pt)}(hg:Yax rs) {B:Str→Bool}{x y:Str}(h:Rch rs B x y):∃ r∈rs,r.1=y:=by
 obtain ⟨r,h1,h2⟩:=h.last
 have:=(hg.all r h1).asks y (Pt.ahd_asks _ h2)
 obtain ⟨r',h3,h4⟩:=Zsb.mp this
 exact ⟨r',h3,h4⟩
theorem Yhy {α:Type}[BEq α] [LawfulBEq α] {ms ns:List α}(h:ms.Nodup) (hs:∀ x∈ms,x∈ns):ms.length≤ns.length:=by
 induction ms generalizing ns with
 | nil=>simp
 | cons a r ih =>
   rw [Zxc] at h
   have ha:=hs a (by simp)
   have:=ih (ns:=ns.erase a) h.2 fun x hx=>by
     have hne:x≠a:=fun e=>h.1 (e▸hx)
     exact (List.mem_erase_of_ne hne).mpr (hs x (Zd _ hx))
   rw [List.length_erase_of_mem ha] at this
   have:=List.length_pos_of_mem ha
   simp only [List.length_cons]
   (clear ih; lia)
end
section
structure Mk (σ:Hp) (l:Nat) (fs:List (Str×V)) (ρ':Loc) (σ':Hp):Prop where
 self:ρ' "self" = some (.ref σ.length)
 ru:ρ' "rules" = some (.ref l)
 pre:∃ junk,σ'=σ++junk
 obj:σ'[σ.length]?=some (.inst "Grammar" fs)
section
variable {σ σ':Hp}{l:Nat}{fs fs':List (Str×V)}{ρ':Loc}{o o':Yaq}{a:Nat}
theorem Mk.up {jk:Hp}(h:Mk σ l fs ρ' σ'):Mk σ l fs ρ' (σ'++jk):=by
 obtain ⟨h1,h2,⟨junk,rfl⟩,h4⟩:=h
 exact ⟨h1,h2,⟨junk++jk,by rw [Ze]⟩,Yab h4⟩
theorem Mk.put (h:Mk σ l fs ρ' σ') (ha:σ.length < a):Mk σ l fs ρ' (σ'.set a o):=by
 obtain ⟨h1,h2,⟨junk,rfl⟩,h4⟩:=h
 exact ⟨h1,h2,Ytd (by (clear h4; exact Zq ha)),by rw [Ybj (by (clear h4; exact Zoc ha))]; exact h4⟩
theorem Mk.field (h:Mk σ l fs ρ' σ'):Mk σ l fs' ρ' ((σ'++[o]).set σ.length (.inst "Grammar" fs'))∧((σ'++[o]).set σ.length (.inst "Grammar" fs'))[σ'.length]?=some o∧σ.length < σ'.length∧∀ a o',a≠σ.length→σ'[a]?=some o'→((σ'++[o]).set σ.length (.inst "Grammar" fs'))[a]?=some o':=by
 obtain ⟨h1,h2,⟨junk,rfl⟩,h4⟩:=h
 have hlt:=Yha h4
 refine ⟨⟨h1,h2,?_,Yhj (Yab h4)⟩,?_,hlt,fun a o' hn e=>?_⟩
 · rw [Ze]; exact Ytd (Zl _)
 · rw [Ybj (by (clear h4; exact Znc hlt))]; exact Yac
 · rw [Ybj (Ne.symm hn)]; exact Yab e
theorem Mk.rules {rs:List (Str×Pt)}(h:Mk σ l fs ρ' σ') (hl:σ[l]?=some (.list (rs.map Ybi))):σ'[l]?=some (.list (rs.map Ybi)):=by
 obtain ⟨h1,h2,⟨junk,rfl⟩,h4⟩:=h
 exact Yab hl
end
structure Ynz (rs:List (Str×Pt)) (bs:List Str):Prop where
 nodup:bs.Nodup
 sub:∀ x∈bs,x∈rs.map (·.1)
 least:∀ S:Str→Bool,(∀ r∈rs,r.2.may S=true→S r.1=true)→∀ x∈bs,S x=true
theorem Ynz.nil (rs:List (Str×Pt)):Ynz rs []:=⟨by simp,by simp,fun zz zz zz h=>by cases h⟩
theorem Ynz.len {rs:List (Str×Pt)}{bs:List Str}(h:Ynz rs bs):bs.length≤rs.length:=by
 simpa using Yhy h.nodup h.sub
theorem Ynz.add {rs:List (Str×Pt)}{bs:List Str}{r:Str×Pt}(h:Ynz rs bs) (hr:r∈rs) (hn:r.1∉bs) (hm:r.2.may (inB bs)=true):Ynz rs (bs++[r.1]) where
 nodup:=by
   rw [List.nodup_append]
   exact ⟨h.nodup,by simp,fun a ha b hb=>by cases Zj.mp hb; exact fun e=>hn (e▸ha)⟩
 sub:=fun x hx=>by
   rcases Zm.mp hx with g | g
   · exact h.sub x g
   · cases Zj.mp g; exact Zsb.mpr ⟨r,hr,rfl⟩
 least:=fun S hS x hx=>by
   rcases Zm.mp hx with g | g
   · exact h.least S hS x g
   · cases Zj.mp g
     exact hS r hr (Pt.may_mono (fun y hy=>h.least S hS y (Ye8.mp hy)) _ hm)
theorem Ynz.bare {rs:List (Str×Pt)}{bs:List Str}(h:Ynz rs bs) (hc:∀ r∈rs,r.2.may (inB bs)=true→r.1∈bs):Yzy rs bs:=⟨h.sub,hc,h.least⟩
theorem Yc6.snoc {rs:List (Str×Pt)}{B:Str→Bool}{kl:List (Str×V)}{σ σ':Hp}{r:Str×Pt}{j lo:Nat}(h:Yc6 rs B kl lo σ) (hn:r.1∉rs.map (·.1)) (hk:∀ (a:Nat) (vs:List V),σ[a]?=some (.list vs)→σ'[a]?=some (.list vs)) (hlo:lo < j) (hj:σ'[j]?=some (.list ((r.2.ahd B).map V.str))):Yc6 (rs++[r]) B (Yca kl r.1 (.ref j)) lo σ':=fun r' hr'=>by
 rcases Zm.mp hr' with g | g
 · obtain ⟨i,h0,h1,h2⟩:=h r' g
   refine ⟨i,h0,?_,hk _ _ h2⟩
   rw [Yin,if_neg (fun e:r'.1=r.1=>hn (e▸Zsb.mpr ⟨r',g,rfl⟩))]
   exact h1
 · cases Zj.mp g
   exact ⟨j,hlo,by rw [Yin,if_pos rfl],hj⟩
end
section
open PySem PySem.Calls PyProof.Rows PySem.SeqAt PySem.Builtin PySem.Builtin.Str
noncomputable def S (l:List Nat):Str:=⟨l.toArray⟩
theorem Yrj (a b:List Nat):S a++S b=S (a++b):=by
 show (⟨a.toArray++b.toArray⟩:Str)=⟨(a++b).toArray⟩
 rw [List.append_toArray]
theorem Ya4 (a:List Nat):(S a).length=a.length:=by simp [S,Str.length]
theorem Yzo {a b:List Nat}(h:S a=S b):a=b:=by
 simpa [S] using h
theorem Ytj:∀ l:List Nat,Txt.join (S []) (l.map fun c=>S [c])=S l:=by
 intro l
 show glued _ _=_
 rw [StrLaws.glued_eq_join]
 induction l with
 | nil=>rfl
 | cons a r ih =>
   cases r with
   | nil=>rfl
   | cons b t =>
     show S [a]++S []++Str.join (S []) ((b::t).map fun c=>S [c])=_
     rw [ih,Yrj,Yrj]; rfl
theorem Yln {l:List Nat}{lo hi:Option Int}{a b:Nat}(e:strSliceIndices lo hi 1 (S l).length=strSliceIndices (some (a:Int)) (some (b:Int)) 1 (S l).length) (hab:a≤b) (hb:b≤l.length):Txt.slice (S l) lo hi=S ((l.drop a).take (b - a)):=by
 unfold Txt.slice
 rw [e]
 by_cases hq:((1:Int) == 1 && (strSliceIndices (some (a:Int)) (some (b:Int)) 1 (S l).length).length == (S l).length)=true
 · rw [if_pos hq]
   have hq:=eq_of_beq (Bool.and_eq_true_iff.mp hq).2
   rw [StrLaws.strSliceIndices_plain (len:=(S l).length) hab hb,Zc,List.length_range] at hq
   rw [((List.take_sublist (b - a) (l.drop a)).trans (List.drop_sublist a l)).eq_of_length (by rw [List.length_take,List.length_drop,Nat.min_eq_left (Nat.sub_le_sub_right hb a)]; exact hq)]
 · rw [if_neg hq]; exact congrArg S (StrLaws.sliced_plain (S l) hab hb)
theorem Ymq {l:List Nat}{i:Nat}(h:i≤l.length):Txt.slice (S l) none (some (i:Int))=S (l.take i) :=
 Yln (a:=0) (b:=i) (by
   have e:max (0:Int) (min 0 ((S l).length:Int))=0:=by rw [Int.min_eq_left (Zvc _)]; rfl
   show sliceRange 0 _ 1=sliceRange (max (0:Int) (min 0 ((S l).length:Int))) _ 1
   rw [e]) (Zkb i) h
theorem Yjn {l:List Nat}{i:Nat}(h:i≤l.length):Txt.slice (S l) (some (i:Int)) none=S (l.drop i):=by
 have e:max (0:Int) (min ((S l).length:Int) ((S l).length:Int))=(S l).length:=by rw [Int.min_self]; exact Int.max_eq_right (Zvc _)
 have g:¬ (((S l).length:Int) < 0):=Int.not_lt.mpr (Zvc _)
 have:=Yln (l:=l) (lo:=some (i:Int)) (hi:=none) (a:=i) (b:=(S l).length) (by
   show sliceRange _ ((S l).length:Int) 1=sliceRange _ (max (0:Int) (min (if ((S l).length:Int) < 0 then _ else ((S l).length:Int)) ((S l).length:Int))) 1
   rw [if_neg g,e]) h (Zl _)
 exact this.trans (congrArg S (List.take_of_length_le (Zr List.length_drop)))
theorem Yjm:∀ (n c:Nat) (acc:List Nat),(List.replicate n #[c]).foldl (· ++ ·) acc.toArray=(acc++List.replicate n c).toArray
 | 0,c,acc=>by simp
 | n+1,c,acc=>by
   rw [List.replicate_succ,List.foldl_cons]
   have:acc.toArray ++ #[c]=(acc++[c]).toArray:=by simp
   rw [this,Yjm n c (acc++[c])]
   simp [List.replicate_succ]
theorem Y0c (c n:Nat):Txt.mul (S [c]) ((n:Int)+1)=S (List.replicate (n+1) c):=by
 unfold Txt.mul
 rw [if_neg (by lia)]
 split
 · rename_i h
   simp [Ya4] at h
   have:n=0:=by lia
   subst this; rfl
 · have e:((n:Int)+1).toNat=n+1:=rfl
   rw [e]
   have:=Yjm (n+1) c []
   show (⟨(List.replicate (n+1) #[c]).foldl (· ++ ·) #[]⟩:Str)=S _
   rw [this]; simp [S]
theorem Ysp {style cell:Int}{k:Nat}(hk:k < 40):Yel (S (Ya6 style cell k))=true:=by
 have h:=Yl5 style cell hk
 have h2:=Ygj style cell hk
 simp only [Yel,Zob,decide_eq_true_eq,Ya4,List.all_eq_true]
 refine ⟨h,fun c hc=>?_⟩
 have:=h2 c (by simpa [S] using hc)
 simp [Ydq]; exact this
theorem Yjz {a b c:Nat}{bs:List Str}(ha:Yaj a=true) (hb:Yaj b=true) (hc:Yaj c=true) (hp:bs.Perm [S [a],S [b],S [c]]) (hs:sortedS bs=true):∃ x y z,bs=[S [x],S [y],S [z]]∧Yaj x=true∧Yaj y=true∧Yaj z=true∧x≤y∧y≤z:=by
 have K:∀ r∈bs,∃ x,r=S [x]∧Yaj x=true:=fun r hr=>(List.forall_mem_cons.mpr ⟨⟨a,rfl,ha⟩,List.forall_mem_cons.mpr ⟨⟨b,rfl,hb⟩,List.forall_mem_cons.mpr ⟨⟨c,rfl,hc⟩,(by intros; contradiction)⟩⟩⟩:∀ r∈[S [a],S [b],S [c]],∃ x,r=S [x]∧Yaj x=true) r (hp.mem_iff.mp hr)
 refine ex3 (len3 hp.length_eq) fun u v t e=>?_
 clear hp
 rw [e] at K hs
 refine (K u (.head _)).elim fun x hx=>(K v (.tail _ (.head _))).elim fun y hy=>(K t (.tail _ (.tail _ (.head _)))).elim fun z hz=>?_
 refine ⟨x,y,z,e.trans (by rw [hx.1,hy.1,hz.1]),hx.2,hy.2,hz.2,?_⟩
 rw [hx.1,hy.1,hz.1] at hs
 clear K hx hy hz e
 simp [sortedS,risingS,S,PySem.Spec.ltCps] at hs
 lia
end
section
noncomputable def sOk (n:Str):Prop:=PyData.strOk n=true
theorem Yrr {n:Str}(h:Yel n=true):sOk n:=by
 simp only [Yel,Zob,List.all_eq_true] at h
 unfold sOk PyData.strOk
 rw [Array.all_eq_true_iff_forall_mem]
 intro c hc
 have:=h.2 c (by simpa using hc)
 simp only [Ydq,Zob,decide_eq_true_eq] at this
 simp; (clear hc h; lia)
theorem Pt.oks_of {P:Str→Prop}:∀ ps:List Pt,(∀ q∈ps,q.ok P)→Pt.oks P ps
 | [],z1=>by simp [Pt.oks1]
 | p::r,h=>by rw [Pt.oks2]; exact ⟨h p (by simp),Pt.oks_of r fun q hq=>h q (Zd _ hq)⟩
theorem Pt.ok_of {P:Str→Prop}:∀ (n:Nat) (p:Pt),p.deep≤n→p.good=true→Pt.All Pt.few p→(∀ m,p.Asks m→P m)→p.ok P:=by
 intro n
 induction n with
 | zero=>intro p hn; exact absurd (Pt.deep_pos p) (by lia)
 | succ n ih =>
   intro p hn hg hf ha
   obtain ⟨hfk,hfc⟩:=hf
   have kids:(∀ q∈p.kids,q.good=true)→∀ q∈p.kids,q.ok P:=fun hgk q hq=>ih q (by have:=Pt.kids_deep hq; (clear ih; lia)) (hgk q hq) (hfc q hq) fun m hm=>ha m (.deep hq hm)
   cases p with
   | sign c=>simpa only [Pt.ok1,Pt.ok2,Pt.ok3,Pt.ok4,Pt.ok5,Pt.ok6,Pt.ok7,Pt.ok8,Pt.good1,Pt.good2,Pt.good3,Pt.good4,Pt.good5,Pt.good6,Pt.good7,Pt.good8] using hg
   | span a b =>
     simp only [Pt.good2,Zob,decide_eq_true_eq] at hg
     rw [Pt.ok2]; exact ⟨hg.1.1,hg.1.2,hg.2⟩
   | any=>simp [Pt.ok3]
   | rule m=>rw [Pt.ok4]; exact ha m .here
   | row ps=>rw [Pt.ok5]; rw [Pt.good5] at hg; exact ⟨hfk,Pt.oks_of ps (kids fun q hq=>Pt.goods_mem hg hq)⟩
   | alt ps =>
     rw [Pt.good6,Zob] at hg
     rw [Pt.ok6]; exact ⟨by simpa using hg.1,hfk,Pt.oks_of ps (kids fun q hq=>Pt.goods_mem hg.2 hq)⟩
   | many q=>rw [Pt.ok7]; rw [Pt.good7] at hg; exact kids (fun q' hq=>by cases Zj.mp hq; exact hg) q (Zj.mpr rfl)
   | nt q=>rw [Pt.ok8]; rw [Pt.good8] at hg; exact kids (fun q' hq=>by cases Zj.mp hq; exact hg) q (Zj.mpr rfl)
end
section
set_option genCtorIdx false in
structure Fr (κ:Type) where
 piece:Pt
 place:Nat
 turn:Nat
 here:Nat
 kids:List κ
noncomputable abbrev An (κ:Type):=Option Nat×List κ
set_option genCtorIdx false in
structure Bk (β κ:Type) where
 look:β→Option β
 known:β→Str→Nat→Option (An κ)
 begun:β→Str→Nat→Option β
 ended:β→Str→Nat→An κ→β
 told:β→Str→Nat→An κ→An κ
 few:β→Prop
inductive Out (β κ:Type) where
 | push (f:Fr κ) (p:Pt) (i:Nat) (b:β)
 | pop (a:An κ) (b:β)
 | stop
set_option genCtorIdx false in
structure Ms (β κ:Type) where
 fr:List (Fr κ)
 an:Option (An κ)
 bk:β
noncomputable def Pt.takesC:Pt→Nat→Bool
 | .any,z1=>true
 | .sign a,c=>a == c
 | .span a b,c=>decide (a≤c) && decide (c≤b)
 | .rule _,_ | .row _,_ | .alt _,_ | .many _,_ | .nt _,_=>false
noncomputable def Pt.isLf:Pt→Bool
 | .sign _ | .span _ _ | .any=>true
 | z1=>false
theorem Pt.takesC2 (x a:Nat):(Pt.sign a).takesC x=(a == x):=rfl
theorem Pt.takesC3 (x a b:Nat):(Pt.span a b).takesC x=(decide (a≤x) && decide (x≤b)):=rfl
section
variable {β κ:Type}(G:Str→Pt) (txt:List Nat) (B:Bk β κ)
noncomputable def Fr.new (p:Pt) (i:Nat):Fr κ:=⟨p,i,0,i,[]⟩
noncomputable def Fr.on (f:Fr κ) (e:Nat) (ks:List κ):Fr κ:=⟨f.piece,f.place,f.turn,e,f.kids++ks⟩
noncomputable def Fr.nxt (f:Fr κ):Fr κ:=⟨f.piece,f.place,f.turn+1,f.here,f.kids⟩
noncomputable def Ybp (ps:List Pt) (f:Fr κ) (b:β):Out β κ:=match ps[f.turn]? with
 | some p=>.push f p f.here b
 | none=>.pop (some f.here,f.kids) b
noncomputable def Ybq (ps:List Pt) (f:Fr κ) (b:β):Out β κ:=match ps[f.turn]? with
 | some p=>.push f p f.place b
 | none=>.pop (none,[]) b
noncomputable def Ybg (p:Pt) (f:Fr κ) (b:β):Out β κ:=match B.look b with
 | some b'=>(match txt[f.place]? with
   | some c=>if p.takesC c then .pop (some (f.place+1),[]) b' else .pop (none,[]) b'
   | none=>.pop (none,[]) b')
 | none=>.stop
noncomputable def Yah (f:Fr κ) (a:Option (An κ)) (b:β):Out β κ:=match f.piece with
 | .row ps=>(match a with
   | some (some e,ks)=>Ybp ps (f.on e ks).nxt b
   | some (none,z1)=>.pop (none,[]) b
   | none=>Ybp ps f b)
 | .alt ps=>(match a with
   | some (some e,ks)=>.pop (some e,ks) b
   | some (none,z1)=>Ybq ps f.nxt b
   | none=>Ybq ps f b)
 | .many p=>(match a with
   | some (some e,ks)=>if e=f.here then .pop (some f.here,f.kids) b else .push (f.on e ks) p e b
   | some (none,z1)=>.pop (some f.here,f.kids) b
   | none=>.push f p f.here b)
 | .nt p=>(match a with
   | some (some z1,z2)=>.pop (none,[]) b
   | some (none,z1)=>.pop (some f.place,[]) b
   | none=>.push f p f.place b)
 | .rule n=>(match a with
   | some a=>.pop (B.told b n f.place a) (B.ended b n f.place a)
   | none=>(match B.known b n f.place with
     | some a=>.pop a b
     | none=>(match B.begun b n f.place with
       | some b'=>.push f (G n) f.place b'
       | none=>.stop)))
 | p=>Ybg txt B p f b
noncomputable def Yff (f:Fr κ) (a:Option (An κ)) (b:β):Prop:=f.kids.length≤5000000∧(∀ x,a=some x→x.2.length≤5000000)∧B.few b
class inductive Fin (P:Option (An κ×β)→Prop):Nat→Ms β κ→Prop where
 | done {a:An κ}{b:β}:P (some (a,b))→Fin P 0 ⟨[],some a,b⟩
 | stop {f:Fr κ}{r:List (Fr κ)}{a:Option (An κ)}{b:β}{n:Nat}:r.length≤5000000→Yff B f a b→Yah G txt B f a b=.stop→P none→Fin P n ⟨f::r,a,b⟩
 | push {f f':Fr κ}{r:List (Fr κ)}{a:Option (An κ)}{b b':β}{p:Pt}{i n:Nat}:r.length≤5000000→Yff B f a b→Yah G txt B f a b=.push f' p i b'→Fin P n ⟨.new p i::f'::r,none,b'⟩→Fin P (n+1) ⟨f::r,a,b⟩
 | pop {f:Fr κ}{r:List (Fr κ)}{a:Option (An κ)}{a':An κ}{b b':β}{n:Nat}:r.length≤5000000→Yff B f a b→Yah G txt B f a b=.pop a' b'→Fin P n ⟨r,some a',b'⟩→Fin P (n+1) ⟨f::r,a,b⟩
variable {G txt B}
theorem Yiy {p:Pt}{i t h:Nat}{ks:List κ}{a:Option (An κ)}{b:β}(hp:p.isLf=true):Yah G txt B ⟨p,i,t,h,ks⟩ a b=Ybg txt B p ⟨p,i,t,h,ks⟩ b:=by cases p <;> first | rfl | exact (Zv hp).elim
theorem Yru {p:Pt}{i t h c:Nat}{ks:List κ}{a:Option (An κ)}{b b':β}(hp:p.isLf=true) (hl:B.look b=some b') (hg:txt[i]?=some c) (ht:p.takesC c=true):Yah G txt B ⟨p,i,t,h,ks⟩ a b=.pop (some (i+1),[]) b':=by
 rw [Yiy hp]; unfold Ybg; rw [hl]; show (match txt[i]? with | some c=>if p.takesC c then Out.pop (some (i+1),[]) b' else .pop (none,[]) b' | none=>.pop (none,[]) b')=_; rw [hg]; exact if_pos ht
theorem Yv0 {p:Pt}{i t h:Nat}{ks:List κ}{a:Option (An κ)}{b b':β}(hp:p.isLf=true) (hl:B.look b=some b') (hn:∀ c,txt[i]?=some c→p.takesC c=false):Yah G txt B ⟨p,i,t,h,ks⟩ a b=.pop (none,[]) b':=by
 rw [Yiy hp]; unfold Ybg; rw [hl]; show (match txt[i]? with | some c=>if p.takesC c then Out.pop (some (i+1),[]) b' else .pop (none,[]) b' | none=>.pop (none,[]) b')=_
 cases hg:txt[i]? with
 | none=>rfl
 | some c=>exact if_neg (by rw [hn c hg]; exact Zv)
theorem Ym0 {n:Str}{i t h:Nat}{ks:List κ}{a:An κ}{b:β}(hk:B.known b n i=some a):Yah G txt B ⟨.rule n,i,t,h,ks⟩ none b=.pop a b:=by
 show (match B.known b n i with | some a=>Out.pop a b | none=>(match B.begun b n i with | some b'=>.push ⟨.rule n,i,t,h,ks⟩ (G n) i b' | none=>.stop))=_
 rw [hk]
theorem Yr3 {n:Str}{i t h:Nat}{ks:List κ}{b b':β}(hk:B.known b n i=none) (hb:B.begun b n i=some b'):Yah G txt B ⟨.rule n,i,t,h,ks⟩ none b=.push ⟨.rule n,i,t,h,ks⟩ (G n) i b':=by
 show (match B.known b n i with | some a=>Out.pop a b | none=>(match B.begun b n i with | some b'=>.push ⟨.rule n,i,t,h,ks⟩ (G n) i b' | none=>.stop))=_
 rw [hk]
 show (match B.begun b n i with | some b'=>Out.push ⟨.rule n,i,t,h,ks⟩ (G n) i b' | none=>.stop)=_
 rw [hb]
variable {b:β}{p:Pt}{i:Nat}
theorem Fin.mono {P P':Option (An κ×β)→Prop}(k:∀ o,P o→P' o) {n:Nat}{st:Ms β κ}(h:Fin G txt B P n st):Fin G txt B P' n st:=by
 induction h with
 | done h=>exact .done (k _ h)
 | stop a b c h=>exact .stop a b c (k _ h)
 | push a b c z1 ih=>exact .push a b c ih
 | pop a b c z1 ih=>exact .pop a b c ih
noncomputable def Y0x (G:Str→Pt) (txt:List Nat) (B:Bk β κ) (P:Option (An κ×β)→Prop) (n:Nat) (r:List (Fr κ)):Out β κ→Prop
 | .stop=>P none
 | .push f' p i b'=>∃ m,m < n∧Fin G txt B P m ⟨.new p i::f'::r,none,b'⟩
 | .pop a' b'=>∃ m,m < n∧Fin G txt B P m ⟨r,some a',b'⟩
noncomputable def FinS (G:Str→Pt) (txt:List Nat) (B:Bk β κ) (P:Option (An κ×β)→Prop) (n:Nat) (st:Ms β κ):Prop:=match st.fr with
 | []=>∃ a,st.an=some a∧P (some (a,st.bk))
 | f::r=>r.length≤5000000∧Yff B f st.an st.bk∧Y0x G txt B P n r (Yah G txt B f st.an st.bk)
theorem Fin.inv {P:Option (An κ×β)→Prop}{n:Nat}{st:Ms β κ}(h:Fin G txt B P n st):FinS G txt B P n st:=by
 cases h with
 | done h=>exact ⟨_,rfl,h⟩
 | stop h1 h2 h3 h=>exact ⟨h1,h2,by rw [h3]; exact h⟩
 | push h1 h2 h3 h=>exact ⟨h1,h2,by rw [h3]; exact ⟨_,Zs _,h⟩⟩
 | pop h1 h2 h3 h=>exact ⟨h1,h2,by rw [h3]; exact ⟨_,Zs _,h⟩⟩
theorem Yff.new (w:B.few b):Yff B (.new p i:Fr κ) none b:=⟨Zkb _,⟨(fun zz e=>by cases e),w⟩⟩
end
end
section
noncomputable def Yqr:Option Nat→V
 | none=>.none
 | some e=>.int e
set_option genCtorIdx false in
structure Yvr (κ:Type) where
 r:Hp→List Nat→κ→V→Prop
 keep:∀ {σ σ':Hp}{A A':List Nat}{x:κ}{v:V},r σ A x v→(∀ l o,σ[l]?=some o→l∉A→σ'[l]?=some o)→(∀ l∈A',l < σ.length→l∈A)→r σ' A' x v
structure On (σ:Hp) (A:List Nat) (σ':Hp) (A':List Nat):Prop where
 keep:∀ l o,σ[l]?=some o→l∉A→σ'[l]?=some o
 live:∀ l∈A',l < σ.length→l∈A
theorem On.refl {σ:Hp}{A:List Nat}:On σ A σ A:=⟨fun zz zz e zz=>e,fun zz h zz=>h⟩
theorem On.up {σ jk:Hp}{A:List Nat}:On σ A (σ++jk) A:=⟨fun zz zz e zz=>Yab e,fun zz h zz=>h⟩
theorem On.less {σ:Hp}{A A':List Nat}(h:∀ l∈A',l∈A):On σ A σ A':=⟨fun zz zz e zz=>e,fun l x zz=>h l x⟩
theorem On.put {σ:Hp}{A:List Nat}{i:Nat}{o:Yaq}(h:i∈A):On σ A (σ.set i o) A:=⟨fun l x e hl=>by
 have hne:i≠l:=fun q=>hl (q▸h)
 rw [Zi hne]; exact e,fun zz h zz=>h⟩
theorem On.trans {σ σ₁ σ₂:Hp}{A A₁ A₂:List Nat}(x:On σ A σ₁ A₁) (y:On σ₁ A₁ σ₂ A₂) (hl:σ.length≤σ₁.length):On σ A σ₂ A₂ :=
 ⟨fun l o e h=>y.keep l o (x.keep l o e h) fun q=>h (x.live l q (Zb.mp e).1),fun l h q=>x.live l (y.live l h (Zz q hl)) q⟩
section
variable {κ β:Type}(K:Yvr κ)
noncomputable def KRs (σ:Hp) (A:List Nat):List κ→List V→Prop
 | [],vs=>vs=[]
 | x::xs,vs=>∃ v r,vs=v::r∧K.r σ A x v∧KRs σ A xs r
noncomputable def Yhf (σ:Hp) (A:List Nat) (a:An κ) (v:V):Prop:=∃ l vs,v=.tup [Yqr a.1,.ref l]∧l∉A∧σ[l]?=some (.list vs)∧KRs K σ A a.2 vs
noncomputable def AnO (σ:Hp) (A:List Nat):Option (An κ)→V→Prop
 | none,v=>v=.none
 | some a,v=>Yhf K σ A a v
inductive Yqe (σ:Hp) (A:List Nat) (f:Fr κ) (l k:Nat):Prop where
 | mk (vs:List V) (h1:σ[l]?=some (.inst "Frame" [("piece",f.piece.v),("place",.int f.place),("turn",.int f.turn),("here",.int f.here),("kids",.ref k)])) (h2:σ[k]?=some (.list vs)) (h3:KRs K σ A f.kids vs):Yqe σ A f l k
variable {K}
theorem KRs.keep {σ σ':Hp}{A A':List Nat}(o:On σ A σ' A'):∀ {xs:List κ}{vs:List V},KRs K σ A xs vs→KRs K σ' A' xs vs
 | [],z1,h=>h
 | z1::z2,z3,h=>by
   obtain ⟨v,r,e,h1,h2⟩:=h
   exact ⟨v,r,e,K.keep h1 o.keep o.live,KRs.keep o h2⟩
theorem KRs.append {σ:Hp}{A:List Nat}:∀ {xs ys:List κ}{vs us:List V},KRs K σ A xs vs→KRs K σ A ys us→KRs K σ A (xs++ys) (vs++us):=by
 intro xx
 induction xx with
 | nil =>
   intro z1 z2 z3 h h'
   cases h; exact h'
 | cons z1 z2 ih =>
   intro z3 z4 z5 h h'
   obtain ⟨v,r,rfl,h1,h2⟩:=h
   exact ⟨v,_,rfl,h1,ih h2 h'⟩
theorem KRs.length {σ:Hp}{A:List Nat}:∀ {xs:List κ}{vs:List V},KRs K σ A xs vs→vs.length=xs.length:=by
 intro xx
 induction xx with
 | nil =>
   intro z1 h
   cases h; rfl
 | cons z1 z2 ih =>
   intro z3 h
   obtain ⟨v,r,rfl,zz,h2⟩:=h
   simp [ih h2]
theorem Yhf.keep {σ σ':Hp}{A A':List Nat}{a:An κ}{v:V}(o:On σ A σ' A') (h:Yhf K σ A a v):Yhf K σ' A' a v:=by
 obtain ⟨l,vs,e,h1,h2,h3⟩:=h
 exact ⟨l,vs,e,fun q=>h1 (o.live l q (Zb.mp h2).1),o.keep _ _ h2 h1,h3.keep o⟩
theorem Yqe.keep {σ σ':Hp}{A A':List Nat}{f:Fr κ}{l k:Nat}(o:On σ A σ' A') (h:Yqe K σ A f l k) (hl:σ'[l]?=σ[l]?) (hk:σ'[k]?=σ[k]?):Yqe K σ' A' f l k:=by
 obtain ⟨vs,h1,h2,h3⟩:=h
 exact ⟨vs,hl.trans h1,hk.trans h2,h3.keep o⟩
end
set_option genCtorIdx false in
structure Ypz (β κ:Type) where
 K:Yvr κ
 own:List Nat
 is:Hp→List Nat→β→Prop
 keep:∀ {σ σ':Hp}{A A':List Nat}{b:β},is σ A b→On σ A σ' A'→(∀ x∈own,σ'[x]?=σ[x]?)→is σ' A' b
end
section
noncomputable abbrev Kid:=Str×Nat
set_option genCtorIdx false in
structure Mm where
 kept:List (Kid×An Kid)
 order:List Kid
noncomputable def Ye1 (k:Kid) (a:An Kid):An Kid:=match a.1 with
 | none=>(none,[])
 | some e=>(some e,[k])
noncomputable def Yqd (kept:List (Kid×An Kid)) (k:Kid) (a:An Kid):List (Kid×An Kid) :=
 if kept.any (fun p=>p.1=k) then kept.map (fun p=>if p.1=k then (p.1,a) else p) else kept++[(k,a)]
noncomputable def Yap (kept:List (Kid×An Kid)) (k:Kid):Option (An Kid):=(kept.find? fun p=>p.1=k).map (·.2)
noncomputable def Yaw:Bk Mm Kid where
 look:=some
 known:=fun b n i=>(Yap b.kept (n,i)).map (Ye1 (n,i))
 begun:=fun b n i=>some ⟨b.kept,b.order++[(n,i)]⟩
 ended:=fun b n i a=>⟨Yqd b.kept (n,i) a,b.order⟩
 told:=fun zz n i a=>Ye1 (n,i) a
 few:=fun b=>b.kept.length≤5000000∧b.order.length≤5000000
noncomputable def pV' (k:Kid):V:=.tup [.str k.1,.int k.2]
noncomputable def Yfx:Yvr Kid where
 r:=fun zz zz x v=>v=pV' x
 keep:=fun h zz zz=>h
theorem Ycm {σ:Hp}{A:List Nat}:∀ {xs:List Kid},KRs Yfx σ A xs (xs.map pV'):=by
 intro xx
 induction xx with
 | nil =>
   exact rfl
 | cons z1 z2 ih =>
   exact ⟨_,_,rfl,rfl,ih⟩
theorem Yf2 {σ:Hp}{A:List Nat}:∀ {xs:List Kid}{vs:List V},KRs Yfx σ A xs vs→vs=xs.map pV':=by
 intro xx
 induction xx with
 | nil =>
   intro z1 h
   exact h
 | cons z1 z2 ih =>
   intro z3 h
   obtain ⟨v,r,rfl,h1,h2⟩:=h
   rw [ih h2,show v=_ from h1]; rfl
noncomputable def Ya2 (σ:Hp) (A:List Nat):List (Kid×An Kid)→List ((Str×Int)×V)→Prop
 | [],kvs=>kvs=[]
 | p::r,kvs=>∃ v q,kvs=((p.1.1,(p.1.2:Int)),v)::q∧Yhf Yfx σ A p.2 v∧Ya2 σ A r q
theorem Ya2.keep {σ σ':Hp}{A A':List Nat}(o:On σ A σ' A'):∀ {xs:List (Kid×An Kid)}{kvs:List ((Str×Int)×V)},Ya2 σ A xs kvs→Ya2 σ' A' xs kvs
 | [],z1,h=>h
 | z1::z2,z3,h=>by
   obtain ⟨v,q,e,h1,h2⟩:=h
   exact ⟨v,q,e,h1.keep o,Ya2.keep o h2⟩
theorem Ya2.length {σ:Hp}{A:List Nat}:∀ {xs:List (Kid×An Kid)}{kvs:List ((Str×Int)×V)},Ya2 σ A xs kvs→kvs.length=xs.length:=by
 intro xx
 induction xx with
 | nil =>
   intro z1 h
   cases h; rfl
 | cons z1 z2 ih =>
   intro z3 h
   obtain ⟨v,q,rfl,zz,h2⟩:=h
   simp [ih h2]
theorem Yfh {k k':Kid}:((k.1,(k.2:Int))=(k'.1,(k'.2:Int)))↔k=k':=by
 obtain ⟨a,b⟩:=k; obtain ⟨c,d⟩:=k'
 simp only [Prod.mk.injEq]
 exact and_congr_right fun zz=>Int.ofNat_inj
theorem Ya2.case {P:Prop}{σ:Hp}{A:List Nat}{k:Kid}{xs:List (Kid×An Kid)}{kvs:List ((Str×Int)×V)}(h:Ya2 σ A xs kvs) (c0:Yap xs k=none→kvs.find? (fun kv=>kv.1=(k.1,(k.2:Int)))=none→P) (c1:∀ a la,Yap xs k=some a→(kvs.find? fun kv=>kv.1=(k.1,(k.2:Int))).map (·.2)=some (.tup [Yqr a.1,.ref la])→la∉A→σ[la]?=some (.list (a.2.map pV'))→P):P:=by
 induction xs generalizing kvs with
 | nil=>exact c0 rfl ((show kvs=[] from h)▸rfl)
 | cons p r ih =>
   refine h.elim fun v h=>h.elim fun q h=>?_
   have e:=h.1
   by_cases hk:p.1=k
   · refine h.2.1.elim fun la g=>g.elim fun vs g=>c1 p.2 la ?_ ?_ g.2.1 ((Yf2 g.2.2.2)▸g.2.2.1)
     · unfold Yap; rw [List.find?_cons,Zmb hk]; rfl
     · rw [e,List.find?_cons,Zmb (Yfh.mpr hk),← g.1]; rfl
   · have e1:Yap (p::r) k=Yap r k:=by unfold Yap; rw [List.find?_cons,Zrc hk]
     have e2:kvs.find? (fun kv=>kv.1=(k.1,(k.2:Int)))=q.find? fun kv=>kv.1=(k.1,(k.2:Int)):=by rw [e,List.find?_cons,Zrc fun e=>hk (Yfh.mp e)]
     rw [e1,e2] at c0
     rw [e1,e2] at c1
     exact ih h.2.2 c0 c1
theorem Ya2.any {σ:Hp}{A:List Nat}{k:Kid}:∀ {xs:List (Kid×An Kid)}{kvs:List ((Str×Int)×V)},Ya2 σ A xs kvs→kvs.any (fun kv=>kv.1=(k.1,(k.2:Int)))=xs.any (fun p=>p.1=k):=by
 intro xx
 induction xx with
 | nil =>
   intro z1 h
   cases h; rfl
 | cons p r ih =>
   intro z1 h
   obtain ⟨v,q,rfl,h1,h2⟩:=h
   rw [List.any_cons,List.any_cons,ih h2]
   congr 1
   rw [Bool.eq_iff_iff]; simp only [decide_eq_true_eq]; exact Yfh
theorem Ya2.set {σ:Hp}{A:List Nat}{k:Kid}{a:An Kid}{v:V}{xs:List (Kid×An Kid)}{kvs:List ((Str×Int)×V)}(h:Ya2 σ A xs kvs) (hv:Yhf Yfx σ A a v):Ya2 σ A (Yqd xs k a) (Yb4 kvs (k.1,(k.2:Int)) v):=by
 unfold Yqd Yb4
 rw [h.any (k:=k)]
 split
 · rename_i hh; clear hh
   induction xs generalizing kvs with
   | nil=>cases h; rfl
   | cons p r ih =>
     obtain ⟨u,q,rfl,h1,h2⟩:=h
     by_cases hk:p.1=k
     · rw [List.map_cons,List.map_cons,if_pos hk,if_pos (Yfh.mpr hk)]
       exact ⟨v,_,rfl,hv,ih h2⟩
     · rw [List.map_cons,List.map_cons,if_neg hk,if_neg (fun e=>hk (Yfh.mp e))]
       exact ⟨u,_,rfl,h1,ih h2⟩
 · rename_i hh; clear hh
   induction xs generalizing kvs with
   | nil=>cases h; exact ⟨v,_,rfl,hv,rfl⟩
   | cons p r ih =>
     obtain ⟨u,q,rfl,h1,h2⟩:=h
     exact ⟨u,_,rfl,h1,ih h2⟩
end
section
theorem Yqt {r D:Nat}(h:r+D≤5000000):r≤5000000:=Za (Zy _ _) h
theorem Ytg {r D:Nat}(h:r+(D+1)≤5000000):r+1+D≤5000000:=Za (Zr (Nat.succ_add_eq_add_succ r D)) h
theorem Ytu {D D':Nat}(h:D+1≤D'):∃ x,D'=x+1∧D≤x:=match D',h with | x+1,h=>⟨x,rfl,Zcc h⟩
theorem Yua {e len i:Nat}(h:e≤len):e+1 - i≤len+1:=Za (Nat.sub_le _ _) (Zwb h)
theorem Yxs {h e i:Nat}(g:h≤e):h+1 - i≤e+1 - i:=Nat.sub_le_sub_right (Zwb g) _
theorem Ynn {e h:Nat}(g:h < e):e+1 - h≤2*(e - h):=by rw [Nat.succ_sub (Zq g),Nat.two_mul]; exact Zzb (Nat.sub_pos_of_lt g) _
theorem Yhu {i h e:Nat}(h1:i≤h) (h2:h≤e):e - i=(h - i)+(e - h):=(Nat.sub_add_sub_cancel h2 h1).symm.trans (Nat.add_comm ..)
theorem Yxq {l h i R N m:Nat}(g:i < h) (hl:h≤l) (hN:(l - i)*R+(R - m)≤N):(l - h)*R+(R - 0)≤N :=
 Za (Zr (Nat.succ_mul (l - h) R).symm) (Za (Zvb R (Zqc (Zz g hl) g)) (Za (Zy ..) hN))
theorem Yxb {X R m j N:Nat}(h1:m≤j) (h2:j < R) (hN:X+(R - m)≤N):X+(R - (j+1)) < N:=Zz (Nat.add_lt_add_left (Zqc (Zk h1 h2) (Nat.lt_succ_of_le h1)) X) hN
theorem Yzv {N' N n d:Nat}(h:N' < N) (hd:d≤12):N'*14+d≤N*14+n:=Za (Zzb (Za hd (by decide:12≤14)) _) (Za (Zr (Nat.succ_mul N' 14).symm) (Za (Zvb 14 h) (Zy _ _)))
theorem Yx4 {l h e j:Nat}(hj:l - h≤j+1) (g:h < e):l - e≤j:=Nat.sub_le_iff_le_add.mpr (Za (Nat.sub_le_iff_le_add.mp hj) (Za (Zr (Nat.add_assoc j 1 h)) (Zzb (Za (Zr (Nat.add_comm 1 h)) g) j)))
theorem Y0r {l h e:Nat}(hj:l - h≤0) (g:h < e) (h2:e≤l):False:=absurd (Zz g h2) (Zo.mpr (Nat.le_of_sub_eq_zero (Nat.le_zero.mp hj)))
section
variable {β κ:Type}
noncomputable def lvl (f:Fr κ) (L:List (Str×Nat)):List (Str×Nat):=match f.piece with
 | .rule n=>(n,f.place)::L
 | z1=>L
noncomputable def Yh6 (f:Fr κ) (L:List (Str×Nat)):Prop:=match f.piece with
 | .rule n=>(n,f.place)∉L
 | z1=>True
class inductive Bs (G:Str→Pt) (txt:List Nat) (B:Bk β κ):Nat→List (Str×Nat)→Fr κ→Option (An κ)→β→Option (An κ×β)→Prop where
 | stop {D:Nat}{L:List (Str×Nat)}{f:Fr κ}{a:Option (An κ)}{b:β}:Yff B f a b→Yah G txt B f a b=.stop→Bs G txt B D L f a b none
 | pop {D:Nat}{L:List (Str×Nat)}{f:Fr κ}{a:Option (An κ)}{b b':β}{a':An κ}:Yff B f a b→Yah G txt B f a b=.pop a' b'→Bs G txt B D L f a b (some (a',b'))
 | dead {D:Nat}{L:List (Str×Nat)}{f f':Fr κ}{a:Option (An κ)}{b b':β}{p:Pt}{i:Nat}:Yff B f a b→Yah G txt B f a b=.push f' p i b'→Yh6 f L→Bs G txt B D (lvl f L) (.new p i) none b' none→Bs G txt B (D+1) L f a b none
 | push {D:Nat}{L:List (Str×Nat)}{f f':Fr κ}{a:Option (An κ)}{b b' b'':β}{p:Pt}{i:Nat}{a':An κ}{o:Option (An κ×β)}:Yff B f a b→Yah G txt B f a b=.push f' p i b'→Yh6 f L→Bs G txt B D (lvl f L) (.new p i) none b' (some (a',b''))→Bs G txt B (D+1) L f' (some a') b'' o→Bs G txt B (D+1) L f a b o
variable {G:Str→Pt}{txt:List Nat}{B:Bk β κ}
theorem Bs.fin {D:Nat}{L:List (Str×Nat)}{f:Fr κ}{a:Option (An κ)}{b:β}{o:Option (An κ×β)}(h:Bs G txt B D L f a b o) (P:Option (An κ×β)→Prop):∀ r:List (Fr κ),r.length+D≤5000000→(∀ a' b',o=some (a',b')→∃ n,Fin G txt B P n ⟨r,some a',b'⟩)→(o=none→P none)→∃ n,Fin G txt B P n ⟨f::r,a,b⟩:=by
 induction h with
 | stop w h=>exact fun r hD zz h2=>⟨0,.stop (Yqt hD) w h (h2 rfl)⟩
 | pop w h=>exact fun r hD h1 zz=>(by obtain ⟨n,hn⟩:=h1 _ _ rfl; exact ⟨_,.pop (Yqt hD) w h hn⟩)
 | dead w h z1 z2 ih=>exact fun r hD zz h2=>(by obtain ⟨n,hn⟩:=ih (_::r) (Ytg hD) (fun zz zz e=>by cases e) h2; exact ⟨_,.push (Yqt hD) w h hn⟩)
 | push w h z1 z2 z3 ih1 ih2=>exact fun r hD h1 h2=>(by obtain ⟨n,hn⟩:=ih1 (_::r) (Ytg hD) (fun a' b' e=>by cases e; exact ih2 r hD h1 h2) (fun e=>by cases e); exact ⟨_,.push (Yqt hD) w h hn⟩)
theorem Bs.run {D:Nat}{L:List (Str×Nat)}{f:Fr κ}{a:Option (An κ)}{b:β}{o:Option (An κ×β)}(h:Bs G txt B D L f a b o) (hD:D≤5000000):∃ n,Fin G txt B (· = o) n ⟨[f],a,b⟩ :=
 h.fin _ [] (Za (Zr (Nat.zero_add D)) hD) (fun zz zz e=>⟨0,.done e.symm⟩) (fun e=>e.symm)
theorem Bs.le {D:Nat}{L:List (Str×Nat)}{f:Fr κ}{a:Option (An κ)}{b:β}{o:Option (An κ×β)}(h:Bs G txt B D L f a b o):∀ {D':Nat},D≤D'→Bs G txt B D' L f a b o:=by
 induction h with
 | stop w h=>exact fun zz=>.stop w h
 | pop w h=>exact fun zz=>.pop w h
 | dead w h l z1 ih =>
   intro D' hD
   obtain ⟨D',rfl,hD'⟩:=Ytu hD
   exact .dead w h l (ih hD')
 | push w h l z1 z2 ih1 ih2 =>
   intro D' hD
   obtain ⟨D',rfl,hD'⟩:=Ytu hD
   exact .push w h l (ih1 hD') (ih2 hD)
noncomputable def BsO (G:Str→Pt) (txt:List Nat) (B:Bk β κ) (D:Nat) (L:List (Str×Nat)) (f:Fr κ) (o:Option (An κ×β)):Out β κ→Prop
 | .stop=>o=none
 | .pop a b=>o=some (a,b)
 | .push f' p i b'=>∃ D',D=D'+1∧Yh6 f L∧((Bs G txt B D' (lvl f L) (.new p i) none b' none∧o=none)∨∃ a' b'',Bs G txt B D' (lvl f L) (.new p i) none b' (some (a',b''))∧Bs G txt B (D'+1) L f' (some a') b'' o)
theorem Bs.out {D:Nat}{L:List (Str×Nat)}{f:Fr κ}{a:Option (An κ)}{b:β}{o:Option (An κ×β)}(h:Bs G txt B D L f a b o):BsO G txt B D L f o (Yah G txt B f a b) :=
 h.rec (fun zz h=>h▸rfl) (fun zz h=>h▸rfl) (fun zz h l k zz=>h▸⟨_,rfl,l,.inl ⟨k,rfl⟩⟩) fun zz h l k k' zz zz=>h▸⟨_,rfl,l,.inr ⟨_,_,k,k'⟩⟩
theorem Bs.pops {D:Nat}{L:List (Str×Nat)}{f:Fr κ}{a:Option (An κ)}{b b':β}{a':An κ}{o:Option (An κ×β)}(h:Bs G txt B D L f a b o) (hs:Yah G txt B f a b=.pop a' b'):o=some (a',b'):=by
 have:=h.out; rw [hs] at this; exact this
end
mutual
noncomputable def Pt.wt:Pt→Nat
 | .rule z1=>1
 | .row ps | .alt ps=>Pt.wts ps
 | .many p=>2*p.wt
 | .nt p=>p.wt
 | .sign _ | .span _ _ | .any=>0
noncomputable def Pt.wts:List Pt→Nat
 | []=>0
 | p::r=>p.wt+Pt.wts r
end
theorem Pt.wt1 (z1:Str):(Pt.rule z1).wt=1:=rfl
theorem Pt.wt2 (ps:List Pt):(Pt.row ps).wt=Pt.wts ps:=rfl
theorem Pt.wt3 (ps:List Pt):(Pt.alt ps).wt=Pt.wts ps:=rfl
theorem Pt.wt4 (p:Pt):p.many.wt=2*p.wt:=rfl
theorem Pt.wt5 (p:Pt):p.nt.wt=p.wt:=rfl
theorem Pt.wt6 (c:Nat):(Pt.sign c).wt=0:=rfl
theorem Pt.wt7 (a b:Nat):(Pt.span a b).wt=0:=rfl
theorem Pt.wt8:Pt.any.wt=0:=rfl
theorem Pt.wts1:Pt.wts []=0:=rfl
theorem Pt.wts2 (p:Pt) (r:List Pt):Pt.wts (p::r)=p.wt+Pt.wts r:=rfl
theorem Pt.wts_mem {ps:List Pt}{p:Pt}(h:p∈ps):p.wt≤Pt.wts ps:=by
 induction ps with
 | nil=>cases h
 | cons a r ih =>
   rw [Pt.wts2]
   rcases Zg.mp h with rfl | h
   · exact Zy _ _
   · exact Za (ih h) (Ztb _ _)
theorem Pt.wts_app:∀ ps qs:List Pt,Pt.wts (ps++qs)=Pt.wts ps+Pt.wts qs:=by
 intro xx
 induction xx with
 | nil =>
   intro qs
   simp [Pt.wts1]
 | cons p r ih =>
   intro qs
   rw [List.cons_append,Pt.wts2,Pt.wts2,ih qs,Nat.add_assoc]
theorem Pt.wts_take {ps:List Pt}(t:Nat):Pt.wts (ps.take t)≤Pt.wts ps:=by
 conv=>rhs; rw [← List.take_append_drop t ps]
 rw [Pt.wts_app]; exact Zy _ _
theorem Pt.wts_next {ps:List Pt}{t:Nat}{p:Pt}(h:ps[t]?=some p):Pt.wts (ps.take (t+1))=Pt.wts (ps.take t)+p.wt:=by
 rw [List.take_add_one,h,Pt.wts_app]; simp [Pt.wts1,Pt.wts2]
theorem Pt.ahdRow_at {B:Str→Bool}:∀ {ps:List Pt}{t:Nat}{p:Pt},ps[t]?=some p→Pt.mayAll B (ps.take t)=true→∀ y∈p.ahd B,y∈Pt.ahdRow B ps
 | [],z1,z2,h,z3=>by cases h
 | a::r,0,p,h,z1=>by cases h; intro y hy; rw [Pt.ahdRow2]; exact Zxb _ hy
 | a::r,t+1,p,h,hm=>by
   rw [List.take_succ_cons,Pt.mayAll2,Zob] at hm
   intro y hy
   rw [Pt.ahdRow2,if_pos hm.1]
   exact Zyb _ (Pt.ahdRow_at (ps:=r) (t:=t) (by simpa using h) hm.2 y hy)
theorem Pt.ahdAlt_at {B:Str→Bool}{ps:List Pt}{p:Pt}(h:p∈ps):∀ y∈p.ahd B,y∈Pt.ahdAlt B ps:=by
 induction ps with
 | nil=>cases h
 | cons a r ih =>
   intro y hy
   rw [Pt.ahdAlt2]
   rcases Zg.mp h with rfl | h
   · exact Zxb _ hy
   · exact Zyb _ (ih h y hy)
theorem Pt.mayAll_next {B:Str→Bool}{ps:List Pt}{t:Nat}{p:Pt}(h:ps[t]?=some p) (hm:Pt.mayAll B (ps.take t)=true) (hp:p.may B=true):Pt.mayAll B (ps.take (t+1))=true:=by
 rw [List.take_add_one,h,Pt.mayAll_eq,List.all_append,← Pt.mayAll_eq,hm]; simp [hp]
theorem Pt.mayAny_at {B:Str→Bool}{ps:List Pt}{p:Pt}(h:p∈ps) (hp:p.may B=true):Pt.mayAny B ps=true:=by
 rw [Pt.mayAny_eq,List.any_eq_true]; exact ⟨p,h,hp⟩
noncomputable def Yjp (ok:Bool) (w len i:Nat) {κ:Type}(a:An κ):Prop:=match a.1 with
 | some e=>i≤e∧e≤len∧(e=i→ok=true)∧a.2.length≤w*(e+1 - i)
 | none=>a.2=[]
structure Yvb (G:Str→Pt) (names:List Str) (mb:Str→Bool) (ix:Str→Nat) (R W:Nat):Prop where
 part:∀ n∈names,(G n).ok (· ∈ names)
 deep:∀ n∈names,(G n).deep≤12
 wt:∀ n∈names,(G n).wt≤W
 lead:∀ n∈names,∀ y∈(G n).ahd mb,ix n < ix y
 ixl:∀ n∈names,ix n < R
 bare:∀ n∈names,(G n).may mb=true→mb n=true
structure Yvc {β κ:Type}(B:Bk β κ) (I:List (Str×Nat)→β→Prop) (names:List Str) (mb:Str→Bool) (W len:Nat):Prop where
 few:∀ {L b},I L b→B.few b
 look:∀ {L b b'},I L b→B.look b=some b'→I L b'
 known:∀ {L b n i a},I L b→n∈names→i≤len→B.known b n i=some a→Yjp (mb n) 1 len i a
 begun:∀ {L b b' n i},I L b→n∈names→i≤len→(n,i)∉L→B.known b n i=none→B.begun b n i=some b'→I ((n,i)::L) b'
 ended:∀ {L b n i}{a:An κ},I ((n,i)::L) b→n∈names→i≤len→(n,i)∉L→Yjp (mb n) W len i a→I L (B.ended b n i a)∧Yjp (mb n) 1 len i (B.told b n i a)
section
variable {β κ:Type}{G:Str→Pt}{txt:List Nat}{B:Bk β κ}{I:List (Str×Nat)→β→Prop}{names:List Str}{mb:Str→Bool}{ix:Str→Nat}{R W:Nat}
noncomputable def Yg1 (G:Str→Pt) (txt:List Nat) (B:Bk β κ) (I:List (Str×Nat)→β→Prop) (ok:Bool) (w i:Nat) (D:Nat) (L:List (Str×Nat)) (f:Fr κ) (a:Option (An κ)) (b:β):Prop :=
 ∃ o,Bs G txt B D L f a b o∧∀ a' b',o=some (a',b')→I L b'∧Yjp ok w txt.length i a'
theorem Yg1.pop {ok:Bool}{w i D:Nat}{L:List (Str×Nat)}{f:Fr κ}{a:Option (An κ)}{b b':β}{a':An κ}(few:Yff B f a b) (h:Yah G txt B f a b=.pop a' b') (hI:I L b') (hf:Yjp ok w txt.length i a'):Yg1 G txt B I ok w i D L f a b :=
 ⟨_,.pop few h,fun zz zz e=>by cases e; exact ⟨hI,hf⟩⟩
theorem Yg1.push {ok ok':Bool}{w w' i j D:Nat}{L:List (Str×Nat)}{f f':Fr κ}{a:Option (An κ)}{b b':β}{p:Pt}(few:Yff B f a b) (h:Yah G txt B f a b=.push f' p j b') (hl:Yh6 f L) (h1:Yg1 G txt B I ok' w' j D (lvl f L) (.new p j) none b')
   (h2:∀ a' b'',I (lvl f L) b''→Yjp ok' w' txt.length j a'→Yg1 G txt B I ok w i (D+1) L f' (some a') b''):Yg1 G txt B I ok w i (D+1) L f a b:=by
 obtain ⟨o,k,hk⟩:=h1
 cases o with
 | none=>exact ⟨none,.dead few h hl k,fun zz zz e=>by cases e⟩
 | some x =>
   obtain ⟨a',b''⟩:=x
   obtain ⟨hI,hf⟩:=hk _ _ rfl
   obtain ⟨o,k2,hk2⟩:=h2 a' b'' hI hf
   exact ⟨o,.push few h hl k k2,hk2⟩
theorem Yg1.le {ok:Bool}{w i D D':Nat}{L:List (Str×Nat)}{f:Fr κ}{a:Option (An κ)}{b:β}(h:Yg1 G txt B I ok w i D L f a b) (hD:D≤D'):Yg1 G txt B I ok w i D' L f a b:=by
 obtain ⟨o,k,hk⟩:=h
 exact ⟨o,k.le hD,hk⟩
theorem Ykg {w W x y:Nat}(hw:w≤W) (hx:x≤y) (hW:W*y≤5000000):w*x≤5000000:=Za (Nat.mul_le_mul hw hx) hW
theorem Yjp.few {ok:Bool}{w W len i:Nat}{a:An κ}(h:Yjp ok w len i a) (hw:w≤W) (hW:W*(len+1)≤5000000):a.2.length≤5000000:=by
 unfold Yjp at h
 split at h
 · exact Za h.2.2.2 (Ykg hw (Yua h.2.1) hW)
 · rw [h]; simp
theorem Yff.of {f:Fr κ}{a:An κ}{b:β}(h1:f.kids.length≤5000000) (h2:a.2.length≤5000000) (h3:B.few b):Yff B f (some a) b:=⟨h1,fun zz e=>by cases e; exact h2,h3⟩
theorem Ysj {W':Nat}{ps:List Pt}{i D:Nat}{L:List (Str×Nat)}(hB:Yvc B I names mb W' txt.length) (hw:Pt.wts ps≤W) (hW:W*(txt.length+1)≤5000000)
   (sub:∀ t q h b,ps[t]?=some q→i≤h→h≤txt.length→(h=i→Pt.mayAll mb (ps.take t)=true)→I L b→Yg1 G txt B I (q.may mb) q.wt h D L (.new q h) none b) :
   ∀ (j t h:Nat) (ks:List κ) (f:Fr κ) (a:Option (An κ)) (b:β),t+j=ps.length→Yah G txt B f a b=Ybp ps ⟨.row ps,i,t,h,ks⟩ b→f.piece=.row ps→Yff B f a b→I L b→i≤h→h≤txt.length→(h=i→Pt.mayAll mb (ps.take t)=true)→ks.length≤Pt.wts (ps.take t)*(h+1 - i) →
     Yg1 G txt B I (Pt.mayAll mb ps) (Pt.wts ps) i (D+1) L f a b:=by
 intro j
 induction j with
 | zero =>
   intro t h ks f a b hj hs hp few hI h1 h2 h3 h4
   have ht:ps.take t=ps:=List.take_of_length_le (Zr hj.symm)
   rw [ht] at h3 h4
   refine .pop (a':=(some h,ks)) (b':=b) few ?_ hI ⟨h1,h2,h3,h4⟩
   rw [hs]; unfold Ybp; rw [show ps[(⟨.row ps,i,t,h,ks⟩:Fr κ).turn]?=none from Zrb (Zr hj.symm)]
 | succ j ih =>
   intro t h ks f a b hj hs hp few hI h1 h2 h3 h4
   have ht:t < ps.length:=hj▸Nat.lt_add_of_pos_right (Nat.succ_pos j)
   have hq:=Zp ht
   generalize ps[t]=q at hq
   have el:lvl f L=L:=by simp [lvl,hp]
   refine .push (f':=⟨.row ps,i,t,h,ks⟩) (p:=q) (j:=h) (b':=b) (ok':=q.may mb) (w':=q.wt) few ?_ (by simp [Yh6,hp]) (by rw [el]; exact sub t q h b hq h1 h2 h3 hI) fun a' b'' hI' hf=>?_
   · rw [hs]; unfold Ybp; rw [show ps[(⟨.row ps,i,t,h,ks⟩:Fr κ).turn]?=some q from hq]
   rw [el] at hI'
   have hqm:=Zn hq
   have few':Yff B (⟨.row ps,i,t,h,ks⟩:Fr κ) (some a') b'':=.of (Za h4 (Ykg (Za (Pt.wts_take t) hw) (Yua h2) hW)) (hf.few (Za (Pt.wts_mem hqm) hw) hW) (hB.few hI')
   obtain ⟨x,us⟩:=a'
   cases x with
   | none=>exact .pop (a':=(none,[])) (b':=b'') few' rfl hI' rfl
   | some e =>
     obtain ⟨g1,g2,g3,g4⟩:=hf
     refine ih (t+1) e (ks++us) _ _ b'' ((Nat.succ_add_eq_add_succ t j).trans hj) rfl rfl few' hI' (Za h1 g1) g2 (fun e'=>?_) ?_
     · subst e'
       have hh:h=e:=Zpc g1 h1
       subst hh
       exact Pt.mayAll_next hq (h3 rfl) (g3 rfl)
     · rw [Zf,Pt.wts_next hq,Nat.add_mul]
       exact Zcb (Za h4 (Znb _ (Yxs g1))) (Za g4 (Znb _ (Zbc h1 _)))
theorem Yqm {W':Nat}{ps:List Pt}{i D:Nat}{L:List (Str×Nat)}(hB:Yvc B I names mb W' txt.length) (hw:Pt.wts ps≤W) (hW:W*(txt.length+1)≤5000000)
   (sub:∀ q b,q∈ps→I L b→Yg1 G txt B I (q.may mb) q.wt i D L (.new q i) none b) :
   ∀ (j t h:Nat) (f:Fr κ) (a:Option (An κ)) (b:β),t+j=ps.length→Yah G txt B f a b=Ybq ps ⟨.alt ps,i,t,h,[]⟩ b→f.piece=.alt ps→Yff B f a b→I L b →
     Yg1 G txt B I (Pt.mayAny mb ps) (Pt.wts ps) i (D+1) L f a b:=by
 intro j
 induction j with
 | zero =>
   intro t h f a b hj hs hp few hI
   refine .pop (a':=(none,[])) (b':=b) few ?_ hI rfl
   rw [hs]; unfold Ybq; rw [show ps[(⟨.alt ps,i,t,h,[]⟩:Fr κ).turn]?=none from Zrb (Zr hj.symm)]
 | succ j ih =>
   intro t h f a b hj hs hp few hI
   have ht:t < ps.length:=hj▸Nat.lt_add_of_pos_right (Nat.succ_pos j)
   have hq:=Zp ht
   generalize ps[t]=q at hq
   have hqm:=Zn hq
   have el:lvl f L=L:=by simp [lvl,hp]
   refine .push (f':=⟨.alt ps,i,t,h,[]⟩) (p:=q) (j:=i) (b':=b) (ok':=q.may mb) (w':=q.wt) few ?_ (by simp [Yh6,hp]) (by rw [el]; exact sub q b hqm hI) fun a' b'' hI' hf=>?_
   · rw [hs]; unfold Ybq; rw [show ps[(⟨.alt ps,i,t,h,[]⟩:Fr κ).turn]?=some q from hq]
   rw [el] at hI'
   have few':Yff B (⟨.alt ps,i,t,h,[]⟩:Fr κ) (some a') b'':=.of (Zkb _) (hf.few (Za (Pt.wts_mem hqm) hw) hW) (hB.few hI')
   obtain ⟨x,us⟩:=a'
   cases x with
   | none=>exact ih (t+1) h _ _ b'' ((Nat.succ_add_eq_add_succ t j).trans hj) rfl rfl few' hI'
   | some e =>
     obtain ⟨g1,g2,g3,g4⟩:=hf
     exact .pop (a':=(some e,us)) (b':=b'') few' rfl hI' ⟨g1,g2,fun e'=>Pt.mayAny_at hqm (g3 e'),Za g4 (Zvb _ (Pt.wts_mem hqm))⟩
theorem Ynf {W':Nat}{p:Pt}{i D:Nat}{L:List (Str×Nat)}(hB:Yvc B I names mb W' txt.length) (hw:2*p.wt≤W) (hW:W*(txt.length+1)≤5000000)
   (sub:∀ h b,i≤h→h≤txt.length→I L b→Yg1 G txt B I (p.may mb) p.wt h D L (.new p h) none b) :
   ∀ (j t h:Nat) (ks:List κ) (f:Fr κ) (a:Option (An κ)) (b:β),txt.length - h≤j→Yah G txt B f a b=.push ⟨.many p,i,t,h,ks⟩ p h b→f.piece=.many p→Yff B f a b→I L b→i≤h→h≤txt.length→ks.length≤2*p.wt*(h - i) →
     Yg1 G txt B I true (2*p.wt) i (D+1) L f a b:=by
 intro j
 induction j with
 | zero | succ j ih =>
   intro t h ks f a b hj hs hp few hI h1 h2 h4
   have el:lvl f L=L:=by simp [lvl,hp]
   refine .push (f':=⟨.many p,i,t,h,ks⟩) (p:=p) (j:=h) (b':=b) (ok':=p.may mb) (w':=p.wt) few hs (by simp [Yh6,hp]) (by rw [el]; exact sub h b h1 h2 hI) fun a' b'' hI' hf=>?_
   rw [el] at hI'
   have few':Yff B (⟨.many p,i,t,h,ks⟩:Fr κ) (some a') b'':=.of (Za h4 (Ykg hw (Zeb (Za (Nat.sub_le _ _) h2)) hW)) (hf.few (Za (Nat.le_mul_of_pos_left _ (by decide)) hw) hW) (hB.few hI')
   have fit:Yjp true (2*p.wt) txt.length i (some h,ks):=⟨h1,h2,fun zz=>rfl,Za h4 (Znb _ (Nat.sub_le_sub_right (Nat.le_succ h) i))⟩
   obtain ⟨x,us⟩:=a'
   cases x with
   | none=>exact .pop (a':=(some h,ks)) (b':=b'') few' rfl hI' fit
   | some e =>
     obtain ⟨g1,g2,g3,g4⟩:=hf
     by_cases he:e=h
     · refine .pop (a':=(some h,ks)) (b':=b'') few' ?_ hI' fit
       show (if e=h then _ else _)=_
       rw [if_pos he]
     · have hlt:h < e:=Nat.lt_of_le_of_ne g1 (Ne.symm he)
       first
       | exact (Y0r hj hlt g2).elim
       | refine ih t e (ks++us) _ _ b'' (Yx4 hj hlt) ?_ rfl few' hI' (Za h1 g1) g2 ?_
         · show (if e=h then _ else _)=_
           rw [if_neg he]; rfl
         · rw [Zf,Yhu h1 g1,Nat.mul_add]
           refine Zcb h4 (Za g4 (Za (Znb _ (Ynn hlt)) (Zr ?_)))
           rw [← Nat.mul_assoc,Nat.mul_comm p.wt 2]
theorem Yfu {p:Pt}{i D:Nat}{L:List (Str×Nat)}{b:β}(hB:Yvc B I names mb W txt.length) (hs:Yah G txt B (.new p i) none b=Ybg txt B p (.new p i) b) (hm:p.may mb=false) (hI:I L b):Yg1 G txt B I (p.may mb) p.wt i D L (.new p i) none b:=by
 have few:Yff B (.new p i:Fr κ) none b:=.new (hB.few hI)
 cases hb:B.look b with
 | none=>exact ⟨none,.stop few (by rw [hs]; simp only [Ybg,hb]),(by intros; contradiction)⟩
 | some b' =>
   have hI':=hB.look hI hb
   cases hc:txt[i]? with
   | none=>exact .pop (a':=(none,[])) (b':=b') few (by rw [hs]; simp only [Ybg,Fr.new,hb,hc]) hI' rfl
   | some c' =>
     by_cases ht:p.takesC c'=true
     · exact .pop (a':=(some (i+1),[])) (b':=b') few (by rw [hs]; simp only [Ybg,Fr.new,hb,hc,ht,if_true]) hI' ⟨Nat.le_succ _,(Zb.mp hc).1,fun e=>absurd e (Nat.succ_ne_self _),Zkb _⟩
     · exact .pop (a':=(none,[])) (b':=b') few (by rw [hs]; simp only [Ybg,Fr.new,hb,hc,ht]; rfl) hI' rfl
theorem Ypp {x:Str}{i D:Nat}{L:List (Str×Nat)}{b:β}(hG:Yvb G names mb ix R W) (hB:Yvc B I names mb W txt.length) (hW:(W+1)*(txt.length+1)≤5000000) (hx:x∈names) (hnL:(x,i)∉L) (hi:i≤txt.length) (hI:I L b)
   (sub:∀ b',I ((x,i)::L) b'→Yg1 G txt B I ((G x).may mb) (G x).wt i D ((x,i)::L) (.new (G x) i) none b'):Yg1 G txt B I (mb x) 1 i (D+1) L (.new (.rule x) i) none b:=by
 have few:Yff B (.new (.rule x) i:Fr κ) none b:=.new (hB.few hI)
 cases hk:B.known b x i with
 | some a=>exact .pop (a':=a) (b':=b) few (by simp [Yah,Fr.new,hk]) hI (hB.known hI hx hi hk)
 | none =>
   cases hb:B.begun b x i with
   | none=>exact ⟨none,.stop few (by simp [Yah,Fr.new,hk,hb]),fun zz zz e=>by cases e⟩
   | some b' =>
     refine .push (f':=.new (.rule x) i) (p:=G x) (j:=i) (b':=b') (ok':=(G x).may mb) (w':=(G x).wt) few (by simp [Yah,Fr.new,hk,hb]) hnL (sub b' (hB.begun hI hx hi hnL hk hb)) fun a' b'' hI' hf=>?_
     have hf':Yjp (mb x) W txt.length i a':=by
       unfold Yjp at hf ⊢
       split at hf
       · exact ⟨hf.1,hf.2.1,fun e'=>hG.bare x hx (hf.2.2.1 e'),Za hf.2.2.2 (Zvb _ (hG.wt x hx))⟩
       · exact hf
     have g:=hB.ended (show I ((x,i)::L) b'' from hI') hx hi hnL hf'
     exact .pop (a':=B.told b'' x i a') (b':=B.ended b'' x i a') (.of (Zkb _) (hf.few (Zeb (hG.wt x hx)) hW) (hB.few (show I ((x,i)::L) b'' from hI'))) (by simp [Yah,Fr.new]) g.1 g.2
theorem ends (hG:Yvb G names mb ix R W) (hB:Yvc B I names mb W txt.length) (hW:(W+1)*(txt.length+1)≤5000000):∀ (N n i m:Nat) (p:Pt) (L:List (Str×Nat)) (b:β),(txt.length - i)*R+(R - m)≤N→p.deep≤n→p.deep≤12→p.ok (· ∈ names)→p.wt≤W+1→(∀ y∈p.ahd mb,m≤ix y)→i≤txt.length→(∀ k∈L,k.2 < i∨(k.2=i∧ix k.1 < m))→I L b →
   Yg1 G txt B I (p.may mb) p.wt i (N*14+n) L (.new p i) none b:=by
 intro N
 induction N using Nat.strongRecOn with
 | ind N IH =>
 intro n
 induction n with
 | zero=>intro i m p L b zz h; exact absurd (Za (Pt.deep_pos p) h) (Nat.not_succ_le_zero _)
 | succ n ih =>
   intro i m p L b hN hn hd hok hw ha hi hL hI
   have few0:∀ {q:Pt}{b:β},I L b→Yff B (.new q i:Fr κ) none b:=fun h=>.new (hB.few h)
   have sub:∀ q h b,q∈p.kids→q.wt≤W+1→i≤h→h≤txt.length→(h=i→∀ y∈q.ahd mb,y∈p.ahd mb)→I L b→Yg1 G txt B I (q.may mb) q.wt h (N*14+n) L (.new q h) none b:=by
     intro q h b hq hwq h1 h2 h3 hI
     have hdq:=Pt.kids_deep hq
     refine (Nat.eq_or_lt_of_le h1).elim (fun e=>?_) fun e=>?_
     · rw [← e]
       exact ih i m q L b hN (Zcc (Za hdq hn)) (Zkc (Za hdq hd)) (Pt.ok_kids hok q hq) hwq (fun y hy=>ha y (h3 e.symm y hy)) hi hL hI
     · exact ih h 0 q L b (Yxq e h2 hN) (Zcc (Za hdq hn)) (Zkc (Za hdq hd)) (Pt.ok_kids hok q hq) hwq (fun zz zz=>Zkb _) h2 (fun k hk=>.inl ((hL k hk).elim (fun g=>Nat.lt_trans g e) fun g=>g.1▸e)) hI
   cases p with
   | sign c=>exact Yfu hB rfl rfl hI
   | span c d=>exact Yfu hB rfl rfl hI
   | any=>exact Yfu hB rfl rfl hI
   | rule x =>
     have hx:x∈names:=by simpa only [Pt.ok1,Pt.ok2,Pt.ok3,Pt.ok4,Pt.ok5,Pt.ok6,Pt.ok7,Pt.ok8] using hok
     have hm:m≤ix x:=ha x (by simp [Pt.ahd1])
     have hR:=hG.ixl x hx
     have hnL:(x,i)∉L:=fun h=>(hL _ h).elim (Zub i) fun g=>absurd g.2 (Zo.mpr hm)
     simp only [Pt.may3,Pt.wt1]
     have hlt:=Yxb hm hR hN
     exact Ypp hG hB hW hx hnL hi hI fun b' hIb=>(IH _ hlt (G x).deep i (ix x+1) (G x) ((x,i)::L) b' (Zl _) (Zl _) (hG.deep x hx) (hG.part x hx) (Zeb (hG.wt x hx)) (fun y hy=>hG.lead x hx y hy) hi (fun k hk=>(Zg.mp hk).elim (fun e=>.inr (e▸⟨rfl,Zs _⟩)) fun hk=>(hL k hk).imp_right fun g=>⟨g.1,Nat.lt_succ_of_lt (Zz g.2 hm)⟩) hIb).le (Yzv hlt (hG.deep x hx))
   | row ps =>
     simp only [Pt.may4,Pt.wt2] at hw ⊢
     refine Ysj hB hw hW (fun t q h b hq h1 h2 h3 hI=>sub q h b (Zn hq) (Za (Pt.wts_mem (Zn hq)) hw) h1 h2 (fun e y hy=>?_) hI) ps.length 0 i [] _ _ b (Nat.zero_add _) rfl rfl (few0 hI) hI (Zl _) hi (fun zz=>by simp [Pt.mayAll1]) (Zkb _)
     rw [Pt.ahd2]; exact Pt.ahdRow_at hq (h3 e) y hy
   | alt ps =>
     simp only [Pt.may5,Pt.wt3] at hw ⊢
     refine Yqm hB hw hW (fun q b hq hI=>sub q i b hq (Za (Pt.wts_mem hq) hw) (Zl _) hi (fun e y hy=>?_) hI) ps.length 0 i _ _ b (Nat.zero_add _) rfl rfl (few0 hI) hI
     rw [Pt.ahd3]; exact Pt.ahdAlt_at hq y hy
   | many q =>
     simp only [Pt.may1,Pt.wt4] at hw ⊢
     exact Ynf hB hw hW (fun h b h1 h2 hI=>sub q h b (Zj.mpr rfl) (Za (Nat.le_mul_of_pos_left _ (by decide)) hw) h1 h2 (fun e y hy=>by rw [Pt.ahd4]; exact hy) hI) _ 0 i [] _ _ b (Zl _) rfl rfl (few0 hI) hI (Zl _) hi (Zkb _)
   | nt q =>
     simp only [Pt.may2,Pt.wt5] at hw ⊢
     refine .push (D:=N*14+n) (f':=.new (.nt q) i) (p:=q) (j:=i) (b':=b) (ok':=q.may mb) (w':=q.wt) (few0 hI) (by simp [Yah,Fr.new]) trivial (sub q i b (Zj.mpr rfl) hw (Zl _) hi (fun e y hy=>by rw [Pt.ahd5]; exact hy) hI) fun a' b'' hI' hf=>?_
     have few':Yff B (.new (.nt q) i:Fr κ) (some a') b'':=.of (Zkb _) (hf.few hw hW) (hB.few hI')
     obtain ⟨x,us⟩:=a'
     cases x with
     | none=>exact .pop (a':=(some i,[])) (b':=b'') few' rfl hI' ⟨Zl _,hi,fun zz=>rfl,by simp⟩
     | some e=>exact .pop (a':=(none,[])) (b':=b'') few' rfl hI' rfl
noncomputable def Fr.nr (f:Fr κ):Prop:=∀ n,f.piece≠.rule n
noncomputable def Ywj (B:Bk β κ) (μ:List κ→Nat) (n:Nat) (p:Pt) (i:Nat) (b:β):Out β κ→Prop
 | .pop a b'=>μ a.2≤n∧(b'=b∨B.look b=some b')
 | .push f z1 z2 b'=>μ f.kids≤n∧b'=b∧f.piece=p∧f.place=i
 | .stop=>B.look b=none
noncomputable def ansM (μ:List κ→Nat):Option (An κ)→Nat
 | some a=>μ a.2
 | none=>0
theorem an3 {κ:Type}{P:Option (An κ)→Prop}(h0:P none) (h1:∀ us,P (some (none,us))) (h2:∀ e us,P (some (some e,us))):∀ a,P a
 | none=>h0
 | some (none,us)=>h1 us
 | some (some e,us)=>h2 e us
theorem Yhr {μ:List κ→Nat}(h0:μ []=0) (ha:∀ xs ys,μ (xs++ys)≤μ xs+μ ys) {f:Fr κ}{a:Option (An κ)}{b:β}(hn:f.nr):Ywj B μ (μ f.kids+ansM μ a) f.piece f.place b (Yah G txt B f a b):=by
 obtain ⟨p,i,t,h,ks⟩:=f
 have z:∀ {n:Nat},μ []≤n:=fun {n}=>h0▸Zkb n
 have leaf:∀ {n:Nat}{p:Pt},Ywj B μ n p i b (Ybg txt B p (⟨p,i,t,h,ks⟩:Fr κ) b):=fun {n p}=>by
   unfold Ybg
   cases hb:B.look b with
   | none=>exact hb
   | some b' =>
     dsimp only
     cases txt[i]? with
     | none=>exact ⟨z,.inr hb⟩
     | some x =>
       dsimp only
       cases p.takesC x with
       | false=>exact ⟨z,.inr hb⟩
       | true=>exact ⟨z,.inr hb⟩
 have row:∀ {n:Nat}{ps:List Pt}{F:Fr κ},μ F.kids≤n→Ywj B μ n F.piece F.place b (Ybp ps F b):=fun {n ps F} hF=>by
   unfold Ybp
   cases ps[F.turn]? with
   | some q=>exact ⟨hF,rfl,rfl,rfl⟩
   | none=>exact ⟨hF,.inl rfl⟩
 have alt:∀ {n:Nat}{ps:List Pt}{F:Fr κ},μ F.kids≤n→Ywj B μ n F.piece F.place b (Ybq ps F b):=fun {n ps F} hF=>by
   unfold Ybq
   cases ps[F.turn]? with
   | some q=>exact ⟨hF,rfl,rfl,rfl⟩
   | none=>exact ⟨z,.inl rfl⟩
 cases p with
 | sign x=>exact leaf
 | span x y=>exact leaf
 | any=>exact leaf
 | rule n=>exact absurd rfl (hn n)
 | row ps =>
   revert a
   exact @an3 κ _ (row (F:=⟨.row ps,i,t,h,ks⟩) (Zl _)) (fun us=>⟨z,.inl rfl⟩) fun e us=>row (F:=Fr.nxt (Fr.on ⟨.row ps,i,t,h,ks⟩ e us)) (ha ks us)
 | alt ps =>
   revert a
   exact @an3 κ _ (alt (F:=⟨.alt ps,i,t,h,ks⟩) (Zl _)) (fun us=>alt (F:=Fr.nxt ⟨.alt ps,i,t,h,ks⟩) (Zy _ _)) fun e us=>⟨Ztb _ _,.inl rfl⟩
 | many q =>
   revert a
   refine @an3 κ _ ⟨Zl _,rfl,rfl,rfl⟩ (fun us=>⟨Zy _ _,.inl rfl⟩) fun e us=>?_
   · show Ywj B μ _ _ _ b (if e=h then _ else _)
     by_cases he:e=h
     · rw [if_pos he]; exact ⟨Zy _ _,.inl rfl⟩
     · rw [if_neg he]; exact ⟨ha ks us,rfl,rfl,rfl⟩
 | nt q =>
   revert a
   exact @an3 κ _ ⟨Zl _,rfl,rfl,rfl⟩ (fun us=>⟨z,.inl rfl⟩) fun e us=>⟨z,.inl rfl⟩
end
end
section
theorem Ycg {kept:List (Kid×An Kid)}{k k':Kid}{a:An Kid}:Yap (kept++[(k,a)]) k'=(Yap kept k').or (if k=k' then some a else none):=by
 unfold Yap
 rw [List.find?_append]
 cases kept.find? fun p=>p.1=k' with
 | some x=>rfl
 | none=>by_cases e:k=k' <;> simp [e]
theorem Yre {kept:List (Kid×An Kid)}{k:Kid}{a:An Kid}(h:Yap kept k=some a):(k,a)∈kept:=by
 obtain ⟨x,h1,rfl⟩:=Zpb.mp h
 have h2:=List.find?_some h1
 simp only [decide_eq_true_eq] at h2
 rw [← h2]; exact List.mem_of_find?_eq_some h1
theorem Yfv {kept:List (Kid×An Kid)}{k:Kid}:Yap kept k=none↔k∉kept.map (·.1):=by
 unfold Yap
 rw [Option.map_eq_none_iff,List.find?_eq_none,Zsb]
 exact ⟨fun h hh1=>by obtain ⟨x,h1,h2⟩:=hh1; exact h x h1 (by simpa using h2),fun h x h1 h2=>h ⟨x,h1,by simpa using h2⟩⟩
theorem Yht {kept:List (Kid×An Kid)}{k:Kid}{a:An Kid}(h:Yap kept k=none):Yqd kept k a=kept++[(k,a)]:=by
 unfold Yqd
 rw [if_neg]
 rw [Yfv] at h
 simpa using h
structure Mc (names:List Str) (mb:Str→Bool) (W len:Nat) (L:List Kid) (b:Mm):Prop where
 nodup:b.order.Nodup
 rng:∀ k∈b.order,k.1∈names∧k.2≤len
 live:∀ k∈L,k∈b.order∧Yap b.kept k=none
 done:∀ k∈b.order,k∈L∨∃ a,Yap b.kept k=some a
 keys:(b.kept.map (·.1)).Nodup
 kin:∀ k∈b.kept.map (·.1),k∈b.order
 fit:∀ k a,Yap b.kept k=some a→Yjp (mb k.1) W len k.2 a
theorem Ylp {mb:Bool}{w len:Nat}{k:Kid}{a:An Kid}(h:Yjp mb w len k.2 a):Yjp mb 1 len k.2 (Ye1 k a):=by
 obtain ⟨x,us⟩:=a
 cases x with
 | none=>rfl
 | some e =>
   obtain ⟨h1,h2,h3,zz⟩:=h
   refine ⟨h1,h2,h3,?_⟩
   show 1≤1*(e+1 - k.2)
   rw [Nat.one_mul]; exact Nat.sub_pos_of_lt (Nat.lt_succ_of_le h1)
theorem Mc.few {names:List Str}{mb:Str→Bool}{W len:Nat}{L:List Kid}{b:Mm}(h:Mc names mb W len L b):b.kept.length≤names.length*(len+1)∧b.order.length≤names.length*(len+1):=by
 have key:∀ {l:List Kid},l.Nodup→(∀ k∈l,k.1∈names∧k.2≤len)→l.length≤names.length*(len+1):=fun {l} h1 h2=>by
   have:=Yhy (ns:=names.flatMap fun n=>(List.range (len+1)).map fun i=>(n,i)) h1 fun k hk=>by
     obtain ⟨g1,g2⟩:=h2 k hk
     simp only [List.mem_flatMap,Zsb,List.mem_range]
     exact ⟨k.1,g1,k.2,by lia,rfl⟩
   simpa [List.length_flatMap,List.map_const'] using this
 refine ⟨?_,key h.nodup h.rng⟩
 have:=key h.keys fun k hk=>h.rng k (h.kin k hk)
 simpa using this
theorem Yrw {names:List Str}{mb:Str→Bool}{W len:Nat}(hz:names.length*(len+1)≤5000000):Yvc Yaw (Mc names mb W len) names mb W len where
 few:=fun h=>⟨Za h.few.1 hz,Za h.few.2 hz⟩
 look:=fun h e=>by cases e; exact h
 known:=fun {L b n i a} h zz zz e=>by
   obtain ⟨x,h1,rfl⟩:=Zpb.mp (show (Yap b.kept (n,i)).map (Ye1 (n,i))=some a from e)
   exact Ylp (k:=(n,i)) (h.fit _ _ h1)
 begun:=fun {L b b' n i} h hn hi hL hk e=>by
   have hk:Yap b.kept (n,i)=none:=Option.map_eq_none_iff.mp (show (Yap b.kept (n,i)).map (Ye1 (n,i))=none from hk)
   have ho:(n,i)∉b.order:=fun q=>by
     rcases h.done _ q with g | ⟨a,g⟩
     · exact hL g
     · rw [hk] at g; cases g
   cases e
   refine ⟨List.nodup_append.mpr ⟨h.nodup,by simp,fun x hx y hy=>by cases Zj.mp hy; exact fun e=>ho (e▸hx)⟩,fun k q=>?_,fun k q=>?_,fun k q=>?_,h.keys,fun k q=>Zxb _ (h.kin k q),h.fit⟩
   · rcases Zm.mp q with q | q
     · exact h.rng k q
     · cases Zj.mp q; exact ⟨hn,hi⟩
   · rcases Zg.mp q with rfl | q
     · exact ⟨by simp,hk⟩
     · exact ⟨Zxb _ (h.live k q).1,(h.live k q).2⟩
   · rcases Zm.mp q with q | q
     · rcases h.done k q with g | g
       · exact .inl (Zd _ g)
       · exact .inr g
     · cases Zj.mp q; exact .inl (by simp)
 ended:=fun {L b n i a} h hn hi hL hf=>by
   refine ⟨?_,Ylp (k:=(n,i)) hf⟩
   obtain ⟨ho,hk⟩:=h.live (n,i) (by simp)
   show Mc names mb W len L ⟨Yqd b.kept (n,i) a,b.order⟩
   rw [Yht hk]
   have hk':=Yfv.mp hk
   refine ⟨h.nodup,h.rng,fun k q=>?_,fun k q=>?_,?_,fun k q=>?_,fun k x e=>?_⟩
   · obtain ⟨g1,g2⟩:=h.live k (Zd _ q)
     refine ⟨g1,?_⟩
     show Yap (b.kept++[((n,i),a)]) k=none
     rw [Ycg,g2,if_neg (fun e:(n,i)=k=>hL (e▸q))]; rfl
   · show k∈L∨∃ x,Yap (b.kept++[((n,i),a)]) k=some x
     rw [Ycg]
     rcases h.done k q with g | ⟨x,g⟩
     · rcases Zg.mp g with rfl | g
       · rw [hk]; exact .inr ⟨a,by simp⟩
       · exact .inl g
     · rw [g]; exact .inr ⟨x,rfl⟩
   · show ((b.kept++[((n,i),a)]).map (·.1)).Nodup
     rw [Zfc]
     exact List.nodup_append.mpr ⟨h.keys,by simp,fun x hx y hy=>by cases Zj.mp hy; exact fun e=>hk' ((show x=(n,i) from e)▸hx)⟩
   · have q:k∈(b.kept++[((n,i),a)]).map (·.1):=q
     rw [Zfc] at q
     rcases Zm.mp q with q | q
     · exact h.kin k q
     · cases Zj.mp q; exact ho
   · have e:Yap (b.kept++[((n,i),a)]) k=some x:=e
     rw [Ycg] at e
     cases g:Yap b.kept k with
     | some y=>rw [g] at e; cases e; exact h.fit k _ g
     | none =>
       rw [g] at e
       by_cases q:(n,i)=k
       · subst q
         simp at e; subst e; exact hf
       · simp [q] at e
theorem Mc.nil {names:List Str}{mb:Str→Bool}{W len:Nat}:Mc names mb W len [] ⟨[],[]⟩:=⟨List.nodup_nil,(by intros; contradiction),(by intros; contradiction),(by intros; contradiction),List.nodup_nil,(by intros; contradiction),(by intros; contradiction)⟩
class inductive Ev (G:Str→Pt) (txt:List Nat) (K:Kid→Option (An Kid)):Fr Kid→Option (An Kid)→An Kid→List Kid→Prop where
 | pop {f:Fr Kid}{a:Option (An Kid)}{a':An Kid}{b b':Mm}:f.nr→Yah G txt Yaw f a b=.pop a' b'→Ev G txt K f a a' []
 | ask {f:Fr Kid}{n:Str}{a:An Kid}:f.piece=.rule n→K (n,f.place)=some a→Ev G txt K f none (Ye1 (n,f.place) a) [(n,f.place)]
 | push {f f':Fr Kid}{a:Option (An Kid)}{a' o:An Kid}{p:Pt}{i:Nat}{b b':Mm}{as as':List Kid}:f.nr→Yah G txt Yaw f a b=.push f' p i b'→Ev G txt K (.new p i) none a' as→Ev G txt K f' (some a') o as'→Ev G txt K f a o (as++as')
theorem Ev.mono {G:Str→Pt}{txt:List Nat}{K K':Kid→Option (An Kid)}(hk:∀ k a,K k=some a→K' k=some a) {f:Fr Kid}{a:Option (An Kid)}{o:An Kid}{as:List Kid}(h:Ev G txt K f a o as):Ev G txt K' f a o as:=by
 induction h with
 | pop h1 h2=>exact .pop h1 h2
 | ask h1 h2=>exact .ask h1 (hk _ _ h2)
 | push h1 h2 z1 z2 ih1 ih2=>exact .push h1 h2 ih1 ih2
theorem Ysv {G:Str→Pt}{txt:List Nat}{f:Fr Kid}{a:Option (An Kid)}{b b':Mm}{a':An Kid}(hn:f.nr) (h:Yah G txt Yaw f a b=.pop a' b'):b'=b:=by
 have:=Yhr (B:=Yaw) (G:=G) (txt:=txt) (μ:=fun zz=>0) rfl (fun zz zz=>Zl _) (a:=a) (b:=b) hn
 rw [h] at this
 exact this.2.elim id fun e=>(Zab e).symm
theorem Yhm {G:Str→Pt}{txt:List Nat}{f f':Fr Kid}{a:Option (An Kid)}{b b':Mm}{p:Pt}{i:Nat}(hn:f.nr) (h:Yah G txt Yaw f a b=.push f' p i b'):b'=b∧f'.piece=f.piece∧f'.place=f.place:=by
 have:=Yhr (B:=Yaw) (G:=G) (txt:=txt) (μ:=fun zz=>0) rfl (fun zz zz=>Zl _) (a:=a) (b:=b) hn
 rw [h] at this
 exact this.2
theorem Ynp {κ:Type}{f:Fr κ}(h:¬ f.nr):∃ n,f.piece=.rule n:=Classical.byContradiction fun q=>h fun n e=>q ⟨n,e⟩
theorem Yhe {G:Str→Pt}{txt:List Nat}{f:Fr Kid}{b:Mm}{n:Str}(hn:f.piece=.rule n):(∃ x,Yap b.kept (n,f.place)=some x∧Yah G txt Yaw f none b=.pop (Ye1 (n,f.place) x) b)∨(Yap b.kept (n,f.place)=none∧Yah G txt Yaw f none b=.push f (G n) f.place ⟨b.kept,b.order++[(n,f.place)]⟩):=by
 cases hk:Yap b.kept (n,f.place) with
 | some x=>exact .inl ⟨x,rfl,by simp only [Yah,hn,Yaw,hk,Option.map_some]⟩
 | none=>exact .inr ⟨rfl,by simp only [Yah,hn,Yaw,hk,Option.map_none]⟩
class inductive Dfs (Ak:Kid→List Kid→Prop):List Kid→List Kid→List Kid→Prop where
 | nil {o:List Kid}:Dfs Ak [] o o
 | old {k:Kid}{r o o':List Kid}:k∈o→Dfs Ak r o o'→Dfs Ak (k::r) o o'
 | new {k:Kid}{as r o o':List Kid}:k∉o→Ak k as→Dfs Ak (as++r) (o++[k]) o'→Dfs Ak (k::r) o o'
theorem Dfs.mono {Ak Ak':Kid→List Kid→Prop}(hm:∀ k as,Ak k as→Ak' k as) {r o o':List Kid}(h:Dfs Ak r o o'):Dfs Ak' r o o':=by
 induction h with
 | nil=>exact .nil
 | old h z1 ih=>exact .old h ih
 | new h h' z1 ih=>exact .new h (hm _ _ h') ih
theorem Dfs.app {Ak:Kid→List Kid→Prop}{r r' o o' o'':List Kid}(h:Dfs Ak r o o') (h':Dfs Ak r' o' o''):Dfs Ak (r++r') o o'':=by
 induction h with
 | nil=>exact h'
 | old h z1 ih=>exact .old h (ih h')
 | new h g z1 ih=>exact .new h g (Ze _ _ _▸ih h')
noncomputable def Ak (G:Str→Pt) (txt:List Nat) (b:Mm) (k:Kid) (as:List Kid):Prop:=∃ a,Yap b.kept k=some a∧Ev G txt (Yap b.kept) (.new (G k.1) k.2) none a as
structure MI (G:Str→Pt) (txt:List Nat) (L:List Kid) (b:Mm):Prop where
 live:∀ k∈L,k∈b.order∧Yap b.kept k=none
 done:∀ k∈b.order,k∈L∨∃ as,Ak G txt b k as
 kin:∀ k a,Yap b.kept k=some a→k∈b.order
theorem Ak.mono {G:Str→Pt}{txt:List Nat}{b b':Mm}(h:∀ k a,Yap b.kept k=some a→Yap b'.kept k=some a) (k:Kid) (as:List Kid) (x:Ak G txt b k as):Ak G txt b' k as:=by
 obtain ⟨a,h1,h2⟩:=x
 exact ⟨a,h _ _ h1,h2.mono h⟩
theorem MI.ended {G:Str→Pt}{txt:List Nat}{L:List Kid}{b:Mm}{k:Kid}{a:An Kid}{as:List Kid}(h:MI G txt (k::L) b) (hl:k∉L) (ha:Ev G txt (Yap b.kept) (.new (G k.1) k.2) none a as):MI G txt L ⟨b.kept++[(k,a)],b.order⟩∧Ak G txt ⟨b.kept++[(k,a)],b.order⟩ k as∧∀ x y,Yap b.kept x=some y→Yap (b.kept++[(k,a)]) x=some y:=by
 obtain ⟨ho,hk⟩:=h.live k (Zt ..)
 have up:∀ x y,Yap b.kept x=some y→Yap (b.kept++[(k,a)]) x=some y:=fun x y e=>by rw [Ycg,e]; rfl
 have hkk:Yap (b.kept++[(k,a)]) k=some a:=by rw [Ycg,hk,if_pos rfl]; rfl
 have aks:Ak G txt ⟨b.kept++[(k,a)],b.order⟩ k as:=⟨a,hkk,ha.mono up⟩
 refine ⟨⟨fun x q=>⟨(h.live x (Zd _ q)).1,?_⟩,fun x q=>?_,fun x y e=>?_⟩,aks,up⟩
 · show Yap (b.kept++[(k,a)]) x=none
   rw [Ycg,(h.live x (Zd _ q)).2,if_neg (fun e:k=x=>hl (e▸q))]; rfl
 · rcases h.done x q with g | ⟨as',g⟩
   · rcases Zg.mp g with rfl | g
     · exact .inr ⟨_,aks⟩
     · exact .inl g
   · exact .inr ⟨as',Ak.mono (b':=⟨b.kept++[(k,a)],b.order⟩) up _ _ g⟩
 · have e:Yap (b.kept++[(k,a)]) x=some y:=e
   by_cases q:k=x
   · exact q▸ho
   · rw [Ycg,if_neg q,Option.or_none] at e
     exact h.kin x y e
theorem MI.begun {G:Str→Pt}{txt:List Nat}{L:List Kid}{b:Mm}{k:Kid}(h:MI G txt L b) (hl:k∉L) (hk:Yap b.kept k=none):MI G txt (k::L) ⟨b.kept,b.order++[k]⟩∧k∉b.order:=by
 refine ⟨⟨fun x q=>?_,fun x q=>?_,fun x y e=>Zxb _ (h.kin x y e)⟩,fun q=>?_⟩
 · rcases Zg.mp q with rfl | q
   · exact ⟨Zyb _ (Zj.mpr rfl),hk⟩
   · exact ⟨Zxb _ (h.live x q).1,(h.live x q).2⟩
 · rcases Zm.mp q with q | q
   · exact (h.done x q).imp (Zd _) id
   · exact .inl (Zj.mp q▸Zt ..)
 · rcases h.done _ q with g | ⟨zz,x,g,zz⟩
   · exact hl g
   · rw [hk] at g; cases g
inductive Yqi (G:Str→Pt) (txt:List Nat) (L:List Kid) (f:Fr Kid) (a:Option (An Kid)) (b:Mm) (a':An Kid) (b':Mm):Prop where
 | mk (as:List Kid) (h1:MI G txt L b') (h2:∀ k x,Yap b.kept k=some x→Yap b'.kept k=some x) (h3:Ev G txt (Yap b'.kept) f a a' as) (h4:Dfs (Ak G txt b') as b.order b'.order):Yqi G txt L f a b a' b'
section
variable {G:Str→Pt}{txt:List Nat}{L:List Kid}{f f':Fr Kid}{a:Option (An Kid)}{b b' b'' b₂:Mm}{a' a₂:An Kid}{n:Str}{p:Pt}{i:Nat}
theorem Yss (hn:f.nr) (hs:Yah G txt Yaw f a b=.pop a' b') (hI:MI G txt L b):Yqi G txt L f a b a' b':=by
 have e:=Ysv hn hs
 rw [e] at hs ⊢
 exact ⟨[],hI,fun zz zz e=>e,.pop hn hs,.nil⟩
theorem Ysl (hn:f.piece=.rule n) (hs:Yah G txt Yaw f none b=.pop a' b') (hI:MI G txt L b):Yqi G txt L f none b a' b':=by
 refine (Yhe (G:=G) (txt:=txt) (b:=b) hn).elim (fun h=>h.elim fun x h=>?_) fun h=>?_
 · have e:=h.2.symm.trans hs
   rw [← (Out.pop.inj e).1,← (Out.pop.inj e).2]
   exact ⟨_,hI,fun zz zz e=>e,.ask hn h.1,.old (hI.kin _ _ h.1) .nil⟩
 · have e:=h.2.symm.trans hs
   cases e
theorem Yok (hn:f.nr) (hs:Yah G txt Yaw f a b=.push f' p i b') (ih1:MI G txt (lvl f L) b'→Yqi G txt (lvl f L) (.new p i) none b' a' b'') (ih2:f'.nr→MI G txt L b''→Yqi G txt L f' (some a') b'' a₂ b₂) (hI:MI G txt L b):Yqi G txt L f a b a₂ b₂:=by
 have hp:=Yhm hn hs
 have el:lvl f L=L:=by
   have hm:∀ n,f.piece≠.rule n:=hn
   unfold lvl; revert hm
   exact f.piece.casesOn (fun _ _=>rfl) (fun _ _ _=>rfl) (fun _=>rfl) (fun n h=>absurd rfl (h n)) (fun _ _=>rfl) (fun _ _=>rfl) (fun _ _=>rfl) fun _ _=>rfl
 rw [el,hp.1] at ih1
 rw [hp.1] at hs
 refine (ih1 hI).rec fun as g1 g2 g3 g4=>(ih2 (fun n e=>hn n (hp.2.1▸e)) g1).rec fun as' k1 k2 k3 k4=>?_
 exact ⟨as++as',k1,fun k x hx=>k2 _ _ (g2 _ _ hx),.push hn hs (g3.mono k2) k3,(g4.mono (Ak.mono k2)).app k4⟩
theorem Ynj (hn:f.piece=.rule n) (hl:Yh6 f L) (hs:Yah G txt Yaw f none b=.push f' p i b') (ih1:MI G txt (lvl f L) b'→Yqi G txt (lvl f L) (.new p i) none b' a' b'') (h2:∀ {x:An Kid}{y:Mm},Yah G txt Yaw f' (some a') b''=.pop x y→some (a₂,b₂)=some (x,y)) (hI:MI G txt L b):Yqi G txt L f none b a₂ b₂:=by
 have hl:(n,f.place)∉L:=by simpa only [Yh6,hn] using hl
 refine (Yhe (G:=G) (txt:=txt) (b:=b) hn).elim (fun h=>h.elim fun x h=>by cases h.2.symm.trans hs) fun h=>?_
 have el:lvl f L=(n,f.place)::L:=by simp only [lvl,hn]
 have e:=Out.push.inj (h.2.symm.trans hs)
 rw [el,← e.2.1,← e.2.2.1,← e.2.2.2] at ih1
 rw [← e.1] at h2
 have m:=hI.begun hl h.1
 refine (ih1 m.1).rec fun as g1 g2 g3 g4=>?_
 have hl2:=(g1.live _ (Zt ..)).2
 have hs2:Yah G txt Yaw f (some a') b''=.pop (Ye1 (n,f.place) a') ⟨b''.kept++[((n,f.place),a')],b''.order⟩:=by
   simp only [Yah,hn]; show Out.pop _ (Mm.mk (Yqd b''.kept (n,f.place) a') b''.order)=_; rw [Yht hl2]; rfl
 refine Ygi (g1.ended hl g3) fun k1 k2 k3=>?_
 have e2:=Prod.mk.inj (Zab (h2 hs2))
 rw [e2.1,e2.2]
 have hxa:Yap (b''.kept++[((n,f.place),a')]) (n,f.place)=some a':=by rw [Ycg,hl2,if_pos rfl]; rfl
 exact ⟨_,k1,fun k x e=>k3 _ _ (g2 _ _ e),.ask hn hxa,.new m.2 k2 (by rw [Zlc]; exact g4.mono (Ak.mono k3))⟩
end
theorem Bs.mem {G:Str→Pt}{txt:List Nat}{D:Nat}{L:List Kid}{f:Fr Kid}{a:Option (An Kid)}{b:Mm}{o:Option (An Kid×Mm)}(h:Bs G txt Yaw D L f a b o):∀ a' b',o=some (a',b')→(f.nr∨a=none)→MI G txt L b→Yqi G txt L f a b a' b':=by
 induction h with
 | stop=>exact (by intros; contradiction)
 | dead=>exact (by intros; contradiction)
 | @pop D L f a b b' a' w hs =>
   intro a₂ b₂ e hr hI
   have e:=Prod.mk.inj (Zab e)
   rw [← e.1,← e.2]
   by_cases hn:f.nr
   · exact Yss hn hs hI
   · have ea:=hr.resolve_left hn
     rw [ea] at hs ⊢
     exact (Ynp hn).elim fun n hn=>Ysl hn hs hI
 | @push D L f f' a b b' b'' p i a' o w hs hl h1 h2 ih1 ih2 =>
   intro a₂ b₂ e hr hI
   by_cases hn:f.nr
   · exact Yok hn hs (ih1 _ _ rfl (.inr rfl)) (fun h=>ih2 _ _ e (.inl h)) hI
   · have ea:=hr.resolve_left hn
     rw [ea] at hs ⊢
     exact (Ynp hn).elim fun n hn=>Ynj hn hl hs (ih1 _ _ rfl (.inr rfl)) (fun q=>e.symm.trans (h2.pops q)) hI
end
section
class inductive Seqd (K:Kid→Option (An Kid)):Nat→List Kid→Nat→Prop where
 | nil {i e:Nat}:i≤e→Seqd K i [] e
 | cons {i e e1:Nat}{k:Kid}{us r:List Kid}:i≤k.2→k.2≤e1→K k=some (some e1,us)→Seqd K e1 r e→Seqd K i (k::r) e
theorem Seqd.le {K:Kid→Option (An Kid)}{i e:Nat}{ks:List Kid}(h:Seqd K i ks e):i≤e:=by
 induction h with
 | nil h=>exact h
 | cons h1 h2 z1 z2 ih=>exact Za h1 (Za h2 ih)
theorem Seqd.down {K:Kid→Option (An Kid)}{i j e:Nat}{ks:List Kid}(h:Seqd K i ks e) (hj:j≤i):Seqd K j ks e:=by
 cases h with
 | nil h=>exact .nil (Za hj h)
 | cons h1 h2 h3 h4=>exact .cons (Za hj h1) h2 h3 h4
theorem Seqd.app {K:Kid→Option (An Kid)}{i h e:Nat}{ks us:List Kid}(x:Seqd K i ks h) (y:Seqd K h us e):Seqd K i (ks++us) e:=by
 induction x with
 | nil h=>exact y.down h
 | cons h1 h2 h3 z1 ih=>exact .cons h1 h2 h3 (ih y)
theorem Seqd.at {K:Kid→Option (An Kid)}{i e:Nat}{ks:List Kid}(h:Seqd K i ks e):∀ k∈ks,i≤k.2∧∃ e1 us,K k=some (some e1,us)∧k.2≤e1∧e1≤e:=by
 induction h with
 | nil=>nofun
 | cons h1 h2 h3 h4 ih =>
   intro k hk
   rcases Zg.mp hk with rfl | hk
   · exact ⟨h1,_,_,h3,h2,h4.le⟩
   · obtain ⟨g1,g2⟩:=ih k hk
     exact ⟨Za h1 (Za h2 g1),g2⟩
section
variable {txt:List Nat}{K:Kid→Option (An Kid)}{mb:Str→Bool}
noncomputable def Yfg (K:Kid→Option (An Kid)) (mb:Str→Bool) (p:Pt) (i:Nat) (a:An Kid):Prop:=∀ e,a.1=some e→Seqd K i a.2 e∧(e=i→p.may mb=true)∧∀ k∈a.2,p.Asks k.1∧(k.2=i→k.1∈p.ahd mb)
noncomputable def Yfj (K:Kid→Option (An Kid)) (mb:Str→Bool) (f:Fr Kid) (x:An Kid):Prop:=match f.piece with
 | .row ps=>∃ q,ps[f.turn]?=some q∧Seqd K f.place f.kids f.here∧(f.here=f.place→Pt.mayAll mb (ps.take f.turn)=true)∧(∀ k∈f.kids,(Pt.row ps).Asks k.1∧(k.2=f.place→k.1∈Pt.ahdRow mb ps))∧Yfg K mb q f.here x
 | .alt ps=>∃ q∈ps,Yfg K mb q f.place x
 | .many q=>Seqd K f.place f.kids f.here∧(∀ k∈f.kids,(Pt.many q).Asks k.1∧(k.2=f.place→k.1∈q.ahd mb))∧Yfg K mb q f.here x
 | z1=>True
noncomputable def Ygk (K:Kid→Option (An Kid)) (mb:Str→Bool) (p:Pt) (i:Nat):Out Mm Kid→Prop
 | .pop a z1=>Yfg K mb p i a
 | .push f q j z1=>∀ x,Yfg K mb q j x→Yfj K mb f x
 | .stop=>True
theorem Ydn {p:Pt}{i:Nat}{us:List Kid}:Yfg K mb p i (none,us):=nofun
theorem Ykc {p:Pt}{f:Fr Kid}{b:Mm}:Ygk K mb p f.place (Ybg txt Yaw p f b):=by
 simp only [Ybg,Yaw]
 split
 · split
   · exact fun e he=>by cases he; exact ⟨.nil (Nat.le_succ _),fun he=>absurd he (Nat.succ_ne_self _),(by intros; contradiction)⟩
   · exact Ydn
 · exact Ydn
set_option tactic.hygienic true in
theorem Ys9 {b:Mm}{ps:List Pt}{i t h:Nat}{ks:List Kid}(h1:Seqd K i ks h) (h2:h=i→Pt.mayAll mb (ps.take t)=true) (h3:∀ k∈ks,(Pt.row ps).Asks k.1∧(k.2=i→k.1∈Pt.ahdRow mb ps)):Ygk K mb (.row ps) i (Ybp ps (⟨.row ps,i,t,h,ks⟩:Fr Kid) b):=by
 unfold Ybp
 split
 · rename_i q hq; exact fun x hx=>⟨q,hq,h1,h2,h3,hx⟩
 · rename_i hq
   have ht:=List.getElem?_eq_none_iff.mp hq
   intro e he; cases he
   refine ⟨h1,fun he=>?_,fun k hk=>by rw [Pt.ahd2]; exact h3 k hk⟩
   rw [Pt.may4,← List.take_of_length_le ht]; exact h2 he
set_option tactic.hygienic true in
theorem Yti {b:Mm}{ps:List Pt}{f:Fr Kid}(hf:f.piece=.alt ps):Ygk K mb (.alt ps) f.place (Ybq ps f b):=by
 unfold Ybq
 split
 · rename_i q hq; intro x hx; unfold Yfj; rw [hf]; exact ⟨q,Zn hq,hx⟩
 · exact Ydn
section
variable {G:Str→Pt}{b:Mm}{i t h:Nat}{ks:List Kid}{ps:List Pt}{q:Pt}
theorem Yyo:∀ (a:Option (An Kid)) (w0:a=none→(⟨.row ps,i,t,h,ks⟩:Fr Kid)=.new (.row ps) i) (w1:∀ x,a=some x→Yfj K mb ⟨.row ps,i,t,h,ks⟩ x),Ygk K mb (.row ps) i (Yah G txt Yaw ⟨.row ps,i,t,h,ks⟩ a b):=by
 refine an3 (fun w0 w1=>?_) (fun us w0 w1=>Ydn) fun e us w0 w1=>?_
 · rw [w0 rfl]; exact Ys9 (.nil (Zl _)) (fun zz=>by simp [Pt.mayAll1]) (by intros; contradiction)
 · refine (w1 _ rfl).elim fun q hh=>Yzk hh fun q1 q2 q3 q4 q5=>Ygi (q5 e rfl) fun r1 r2 r3=>?_
   have l1:i≤h:=q2.le
   have l2:h≤e:=r1.le
   refine Ys9 (q2.app r1) (fun he=>?_) fun k hk=>(Zm.mp hk).elim (q4 k) fun hk=>?_
   · have he:e=i:=he
     exact Pt.mayAll_next q1 (q3 (Zpc (he▸l2) l1)) (r2 (Zpc (he▸l1) l2))
   · have l3:h≤k.2:=(r1.at k hk).1
     exact ⟨.deep (Zn q1) (r3 k hk).1,fun hi=>Pt.ahdRow_at q1 (q3 (Zpc (hi▸l3) l1)) _ ((r3 k hk).2 (Zpc (hi▸l1) l3))⟩
theorem Yy4:∀ (a:Option (An Kid)) (w1:∀ x,a=some x→Yfj K mb ⟨.alt ps,i,t,h,ks⟩ x),Ygk K mb (.alt ps) i (Yah G txt Yaw ⟨.alt ps,i,t,h,ks⟩ a b):=by
 refine an3 (fun w1=>Yti rfl) (fun us w1=>Yti (f:=Fr.nxt ⟨.alt ps,i,t,h,ks⟩) rfl) fun e us w1 e' he=>?_
 exact (w1 _ rfl).elim fun q hh=>Ygi (hh.2 e' he) fun r1 r2 r3=>⟨r1,fun x=>by rw [Pt.may5]; exact Pt.mayAny_at hh.1 (r2 x),fun k hk=>⟨.deep hh.1 (r3 k hk).1,fun hi=>by rw [Pt.ahd3]; exact Pt.ahdAlt_at hh.1 _ ((r3 k hk).2 hi)⟩⟩
theorem Yv1:∀ (a:Option (An Kid)) (w0:a=none→(⟨.many q,i,t,h,ks⟩:Fr Kid)=.new (.many q) i) (w1:∀ x,a=some x→Yfj K mb ⟨.many q,i,t,h,ks⟩ x),Ygk K mb (.many q) i (Yah G txt Yaw ⟨.many q,i,t,h,ks⟩ a b):=by
 have fin:∀ {x:An Kid},Yfj K mb ⟨.many q,i,t,h,ks⟩ x→Yfg K mb (.many q) i (some h,ks):=fun w e' he=>Yad he▸⟨w.1,fun zz=>by rw [Pt.may1],fun k hk=>by rw [Pt.ahd4]; exact w.2.1 k hk⟩
 refine an3 (fun w0 w1=>?_) (fun us w0 w1=>fin (w1 _ rfl)) fun e us w0 w1=>?_
 · rw [w0 rfl]; exact fun x hx=>⟨.nil (Zl _),(by intros; contradiction),hx⟩
 · show Ygk K mb _ _ (if e=h then _ else _)
   by_cases he:e=h
   · rw [if_pos he]; exact fin (w1 _ rfl)
   · rw [if_neg he]
     refine Ygi (w1 _ rfl) fun q2 q4 q5=>Ygi (q5 e rfl) fun r1 r2 r3=>?_
     have l1:i≤h:=q2.le
     refine fun x hx=>⟨q2.app r1,fun k hk=>(Zm.mp (show k∈ks++us from hk)).elim (q4 k) fun hk=>?_,hx⟩
     have l3:h≤k.2:=(r1.at k hk).1
     refine ⟨.deep (by simp [Pt.kids3]) (r3 k hk).1,fun hi=>(r3 k hk).2 ?_⟩
     have hi:k.2=i:=hi
     exact Zpc (hi▸l1) l3
theorem Yzz:∀ {a:Option (An Kid)},Ygk K mb (.nt q) i (Yah G txt Yaw ⟨.nt q,i,t,h,ks⟩ a b) :=
 an3 (P:=fun a=>Ygk K mb (.nt q) i (Yah G txt Yaw ⟨.nt q,i,t,h,ks⟩ a b)) (fun zz zz=>trivial) (fun us e he=>Yad he▸⟨.nil (Zl _),fun zz=>by rw [Pt.may2],(by intros; contradiction)⟩) (fun e us=>Ydn) _
end
theorem Yn3 {G:Str→Pt}{b:Mm}{f:Fr Kid}{a:Option (An Kid)}(hn:f.nr) (w0:a=none→f=.new f.piece f.place) (w1:∀ x,a=some x→Yfj K mb f x):Ygk K mb f.piece f.place (Yah G txt Yaw f a b):=by
 obtain ⟨p,i,t,h,ks⟩:=f
 cases p with
 | rule n=>exact absurd rfl (hn n)
 | sign c=>exact Ykc
 | span c d=>exact Ykc
 | any=>exact Ykc
 | row ps=>exact Yyo _ w0 w1
 | alt ps=>exact Yy4 _ w1
 | many q=>exact Yv1 _ w0 w1
 | nt q=>exact Yzz
theorem Ev.kids {G:Str→Pt}(hK:∀ k a,K k=some a→∀ e,a.1=some e→k.2≤e∧(e=k.2→mb k.1=true)) {f:Fr Kid}{a:Option (An Kid)}{o:An Kid}{as:List Kid}(h:Ev G txt K f a o as) :
   (a=none→f=.new f.piece f.place)→(∀ x,a=some x→Yfj K mb f x)→Yfg K mb f.piece f.place o:=by
 induction h with
 | @ask f n a h1 h2 =>
   intro zz zz e he
   obtain ⟨x,us⟩:=a
   cases x with
   | none=>cases he
   | some e1 =>
     cases he
     obtain ⟨g1,g2⟩:=hK _ _ h2 e rfl
     refine ⟨.cons (Zl _) g1 h2 (.nil (Zl _)),fun q=>?_,fun k hk=>?_⟩
     · rw [h1,Pt.may3]; exact g2 q
     · cases Zj.mp hk; rw [h1,Pt.ahd1]; exact ⟨.here,fun zz=>Zj.mpr rfl⟩
 | @pop f a a' b b' hn hs =>
   intro w0 w1
   have:=Yn3 (G:=G) (txt:=txt) (b:=b) hn w0 w1
   rw [hs] at this; exact this
 | @push f f' a a' o p i b b' as as' hn hs z1 z2 ih1 ih2 =>
   intro w0 w1
   have:=Yn3 (G:=G) (txt:=txt) (b:=b) hn w0 w1
   rw [hs] at this
   obtain ⟨zz,s1,s2⟩:=Yhm hn hs
   have k:=ih2 (by intros; contradiction) (fun x e=>by cases e; exact this _ (ih1 (fun zz=>rfl) (by intros; contradiction)))
   rw [s1,s2] at k; exact k
end
noncomputable abbrev Row:=Nat×Kid×Nat
class inductive Tr (K:Kid→Option (An Kid)):Nat→List Kid→List Row→Prop where
 | nil {d:Nat}:Tr K d [] []
 | cons {d e:Nat}{k:Kid}{ks r:List Kid}{t t':List Row}:K k=some (some e,ks)→Tr K (d+1) ks t→Tr K d r t'→Tr K d (k::r) ((d,k,e)::(t++t'))
class inductive Walk (K:Kid→Option (An Kid)):List (Nat×Kid)→List Row→Prop where
 | nil:Walk K [] []
 | cons {d e:Nat}{k:Kid}{ks:List Kid}{r:List (Nat×Kid)}{t:List Row}:K k=some (some e,ks)→Walk K (ks.map (d+1,·)++r) t→Walk K ((d,k)::r) ((d,k,e)::t)
theorem Tr.walk {K:Kid→Option (An Kid)}{d:Nat}{ks:List Kid}{t:List Row}(h:Tr K d ks t):∀ {r:List (Nat×Kid)}{t':List Row},Walk K r t'→Walk K (ks.map (d,·)++r) (t++t'):=by
 induction h with
 | nil=>exact fun h=>h
 | cons h1 z1 z2 ih1 ih2=>exact fun {r t'} h=>.cons h1 ((Ze _ _ _).symm▸ih1 (ih2 h):Walk _ _ ((_++_)++t'))
theorem Walk.len {K:Kid→Option (An Kid)}{r:List (Nat×Kid)}{t:List Row}(h:Walk K r t):r.length≤t.length:=by
 induction h with
 | nil=>exact Zl _
 | cons z1 z2 ih=>rw [Zf] at ih; exact Zwb (Za (Ztb _ _) ih)
theorem Yt5 {l h i R N m:Nat}(g:i < h) (hl:h≤l) (hN:(l - i)*(R+1)+(R - m)≤N):(l - h)*(R+1)+(R - 0) < N :=
 Zz (Nat.add_lt_add_left (Zs R) _) (Za (Zr (Nat.succ_mul (l - h) (R+1)).symm) (Za (Zvb _ (Zqc (Zz g hl) g)) (Za (Zy _ _) hN)))
theorem Ywr {X R a b:Nat}(h:a < b) (hb:b < R):X+(R - b) < X+(R - a):=Nat.add_lt_add_left (Zqc (Nat.lt_trans h hb) h) X
theorem Tr.ex {G:Str→Pt}{txt:List Nat}{names:List Str}{mb:Str→Bool}{ix:Str→Nat}{R W:Nat}{b:Mm}(hG:Yvb G names mb ix R W) (hm:Mc names mb W txt.length [] b) (hi:MI G txt [] b) :
   ∀ (N d:Nat) (k:Kid) (e:Nat) (ks:List Kid),Yap b.kept k=some (some e,ks)→(txt.length - k.2)*(R+1)+(R - ix k.1) < N→∃ t,Tr (Yap b.kept) d [k] t:=by
 have hK:∀ k a,Yap b.kept k=some a→∀ e,a.1=some e→k.2≤e∧(e=k.2→mb k.1=true):=fun k a h e he=>by
   have hw:=hm.fit k a h
   unfold Yjp at hw; rw [he] at hw; exact ⟨hw.1,hw.2.2.1⟩
 intro N
 induction N with
 | zero=>intro zz zz zz zz zz h; exact absurd h (Zlb _)
 | succ N ih =>
   intro d k e ks hk hN
   have ho:=hi.kin k _ hk
   obtain ⟨hkn,hkl⟩:=hm.rng k ho
   obtain ⟨as,a,h1,h2⟩:=(hi.done k ho).resolve_left nofun
   rw [hk] at h1; cases h1
   obtain ⟨s1,s2,s3⟩:=h2.kids hK (fun zz=>rfl) (by intros; contradiction) e rfl
   have s1:Seqd (Yap b.kept) k.2 ks e:=s1
   have lst:∀ l:List Kid,(∀ x∈l,x∈ks)→∃ t,Tr (Yap b.kept) (d+1) l t:=by
     intro l
     induction l with
     | nil=>exact fun zz=>⟨_,.nil⟩
     | cons x r ihr =>
       intro hl
       obtain ⟨t',ht'⟩:=ihr fun y hy=>hl y (Zd _ hy)
       have hx:=hl x (by simp)
       obtain ⟨g1,e1,us,g2,g3,g4⟩:=s1.at x hx
       obtain ⟨hxn,hxl⟩:=hm.rng x (hi.kin x _ g2)
       have lt:(txt.length - x.2)*(R+1)+(R - ix x.1) < N:=by
         have i1:=hG.ixl x.1 hxn
         rcases Nat.eq_or_lt_of_le g1 with q | q
         · have:=hG.lead k.1 hkn x.1 ((s3 x hx).2 q.symm)
           rw [← q]; exact Zz (Ywr this i1) (Zjc hN)
         · exact Zz (Zk (Zzb (Zbc (Zkb _) _) _) (Yt5 q hxl (Zl _))) (Zjc hN)
       obtain ⟨t,ht⟩:=ih (d+1) x e1 us g2 lt
       cases ht with
       | cons q1 q2 q3=>exact ⟨_,.cons q1 q2 ht'⟩
   obtain ⟨t,ht⟩:=lst ks fun zz h=>h
   exact ⟨_,.cons hk ht .nil⟩
theorem Ypu {G:Str→Pt}{txt:List Nat}{names:List Str}{mb:Str→Bool}{W:Nat}{b:Mm}(hm:Mc names mb W txt.length [] b) (hi:MI G txt [] b) {k:Kid}{e:Nat}{ks:List Kid}(hk:Yap b.kept k=some (some e,ks)) :
   Seqd (Yap b.kept) k.2 ks e∧(∀ x∈ks,(G k.1).Asks x.1)∧ks.length≤W*(txt.length+1):=by
 have ho:=hi.kin k _ hk
 obtain ⟨as,a,h1,h2⟩:=(hi.done k ho).resolve_left nofun
 rw [hk] at h1; cases h1
 obtain ⟨s1,s2,s3⟩:=h2.kids (mb:=mb) (fun k a h e he=>by
   have hw:=hm.fit k a h
   unfold Yjp at hw; rw [he] at hw; exact ⟨hw.1,hw.2.2.1⟩) (fun zz=>rfl) (by intros; contradiction) e rfl
 obtain ⟨f1,f2,zz,f4⟩:=hm.fit k _ hk
 exact ⟨s1,fun x hx=>(s3 x hx).1,Za f4 (Znb _ (Yua f2))⟩
theorem Tr.size {K:Kid→Option (An Kid)}{f:Kid→Nat}(hf:∀ k e ks,K k=some (some e,ks)→1+(ks.map f).sum≤f k) {d:Nat}{ks:List Kid}{t:List Row}(h:Tr K d ks t):t.length≤(ks.map f).sum:=by
 induction h with
 | nil=>exact Zl _
 | cons h1 z1 z2 ih1 ih2 =>
   rw [List.length_cons,Zf,List.map_cons,List.sum_cons,Nat.add_right_comm]
   exact Zcb (Za (Zac ih1 1) (Nat.add_comm _ 1▸hf _ _ _ h1)) ih2
end
section
set_option genCtorIdx false in
end
section
theorem Bs.mem_go {G:Str→Pt}{txt:List Nat}{D:Nat}{L:List Kid}{f:Fr Kid}{a:Option (An Kid)}{b:Mm}{o:Option (An Kid×Mm)}(h:Bs G txt Yaw D L f a b o):o≠none:=by
 induction h with
 | @stop D L f a b w hs =>
   by_cases hn:f.nr
   · have:=Yhr (B:=Yaw) (G:=G) (txt:=txt) (μ:=fun zz=>0) rfl (fun zz zz=>Zl _) (a:=a) (b:=b) hn
     rw [hs] at this; cases this
   · obtain ⟨n,hn⟩:=Ynp hn
     cases a with
     | some x=>simp only [Yah,hn] at hs; cases hs
     | none=>rcases Yhe (G:=G) (txt:=txt) (b:=b) hn with ⟨zz,zz,q⟩ | ⟨zz,q⟩ <;> rw [q] at hs <;> cases hs
 | pop=>exact nofun
 | dead z1 z2 z3 z4 ih=>exact ih
 | push z1 z2 z3 z4 z5 z6 ih=>exact ih
theorem Yzr {l i R:Nat}:(l - i)*R+(R - 0)≤(l+1)*R:=by
 rw [Nat.succ_mul]; exact Zac (Zvb _ (Nat.sub_le ..)) R
theorem Ev.rule {G:Str→Pt}{txt:List Nat}{K:Kid→Option (An Kid)}{n:Str}{i:Nat}{o:An Kid}{as:List Kid}(h:Ev G txt K (.new (.rule n) i) none o as):∃ a,K (n,i)=some a∧o=Ye1 (n,i) a∧as=[(n,i)]:=by
 cases h with
 | pop h=>exact absurd rfl (h n)
 | ask h h2=>cases h; exact ⟨_,h2,rfl,rfl⟩
 | push h=>exact absurd rfl (h n)
theorem Yzt {x:Nat}(h:x≤4000000):x+1≤5000000:=Za (Zwb h) (by decide)
section
variable {G:Str→Pt}{txt:List Nat}{names:List Str}{mb:Str→Bool}{ix:Str→Nat}{R W:Nat}{b:Mm}
theorem Ysx (hG:Yvb G names mb ix R W) (hW:(W+1)*(txt.length+1)≤5000000) (hz:names.length*(txt.length+1)≤5000000) (hD:(txt.length+1)*R*14≤4000000) (hm:Mc names mb W txt.length [] b) (hi:MI G txt [] b) {name:Str}{i:Nat}(hn:name∈names) (hl:i≤txt.length) :
   ∃ (n:Nat) (x:An Kid) (b':Mm),Fin G txt Yaw (· = some (Ye1 (name,i) x,b')) n ⟨[.new (.rule name) i],none,b⟩∧Yap b'.kept (name,i)=some x∧Mc names mb W txt.length [] b'∧MI G txt [] b'∧(∀ k y,Yap b.kept k=some y→Yap b'.kept k=some y)∧Dfs (Ak G txt b') [(name,i)] b.order b'.order:=by
 have hN:=Yzr (l:=txt.length) (i:=i) (R:=R)
 refine (ends hG (Yrw hz) hW _ 1 i 0 (.rule name) [] b hN (by simp [Pt.deep8]) (by simp [Pt.deep8]) (by simpa only [Pt.ok1,Pt.ok2,Pt.ok3,Pt.ok4,Pt.ok5,Pt.ok6,Pt.ok7,Pt.ok8] using hn) (by simp [Pt.wt1]) (fun zz zz=>Zkb _) hl (by intros; contradiction) hm).elim fun o hh=>?_
 have he:o=none→False:=fun e=>(e▸hh.1).mem_go rfl
 revert hh he
 refine o.rec (fun zz he=>(he rfl).elim) fun y hh zz=>?_
 refine (hh.1.mem y.1 y.2 rfl (.inr rfl) hi).rec fun as k1 k2 k3 k4=>k3.rule.elim fun x e=>(hh.1.run (Yzt hD)).elim fun n hfin=>?_
 rw [e.2.2] at k4
 exact ⟨n,x,y.2,e.2.1▸hfin,e.1,(hh.2 _ _ rfl).1,k1,k2,k4⟩
theorem Yr8 (hG:Yvb G names mb ix R W) (hm:Mc names mb W txt.length [] b) (hi:MI G txt [] b) {k:Kid}{e:Nat}{ks:List Kid}(hk:Yap b.kept k=some (some e,ks)):∃ t,Tr (Yap b.kept) 0 [k] t :=
 Tr.ex hG hm hi _ 0 k e ks hk (Zs _)
end
theorem MI.nil {G:Str→Pt}{txt:List Nat}:MI G txt [] ⟨[],[]⟩:=⟨(by intros; contradiction),(by intros; contradiction),(by intros; contradiction)⟩
noncomputable def Yo7 (rs:List (Str×Pt)) (n:Str):Nat:=(rs.map (·.1)).idxOf n
theorem Yec {rs:List (Str×Pt)}(hn:(rs.map (·.1)).Nodup) {j:Nat}{r:Str×Pt}(h:rs[j]?=some r):Yo7 rs r.1=j:=by
 obtain ⟨h1,rfl⟩:=Zb.mp h
 have:=hn.idxOf_getElem j (by simpa using h1)
 simpa [Yo7] using this
theorem Yur {rs:List (Str×Pt)}{G:Str→Pt}{W:Nat}(hG:∀ r∈rs,G r.1=r.2) (hg:Yax rs) (hl:Ygr rs) (hw:∀ r∈rs,r.2.wt≤W):Yvb G (rs.map (·.1)) (inB (Yba rs rs.length)) (Yo7 rs) rs.length W:=by
 have at_:∀ {P:Str→Prop},(∀ r∈rs,P r.1)→∀ n∈rs.map (·.1),P n:=fun h n hn=>by
   obtain ⟨r,hr,rfl⟩:=Zsb.mp hn
   exact h r hr
 refine ⟨at_ fun r hr=>?_,at_ fun r hr=>?_,at_ fun r hr=>?_,at_ fun r hr=>?_,at_ fun r hr=>?_,at_ fun r hr=>?_⟩
 · rw [hG r hr]
   exact Pt.ok_of _ r.2 (Zl _) (hg.all r hr).good (hg.all r hr).few fun m hm=>(hg.all r hr).asks m hm
 · rw [hG r hr]; exact (hg.all r hr).deep
 · rw [hG r hr]; exact hw r hr
 · rw [hG r hr]
   intro y hy
   obtain ⟨j,hj⟩:=List.mem_iff_getElem?.mp hr
   obtain ⟨k,r',h1,h2,rfl⟩:=hl j r hj _ y hy
   rw [Yec hg.nodup hj,Yec hg.nodup h2]; exact h1
 · obtain ⟨j,hj⟩:=List.mem_iff_getElem?.mp hr
   rw [Yec hg.nodup hj]; exact (Zb.mp hj).1
 · rw [hG r hr]
   intro h
   rw [Ye8,← Ymx]
   exact Yio.mpr ⟨r,hr,h,rfl⟩
end
section
mutual
theorem Pt.wt_le:∀ (n:Nat) (p:Pt),p.deep≤n→p.wt≤2 ^ n*p.size
 | n,.sign z1,z2=>by rw [Pt.wt6]; exact Zkb _
 | n,.span z1 z2,z3=>by rw [Pt.wt7]; exact Zkb _
 | n,.any,z1=>by rw [Pt.wt8]; exact Zkb _
 | n,.rule z1,z2=>by rw [Pt.wt1,Pt.size8,Nat.mul_one]; exact Nat.one_le_two_pow
 | 0,.row ps,h=>by rw [Pt.deep1] at h; cases h
 | 0,.alt ps,h=>by rw [Pt.deep2] at h; cases h
 | 0,.many p,h=>by rw [Pt.deep3] at h; cases h
 | 0,.nt p,h=>by rw [Pt.deep4] at h; cases h
 | n+1,.row ps,h=>by rw [Pt.deep1] at h; rw [Pt.wt2,Pt.size1]; exact Za (Pt.wts_le n ps (Zcc h)) (Nat.mul_le_mul (Nat.pow_le_pow_right (by decide) (Nat.le_succ n)) (Nat.le_succ _))
 | n+1,.alt ps,h=>by rw [Pt.deep2] at h; rw [Pt.wt3,Pt.size2]; exact Za (Pt.wts_le n ps (Zcc h)) (Nat.mul_le_mul (Nat.pow_le_pow_right (by decide) (Nat.le_succ n)) (Nat.le_succ _))
 | n+1,.nt p,h=>by rw [Pt.deep4] at h; rw [Pt.wt5,Pt.size4]; exact Za (Pt.wt_le n p (Zcc h)) (Nat.mul_le_mul (Nat.pow_le_pow_right (by decide) (Nat.le_succ n)) (Nat.le_succ _))
 | n+1,.many p,h=>by
   rw [Pt.deep3] at h
   rw [Pt.wt4,Pt.size3,Nat.pow_succ,Nat.mul_comm (2 ^ n) 2,Nat.mul_assoc]
   exact Znb 2 (Za (Pt.wt_le n p (Zcc h)) (Znb _ (Nat.le_succ _)))
theorem Pt.wts_le:∀ (n:Nat) (ps:List Pt),Pt.deeps ps≤n→Pt.wts ps≤2 ^ n*Pt.sizes ps
 | z1,[],z2=>by rw [Pt.wts1]; exact Zkb _
 | n,p::r,h=>by
   rw [Pt.deeps2] at h
   rw [Pt.wts2,Pt.sizes2,Nat.mul_add]
   exact Zcb (Pt.wt_le n p (Za (Nat.le_max_left ..) h)) (Pt.wts_le n r (Za (Nat.le_max_right ..) h))
end
theorem Yt7 {x:Pt}(h:x.sure):x.wt=0:=h.rec (fun zz=>rfl) (fun zz zz zz=>rfl) rfl
theorem Yku {P R:Str→Prop}{x h t:Pt}(hx:x.sure) (hh:Ya0 P 7 78 h) (ht:Ya0 R 7 78 t) (k:Nat):(Ygm x h t k).wt≤20000 :=
 have h1:h.wt≤10000:=Za (Pt.wt_le 7 h hh.2.1) (Za (Znb _ hh.2.2) (by decide))
 have h2:t.wt≤10000:=Za (Pt.wt_le 7 t ht.2.1) (Za (Znb _ ht.2.2) (by decide))
 have e:(Pt.row [x,h]).wt≤10000:=(show x.wt+(h.wt+0)≤10000 by rw [Yt7 hx,Nat.zero_add]; exact h1)
 have al:∀ {p q:Pt},p.wt≤10000→q.wt≤10000→(Pt.alt [p,q]).wt≤20000:=fun h g=>Zcb h g
 AllP.get (C:=fun p=>p.wt≤20000) (.cons (al e h2)<|.cons (al h2 e)<|.cons (Za e (by decide)) .nil) (Za h2 (by decide)) k
theorem Ysn (p:Pt):(Ymw p).wt=p.wt:=rfl
end
section
noncomputable abbrev Rs:=Option (Nat×List Kid)
noncomputable def Ygl (txt:List Nat) (p:Pt) (i:Nat):Rs:=match txt[i]? with
 | some c=>if p.takesC c then some (i+1,[]) else none
 | none=>none
noncomputable def anO (a:An Kid):Rs:=a.1.map fun e=>(e,a.2)
noncomputable def onO (ks:List Kid) (o:Rs):Rs:=o.map fun r=>(r.1,ks++r.2)
theorem Yj3 (o:Rs):onO [] o=o:=by cases o <;> rfl
theorem Ylc (ks us:List Kid) (o:Rs):onO ks (onO us o)=onO (ks++us) o:=by
 cases o with
 | none=>rfl
 | some r=>exact congrArg (fun x=>some (r.1,x)) (Ze ks us r.2).symm
class inductive Rv (txt:List Nat) (K:Kid→Option (An Kid)):Pt→Nat→Rs→List Kid→Prop where
 | leaf {p:Pt}{i:Nat}(h:p.isLf=true):Rv txt K p i (Ygl txt p i) []
 | rule {n:Str}{i:Nat}{a:An Kid}(h:K (n,i)=some a):Rv txt K (.rule n) i (anO (Ye1 (n,i) a)) [(n,i)]
 | rowE {i:Nat}:Rv txt K (.row []) i (some (i,[])) []
 | rowN {p:Pt}{ps:List Pt}{i:Nat}{as:List Kid}(h:Rv txt K p i none as):Rv txt K (.row (p::ps)) i none as
 | rowC {p:Pt}{ps:List Pt}{i h:Nat}{ks:List Kid}{o:Rs}{as as':List Kid}(h1:Rv txt K p i (some (h,ks)) as) (h2:Rv txt K (.row ps) h o as'):Rv txt K (.row (p::ps)) i (onO ks o) (as++as')
 | altE {i:Nat}:Rv txt K (.alt []) i none []
 | altY {p:Pt}{ps:List Pt}{i:Nat}{r:Nat×List Kid}{as:List Kid}(h:Rv txt K p i (some r) as):Rv txt K (.alt (p::ps)) i (some r) as
 | altN {p:Pt}{ps:List Pt}{i:Nat}{o:Rs}{as as':List Kid}(h1:Rv txt K p i none as) (h2:Rv txt K (.alt ps) i o as'):Rv txt K (.alt (p::ps)) i o (as++as')
 | manyN {p:Pt}{i:Nat}{as:List Kid}(h:Rv txt K p i none as):Rv txt K (.many p) i (some (i,[])) as
 | manyE {p:Pt}{i:Nat}{ks as:List Kid}(h:Rv txt K p i (some (i,ks)) as):Rv txt K (.many p) i (some (i,[])) as
 | manyC {p:Pt}{i h:Nat}{ks:List Kid}{o:Rs}{as as':List Kid}(h1:Rv txt K p i (some (h,ks)) as) (hne:h≠i) (h2:Rv txt K (.many p) h o as'):Rv txt K (.many p) i (onO ks o) (as++as')
 | ntY {p:Pt}{i:Nat}{as:List Kid}(h:Rv txt K p i none as):Rv txt K (.nt p) i (some (i,[])) as
 | ntN {p:Pt}{i:Nat}{r:Nat×List Kid}{as:List Kid}(h:Rv txt K p i (some r) as):Rv txt K (.nt p) i none as
noncomputable def RvI (txt:List Nat) (K:Kid→Option (An Kid)) (p:Pt) (i:Nat) (o:Rs) (as:List Kid):Prop:=match p with
 | .row []=>o=some (i,[])∧as=[]
 | .row (p::ps)=>(o=none∧Rv txt K p i none as)∨∃ h ks o' as1 as2,Rv txt K p i (some (h,ks)) as1∧Rv txt K (.row ps) h o' as2∧o=onO ks o'∧as=as1++as2
 | .alt []=>o=none∧as=[]
 | .alt (p::ps)=>(∃ r,o=some r∧Rv txt K p i (some r) as)∨∃ as1 as2,Rv txt K p i none as1∧Rv txt K (.alt ps) i o as2∧as=as1++as2
 | .many p=>(o=some (i,[])∧(Rv txt K p i none as∨∃ ks,Rv txt K p i (some (i,ks)) as))∨∃ h ks o' as1 as2,Rv txt K p i (some (h,ks)) as1∧h≠i∧Rv txt K (.many p) h o' as2∧o=onO ks o'∧as=as1++as2
 | .nt p=>(o=some (i,[])∧Rv txt K p i none as)∨∃ r,o=none∧Rv txt K p i (some r) as
 | .rule n=>∃ a,K (n,i)=some a∧o=anO (Ye1 (n,i) a)∧as=[(n,i)]
 | p=>o=Ygl txt p i∧as=[]
theorem Rv.inv {txt:List Nat}{K:Kid→Option (An Kid)}{p:Pt}{i:Nat}{o:Rs}{as:List Kid}(h:Rv txt K p i o as):RvI txt K p i o as :=
 h.rec (fun {p i} h=>by cases p <;> first | exact ⟨rfl,rfl⟩ | exact (Zv h).elim) (fun h=>⟨_,h,rfl,rfl⟩) ⟨rfl,rfl⟩ (fun h z1=>.inl ⟨rfl,h⟩) (fun h1 h2 z1 z2=>.inr ⟨_,_,_,_,_,h1,h2,rfl,rfl⟩) ⟨rfl,rfl⟩ (fun h z1=>.inl ⟨_,rfl,h⟩) (fun h1 h2 z1 z2=>.inr ⟨_,_,h1,h2,rfl⟩) (fun h z1=>.inl ⟨rfl,.inl h⟩) (fun h z1=>.inl ⟨rfl,.inr ⟨_,h⟩⟩) (fun h1 hne h2 z1 z2=>.inr ⟨_,_,_,_,_,h1,hne,h2,rfl,rfl⟩) (fun h z1=>.inl ⟨rfl,h⟩) (fun h z1=>.inr ⟨_,rfl,h⟩)
theorem Ycs {txt:List Nat}{p:Pt}{i:Nat}{r:Nat×List Kid}(h:Ygl txt p i=some r):r=(i+1,[])∧i < txt.length:=by
 unfold Ygl at h
 cases hc:txt[i]? with
 | none=>rw [hc] at h; exact (Yaf h).elim
 | some c =>
   rw [hc] at h
   refine ⟨?_,(Zb.mp hc).1⟩
   by_cases ht:p.takesC c=true
   · exact (Yad ((if_pos ht).symm.trans h)).symm
   · exact (Yaf ((if_neg ht).symm.trans h)).elim
theorem Yce {ks:List Kid}{o:Rs}{r:Nat×List Kid}(h:onO ks o=some r):∃ us,o=some (r.1,us)∧r.2=ks++us:=by
 cases o with
 | none=>exact (Yaf h).elim
 | some x=>have:=Yad h; subst this; exact ⟨x.2,rfl,rfl⟩
section
variable {txt:List Nat}{K:Kid→Option (An Kid)}{p:Pt}{i:Nat}{o:Rs}{as:List Kid}
theorem Rv.lfa (r:Rv txt K p i o as) (hp:p.isLf=true):o=Ygl txt p i∧as=[]:=by
 have h:=r.inv
 cases p <;> first | exact h | exact (Zv hp).elim
theorem Rv.row1a (r:Rv txt K (.row [p]) i o as):Rv txt K p i o as:=by
 rcases r.inv with ⟨e,h⟩ | ⟨h,ks,o',as1,as2,h1,h2,e1,e2⟩
 · rw [e]; exact h
 · rw [e1,e2,h2.inv.2,h2.inv.1,Zlc]
   show Rv txt K p i (some (h,ks++[])) as1
   rw [Zlc]; exact h1
theorem Rv.alt1a (r:Rv txt K (.alt [p]) i o as):Rv txt K p i o as:=by
 rcases r.inv with ⟨x,e,h⟩ | ⟨as1,as2,h1,h2,e⟩
 · rw [e]; exact h
 · rw [e,h2.inv.1,h2.inv.2,Zlc]; exact h1
theorem Rv.rowU {P:Prop}{ps:List Pt}(r:Rv txt K (.row (p::ps)) i o as) (c0:o=none→Rv txt K p i none as→P) (c:∀ h ks o' as1 as2,Rv txt K p i (some (h,ks)) as1→Rv txt K (.row ps) h o' as2→o=onO ks o'→as=as1++as2→P):P :=
 r.inv.elim (fun g=>c0 g.1 g.2) fun g=>ex5 g fun h ks o' as1 as2 g=>c h ks o' as1 as2 g.1 g.2.1 g.2.2.1 g.2.2.2
theorem Rv.altU {P:Prop}{ps:List Pt}(r:Rv txt K (.alt (p::ps)) i o as) (c0:∀ x,o=some x→Rv txt K p i (some x) as→P) (c:∀ as1 as2,Rv txt K p i none as1→Rv txt K (.alt ps) i o as2→as=as1++as2→P):P :=
 r.inv.elim (fun g=>g.elim fun x g=>c0 x g.1 g.2) fun g=>ex2 g fun as1 as2 g=>c as1 as2 g.1 g.2.1 g.2.2
theorem Rv.manyU {P:Prop}(r:Rv txt K (.many p) i o as) (c0:o=some (i,[])→Rv txt K p i none as→P) (c1:o=some (i,[])→∀ ks,Rv txt K p i (some (i,ks)) as→P) (c:∀ h ks o' as1 as2,Rv txt K p i (some (h,ks)) as1→h≠i→Rv txt K (.many p) h o' as2→o=onO ks o'→as=as1++as2→P):P :=
 r.inv.elim (fun g=>g.2.elim (c0 g.1) fun h=>h.elim fun ks h=>c1 g.1 ks h) fun g=>ex5 g fun h ks o' as1 as2 g=>c h ks o' as1 as2 g.1 g.2.1 g.2.2.1 g.2.2.2.1 g.2.2.2.2
theorem Rv.ntU {P:Prop}(r:Rv txt K (.nt p) i o as) (c0:o=some (i,[])→Rv txt K p i none as→P) (c:∀ x,o=none→Rv txt K p i (some x) as→P):P :=
 r.inv.elim (fun g=>c0 g.1 g.2) fun g=>g.elim fun x g=>c x g.1 g.2
theorem Rv.manyI {C:Nat→Rs→List Kid→Prop}(n0:∀ i as,Rv txt K p i none as→C i (some (i,[])) as) (e0:∀ i ks as,Rv txt K p i (some (i,ks)) as→C i (some (i,[])) as) (c:∀ i h ks o as as',Rv txt K p i (some (h,ks)) as→h≠i→Rv txt K (.many p) h o as'→C h o as'→C i (onO ks o) (as++as')) (r:Rv txt K (.many p) i o as):C i o as:=by
 generalize hq:Pt.many p=q at r
 induction r with
 | leaf h=>subst hq; cases h
 | manyN h=>cases hq; exact n0 _ _ h
 | manyE h=>cases hq; exact e0 _ _ _ h
 | manyC h1 hne h2 ih1 ih2=>cases hq; exact c _ _ _ _ _ _ h1 hne h2 (ih2 rfl)
 | _=>cases hq
end
section
variable {txt:List Nat}{K:Kid→Option (An Kid)}
noncomputable def Ct (txt:List Nat) (K:Kid→Option (An Kid)) (f:Fr Kid) (as0:List Kid):Prop:=match f.piece with
 | .row ps=>∀ o as,Rv txt K (.row (ps.drop f.turn)) f.here o as→Rv txt K (.row ps) f.place (onO f.kids o) (as0++as)
 | .alt ps=>∀ o as,Rv txt K (.alt (ps.drop f.turn)) f.place o as→Rv txt K (.alt ps) f.place o (as0++as)
 | .many q=>∀ o as,Rv txt K (.many q) f.here o as→Rv txt K (.many q) f.place (onO f.kids o) (as0++as)
 | z1=>as0=[]
noncomputable def WtR (txt:List Nat) (K:Kid→Option (An Kid)) (f:Fr Kid) (x:An Kid) (as:List Kid):Prop:=match f.piece with
 | .row ps=>∃ q,ps[f.turn]?=some q∧Rv txt K q f.here (anO x) as
 | .alt ps=>∃ q,ps[f.turn]?=some q∧Rv txt K q f.place (anO x) as
 | .many q=>Rv txt K q f.here (anO x) as
 | .nt q=>Rv txt K q f.place (anO x) as
 | z1=>as=[]
noncomputable def Yn4 (txt:List Nat) (K:Kid→Option (An Kid)) (p:Pt) (i:Nat) (as:List Kid):Out Mm Kid→Prop
 | .pop a z1=>Rv txt K p i (anO a) as
 | .push f q j z1=>Ct txt K f as∧∀ x as',Rv txt K q j (anO x) as'→WtR txt K f x as'
 | .stop=>True
theorem Ye6 {α:Type}{l:List α}{t:Nat}{x:α}(h:l[t]?=some x):l.drop t=x::l.drop (t+1):=by
 obtain ⟨h1,h2⟩:=Zb.mp h
 rw [List.drop_eq_getElem_cons h1,h2]
theorem Ytz {ps:List Pt}{i t h:Nat}{ks as:List Kid}{b:Mm}(c:∀ o as',Rv txt K (.row (ps.drop t)) h o as'→Rv txt K (.row ps) i (onO ks o) (as++as')):Yn4 txt K (.row ps) i as (Ybp ps (⟨.row ps,i,t,h,ks⟩:Fr Kid) b):=by
 unfold Ybp
 cases hq:ps[t]? with
 | some q=>exact ⟨c,fun x as' hx=>⟨q,hq,hx⟩⟩
 | none =>
   have:=c (some (h,[])) [] (by rw [List.drop_eq_nil_of_le (List.getElem?_eq_none_iff.mp hq)]; exact .rowE)
   rw [Zlc] at this
   show Rv txt K (.row ps) i (some (h,ks)) as
   rw [← Zlc ks]; exact this
theorem Ytn {ps:List Pt}{i t h:Nat}{ks as:List Kid}{b:Mm}(c:∀ o as',Rv txt K (.alt (ps.drop t)) i o as'→Rv txt K (.alt ps) i o (as++as')):Yn4 txt K (.alt ps) i as (Ybq ps (⟨.alt ps,i,t,h,ks⟩:Fr Kid) b):=by
 unfold Ybq
 cases hq:ps[t]? with
 | some q=>exact ⟨c,fun x as' hx=>⟨q,hq,hx⟩⟩
 | none =>
   have:=c none [] (by rw [List.drop_eq_nil_of_le (List.getElem?_eq_none_iff.mp hq)]; exact .altE)
   rw [Zlc] at this; exact this
theorem Yuc {p:Pt}{f:Fr Kid}{b:Mm}(hp:p.isLf=true):Yn4 txt K p f.place [] (Ybg txt Yaw p f b):=by
 have h:=Rv.leaf (txt:=txt) (K:=K) (i:=f.place) hp
 unfold Ygl at h
 show Yn4 txt K p f.place [] (match txt[f.place]? with | some c=>if p.takesC c then .pop (some (f.place+1),[]) b else .pop (none,[]) b | none=>.pop (none,[]) b)
 cases hc:txt[f.place]? with
 | none=>rw [hc] at h; exact h
 | some c =>
   rw [hc] at h
   cases ht:p.takesC c with
   | true=>simp only [ht,if_true] at h ⊢; exact h
   | false=>simp only [ht] at h ⊢; exact h
section
variable {G:Str→Pt}{b:Mm}{i t h:Nat}{ks as0 as2:List Kid}{ps:List Pt}{q:Pt}
theorem Yxp (c:Ct txt K ⟨.row ps,i,t,h,ks⟩ as0):∀ (a:Option (An Kid)) (w0:a=none→as2=[]) (w1:∀ x,a=some x→WtR txt K ⟨.row ps,i,t,h,ks⟩ x as2),Yn4 txt K (.row ps) i (as0++as2) (Yah G txt Yaw ⟨.row ps,i,t,h,ks⟩ a b):=by
 refine an3 (fun w0 w1=>?_) (fun us w0 w1=>(w1 _ rfl).elim fun q hh=>?_) fun e us w0 w1=>(w1 _ rfl).elim fun q hh=>Ytz fun o as' ho=>?_
 · rw [w0 rfl,Zlc]; exact Ytz c
 · have:=c none as2 (Ye6 hh.1▸.rowN hh.2)
   exact this
 · have:=c (onO us o) (as2++as') (Ye6 hh.1▸.rowC hh.2 ho)
   rw [Ylc] at this
   rw [Ze]; exact this
theorem Yxy (c:Ct txt K ⟨.alt ps,i,t,h,ks⟩ as0):∀ (a:Option (An Kid)) (w0:a=none→as2=[]) (w1:∀ x,a=some x→WtR txt K ⟨.alt ps,i,t,h,ks⟩ x as2),Yn4 txt K (.alt ps) i (as0++as2) (Yah G txt Yaw ⟨.alt ps,i,t,h,ks⟩ a b):=by
 refine an3 (fun w0 w1=>?_) (fun us w0 w1=>(w1 _ rfl).elim fun q hh=>Ytn fun o as' ho=>?_) fun e us w0 w1=>(w1 _ rfl).elim fun q hh=>?_
 · rw [w0 rfl,Zlc]; exact Ytn c
 · have:=c o (as2++as') (Ye6 hh.1▸.altN hh.2 ho)
   rw [Ze]; exact this
 · exact c (some (e,us)) as2 (Ye6 hh.1▸.altY hh.2)
theorem Yuu (c:Ct txt K ⟨.many q,i,t,h,ks⟩ as0):∀ (a:Option (An Kid)) (w0:a=none→as2=[]) (w1:∀ x,a=some x→WtR txt K ⟨.many q,i,t,h,ks⟩ x as2),Yn4 txt K (.many q) i (as0++as2) (Yah G txt Yaw ⟨.many q,i,t,h,ks⟩ a b):=by
 have fin:Rv txt K (.many q) h (some (h,[])) as2→Rv txt K (.many q) i (anO (some h,ks)) (as0++as2):=fun hr=>by
   have:=c _ _ hr
   rw [show onO ks (some (h,[]))=anO (some h,ks) from congrArg (fun x=>some (h,x)) (Zlc ks)] at this; exact this
 refine an3 (fun w0 w1=>?_) (fun us w0 w1=>fin (.manyN (w1 _ rfl))) fun e us w0 w1=>?_
 · rw [w0 rfl,Zlc]; exact ⟨c,fun x as' hx=>hx⟩
 · show Yn4 txt K _ _ _ (if e=h then _ else _)
   have hr:Rv txt K q h (some (e,us)) as2:=w1 _ rfl
   by_cases he:e=h
   · rw [if_pos he]; rw [he] at hr; exact fin (.manyE hr)
   · rw [if_neg he]
     refine ⟨fun o as' ho=>?_,fun x as' hx=>hx⟩
     have:=c _ _ (.manyC hr he ho)
     rw [Ylc] at this
     rw [Ze]; exact this
theorem Y0t (c:as0=[]):∀ (a:Option (An Kid)) (w0:a=none→as2=[]) (w1:∀ x,a=some x→WtR txt K ⟨.nt q,i,t,h,ks⟩ x as2),Yn4 txt K (.nt q) i (as0++as2) (Yah G txt Yaw ⟨.nt q,i,t,h,ks⟩ a b):=by
 rw [c]
 refine an3 (fun w0 w1=>?_) (fun us w0 w1=>.ntY (w1 _ rfl)) fun e us w0 w1=>.ntN (w1 _ rfl)
 rw [w0 rfl]; exact ⟨rfl,fun x as' hx=>hx⟩
theorem Yj7 {p:Pt}{a:Option (An Kid)}(hp:p.isLf=true) (c:as0=[]) (w0:a=none→as2=[]) (w1:∀ x,a=some x→as2=[]):Yn4 txt K p i (as0++as2) (Ybg txt Yaw p ⟨p,i,t,h,ks⟩ b):=by
 have e:as2=[]:=a.rec (fun w0 zz=>w0 rfl) (fun x zz w1=>w1 x rfl) w0 w1
 rw [c,e]; exact Yuc hp
end
theorem Yo8 {G:Str→Pt}{b:Mm}{f:Fr Kid}{a:Option (An Kid)}{as0 as2:List Kid}(hn:f.nr) (c:Ct txt K f as0) (w0:a=none→as2=[]) (w1:∀ x,a=some x→WtR txt K f x as2):Yn4 txt K f.piece f.place (as0++as2) (Yah G txt Yaw f a b):=by
 obtain ⟨p,i,t,h,ks⟩:=f
 cases p with
 | rule n=>exact absurd rfl (hn n)
 | sign z1=>exact Yj7 rfl c w0 w1
 | span z1 z2=>exact Yj7 rfl c w0 w1
 | any=>exact Yj7 rfl c w0 w1
 | row ps=>exact Yxp c _ w0 w1
 | alt ps=>exact Yxy c _ w0 w1
 | many q=>exact Yuu c _ w0 w1
 | nt q=>exact Y0t c _ w0 w1
theorem Ct.new (p:Pt) (i:Nat):Ct txt K (.new p i) []:=by
 cases p <;> first | rfl | exact fun o as h=>(Yj3 o).symm▸h | exact fun o as h=>h
theorem Ev.rv {G:Str→Pt}{f:Fr Kid}{a:Option (An Kid)}{o:An Kid}{as:List Kid}(h:Ev G txt K f a o as):∀ as0 as2,Ct txt K f as0→(a=none→as2=[])→(∀ x,a=some x→WtR txt K f x as2)→Rv txt K f.piece f.place (anO o) (as0++as2++as):=by
 induction h with
 | @ask f n a h1 h2 =>
   intro as0 as2 c w0 w1
   have c0:as0=[]:=by unfold Ct at c; rw [h1] at c; exact c
   rw [c0,w0 rfl,h1]; exact .rule h2
 | @pop f a a' b b' hn hs =>
   intro as0 as2 c w0 w1
   have:=Yo8 (G:=G) (b:=b) hn c w0 w1
   rw [hs] at this
   rw [Zlc]; exact this
 | @push f f' a a' o p i b b' as as' hn hs z1 z2 ih1 ih2 =>
   intro as0 as2 c w0 w1
   have:=Yo8 (G:=G) (b:=b) hn c w0 w1
   rw [hs] at this
   obtain ⟨zz,s1,s2⟩:=Yhm hn hs
   have k1:=ih1 [] [] (.new p i) (fun zz=>rfl) (by intros; contradiction)
   have k:=ih2 (as0++as2) as this.1 (by intros; contradiction) (fun x e=>by cases e; exact this.2 _ _ k1)
   rw [s1,s2,Ze (as0++as2)] at k; exact k
theorem MI.rv {G:Str→Pt}{b:Mm}(hi:MI G txt [] b) {k:Kid}{a:An Kid}(h:Yap b.kept k=some a):∃ as,Rv txt (Yap b.kept) (G k.1) k.2 (anO a) as∧Ak G txt b k as:=by
 obtain ⟨as,a',h1,h2⟩:=(hi.done k (hi.kin k _ h)).resolve_left nofun
 rw [h] at h1; cases h1
 exact ⟨as,h2.rv [] [] (.new _ _) (fun zz=>rfl) (by intros; contradiction),_,h,h2⟩
end
end
section
noncomputable def Yez (ns:List Str) (f:Nat) (n:Str):Prop:=∃ j,f≤j∧ns[j]?=some n
class inductive Pile (P:Str→Prop):Nat→Pt→Prop where
 | leaf {p:Pt}(h:Ya0 P 1 1 p):Pile P 0 p
 | join {n:Nat}{p a b:Pt}(h:Pile P n p) (ha:Ya0 P 1 1 a) (hb:Ya0 P 1 1 b) (k:Nat):Pile P (n+1) (Yd9 p a b k)
theorem Pile.p0 {P:Str→Prop}{p:Pt}(h:Pile P 0 p):Ya0 P 1 1 p:=by cases h; assumption
theorem Pile.p1 {P:Str→Prop}{p:Pt}(h:Pile P 1 p):Ya0 P 3 12 p:=by
 cases h with | join h ha hb k=>exact Ya0.joined (by decide) h.p0 ha hb k
theorem Pile.p2 {P:Str→Prop}{p:Pt}(h:Pile P 2 p):Ya0 P 5 34 p:=by
 cases h with | join h ha hb k=>exact Ya0.joined (by decide) h.p1 ha hb k
theorem Pile.p3 {P:Str→Prop}{p:Pt}(h:Pile P 3 p):Ya0 P 7 78 p:=by
 cases h with | join h ha hb k=>exact Ya0.joined (by decide) h.p2 ha hb k
noncomputable def stp (n:Nat):Nat:=1+(if n / 6 < 1 then n / 6 else 1)*(n / 4)
inductive Drawn (ns:List Str) (k:Nat):Pt→Prop where
 | mk {x h t:Pt}(hx:x.sure) (hh:Pile (Yez ns 0) 3 h) (ht:Pile (Yez ns (k+stp ns.length)) 3 t) (j:Nat):Drawn ns k (Ygm x h t j)
 | wr {x h t:Pt}(hx:x.sure) (hh:Pile (Yez ns 0) 3 h) (ht:Pile (Yez ns (k+stp ns.length)) 3 t) (j:Nat):Drawn ns k (Ymw (Ygm x h t j))
theorem Yez.le {ns:List Str}{a b:Nat}(h:a≤b) (y:Str) (hy:Yez ns b y):Yez ns a y:=by
 obtain ⟨j,g1,g2⟩:=hy; exact ⟨j,Za h g1,g2⟩
theorem Drawn.piece {ns:List Str}{k:Nat}{p:Pt}(h:Drawn ns k p):Ya0 (Yez ns 0) 12 164 p∧p.wt≤20000∧∀ B,∀ y∈p.ahd B,Yez ns (k+1) y:=by
 have hl:k+1≤k+stp ns.length:=Zzb (Zy 1 _) k
 cases h with
 | mk hx hh ht j =>
   obtain ⟨P1,P2⟩:=Ya0.rule hx hh.p3 ht.p3 (Yez.le (Zkb _)) j
   exact ⟨P1.mono (by decide) (by decide),Yku hx hh.p3 ht.p3 j,fun B y hy=>Yez.le hl y (P2 B y hy)⟩
 | wr hx hh ht j =>
   obtain ⟨P1,P2⟩:=Ya0.rule hx hh.p3 ht.p3 (Yez.le (Zkb _)) j
   obtain ⟨W1,W2⟩:=P1.wrap (R:=Yez ns (k+1)) fun B y hy=>Yez.le hl y (P2 B y hy)
   exact ⟨W1.mono (by decide) (by decide),Ysn _▸Yku hx hh.p3 ht.p3 j,W2⟩
theorem Ya0.leaf {P:Str→Prop}{p:Pt}{C:Pt→Prop}(h:Ya0 P 1 1 p) (cr:∀ n,C (.rule n)) (cl:∀ q:Pt,q.isLf=true→C q) (c0:C (.row [])) (c1:C (.alt [])):C p:=by
 have no:∀ {q:Pt}{n:Nat},¬ q.size+n≤0:=fun {q n} g=>Zo.mpr (Za (Zy ..) g) (Pt.size_pos q)
 have h3:=h.2.2
 cases p with
 | rule n=>exact cr n
 | sign c=>exact cl _ rfl
 | span c d=>exact cl _ rfl
 | any=>exact cl _ rfl
 | row ps =>
   cases ps with
   | nil=>exact c0
   | cons q r=>rw [Pt.size1,Pt.sizes2] at h3; exact absurd (Zcc h3) no
 | alt ps =>
   cases ps with
   | nil=>exact c1
   | cons q r=>rw [Pt.size2,Pt.sizes2] at h3; exact absurd (Zcc h3) no
 | many q=>rw [Pt.size3] at h3; exact absurd (Zcc h3) (no (n:=0))
 | nt q=>rw [Pt.size4] at h3; exact absurd (Zcc h3) (no (n:=0))
end
section
noncomputable def Yfl (K:Kid→Option (An Kid)) (k:Kid):Nat:=match K k with
 | some (some e,z1)=>e - k.2
 | z1=>0
noncomputable def mE (K:Kid→Option (An Kid)):List Kid→Nat
 | []=>0
 | k::r=>(if Yfl K k=0 then 1 else 0)+mE K r
noncomputable def sS (K:Kid→Option (An Kid)):List Kid→Nat
 | []=>0
 | k::r=>(Yfl K k - 1)+sS K r
noncomputable def rN (K:Kid→Option (An Kid)):List Kid→Nat
 | []=>0
 | k::r=>(if Yfl K k=0 then 0 else 1)+rN K r
noncomputable def KWf (K:Kid→Option (An Kid)):Prop:=∀ k e us,K k=some (some e,us)→k.2≤e
section
variable {txt:List Nat}{K:Kid→Option (An Kid)}{a a' b b' i h e:Nat}{ks us as:List Kid}{p:Pt}{ps:List Pt}
theorem Yyk (ks us:List Kid):mE K (ks++us)=mE K ks+mE K us:=by
 induction ks with
 | nil=>exact (Nat.zero_add _).symm
 | cons k r ih=>show _+mE K (r++us)=_+mE K r+_; rw [ih,Nat.add_assoc]
theorem Yty (ks us:List Kid):sS K (ks++us)=sS K ks+sS K us:=by
 induction ks with
 | nil=>exact (Nat.zero_add _).symm
 | cons k r ih=>show _+sS K (r++us)=_+sS K r+_; rw [ih,Nat.add_assoc]
theorem Yw7 (ks us:List Kid):rN K (ks++us)=rN K ks+rN K us:=by
 induction ks with
 | nil=>exact (Nat.zero_add _).symm
 | cons k r ih=>show _+rN K (r++us)=_+rN K r+_; rw [ih,Nat.add_assoc]
theorem Yxo (ks:List Kid) (h:rN K ks=0):sS K ks=0:=by
 induction ks with
 | nil=>rfl
 | cons k r ih =>
   have h:(if Yfl K k=0 then 0 else 1)+rN K r=0:=h
   show (Yfl K k - 1)+sS K r=0
   by_cases g:Yfl K k=0
   · rw [if_pos g] at h; rw [g,ih ((Nat.zero_add _).symm.trans h)]
   · rw [if_neg g,Nat.add_comm] at h; exact absurd h (Nat.succ_ne_zero _)
structure MxR (K:Kid→Option (An Kid)) (a b i e:Nat) (ks:List Kid):Prop where
 le:i≤e
 rs:sS K ks+rN K ks≤e - i
 me:mE K ks+b*sS K ks≤a+b*(e - i)
theorem MxR.nil (h:i≤e):MxR K a b i e []:=⟨h,Zkb _,show 0+b*0≤_ by simp⟩
theorem MxR.app (x:MxR K a b i h ks) (y:MxR K a' b h e us):MxR K (a+a') b i e (ks++us):=by
 obtain ⟨x1,x2,x3⟩:=x
 obtain ⟨y1,y2,y3⟩:=y
 refine ⟨Za x1 y1,?_,?_⟩
 · rw [Yty,Yw7,Zwc]; exact Za (Zcb x2 y2) (Zr (Yhu x1 y1).symm)
 · rw [Yyk,Yty,Nat.mul_add,Yhu x1 y1,Nat.mul_add,Zwc,Zwc a]; exact Zcb x3 y3
theorem MxR.mono (x:MxR K a b i e ks) (ha:a≤a') (hb:b≤b'):MxR K a' b' i e ks:=by
 obtain ⟨x1,x2,x3⟩:=x
 obtain ⟨c,rfl⟩:=Nat.exists_eq_add_of_le hb
 refine ⟨x1,x2,?_⟩
 rw [Nat.add_mul,Nat.add_mul,← Nat.add_assoc,← Nat.add_assoc]
 exact Zcb (Za x3 (Zac ha _)) (Znb c (Za (Zy ..) x2))
theorem MxR.on (x:MxR K a b i e ks) (hne:e≠i):MxR K 0 (a+b) i e ks:=by
 obtain ⟨x1,x2,x3⟩:=x
 refine ⟨x1,x2,?_⟩
 have h1:sS K ks+1≤e - i:=by
   by_cases g:rN K ks=0
   · rw [Yxo ks g]; exact Nat.sub_pos_of_lt (Nat.lt_of_le_of_ne x1 (Ne.symm hne))
   · exact Za (Zzb (Nat.pos_of_ne_zero g) _) x2
 have h2:a*(sS K ks+1)≤a*(e - i):=Znb a h1
 rw [Nat.mul_add,Nat.mul_one] at h2
 rw [Nat.add_mul,Nat.add_mul,Nat.zero_add,Nat.add_left_comm]
 exact Za (Zzb x3 _) (by rw [← Nat.add_assoc]; exact Zac h2 _)
noncomputable def Mb (a b:Nat) (p:Pt):Prop:=∀ txt K,KWf K→∀ i e ks as,Rv txt K p i (some (e,ks)) as→MxR K a b i e ks
theorem Mb.mono (h:Mb a b p) (ha:a≤a') (hb:b≤b'):Mb a' b' p:=fun txt K w i e ks as r=>(h txt K w i e ks as r).mono ha hb
theorem Mb.lf (hp:p.isLf=true):Mb a b p:=fun txt K w i e ks as r=>by
 have h:=Prod.mk.inj (Ycs (r.lfa hp).1.symm).1
 rw [h.1,h.2]; exact .nil (Nat.le_succ _)
theorem Mb.rule {n:Str}:Mb 1 0 (.rule n):=fun txt K w i e ks as r=>by
 obtain ⟨⟨x,us⟩,hk,ho,zz⟩:=r.inv
 cases x with
 | none=>cases ho
 | some e1 =>
   cases ho
   have hl:=w _ _ _ hk
   have e2:Yfl K (n,i)=e - i:=by unfold Yfl; rw [hk]
   refine ⟨hl,?_,?_⟩
   · show (Yfl K (n,i) - 1+0)+((if Yfl K (n,i)=0 then 0 else 1)+0)≤e - i
     rw [e2,Nat.add_zero,Nat.add_zero]
     by_cases g:e - i=0
     · rw [if_pos g,g]; exact Zl _
     · rw [if_neg g]; exact Zr (Nat.succ_pred g)
   · show (if Yfl K (n,i)=0 then 1 else 0)+0+0*_≤1+0*_
     rw [Nat.zero_mul,Nat.zero_mul]
     by_cases g:Yfl K (n,i)=0
     · rw [if_pos g]; exact Zl _
     · rw [if_neg g]; exact Zkb _
theorem Mb.row0:Mb a b (.row []):=fun txt K w i e ks as r=>by cases r.inv.1; exact .nil (Zl _)
theorem Rv.rowS (r:Rv txt K (.row (p::ps)) i (some (e,ks)) as):∃ h us vs as1 as2,Rv txt K p i (some (h,us)) as1∧Rv txt K (.row ps) h (some (e,vs)) as2∧ks=us++vs:=by
 refine r.rowU (fun h zz=>?_) fun h us o as1 as2 h1 h2 h3 zz=>?_
 · cases h
 · obtain ⟨vs,e1,e⟩:=Yce h3.symm
   exact ⟨h,us,vs,as1,as2,h1,e1▸h2,e⟩
theorem Mb.rowC (hp:Mb a b p) (hr:Mb a' b (.row ps)):Mb (a+a') b (.row (p::ps)):=fun txt K w i e ks as r=>by
 obtain ⟨h,us,vs,as1,as2,h1,h2,rfl⟩:=r.rowS
 exact (hp txt K w _ _ _ _ h1).app (hr txt K w _ _ _ _ h2)
theorem Mb.alt0:Mb a b (.alt []):=fun txt K w i e ks as r=>by cases r.inv.1
theorem Rv.altS (r:Rv txt K (.alt (p::ps)) i (some (e,ks)) as):(∃ as,Rv txt K p i (some (e,ks)) as)∨∃ as,Rv txt K (.alt ps) i (some (e,ks)) as:=by
 refine r.altU (fun x h h1=>?_) fun as1 as2 h1 h2 zz=>?_
 · exact .inl ⟨_,h▸h1⟩
 · exact .inr ⟨_,h2⟩
theorem Mb.altC (hp:Mb a b p) (hr:Mb a b (.alt ps)):Mb a b (.alt (p::ps)):=fun txt K w i e ks as r=>r.altS.elim (fun h=>h.elim fun zz h=>hp txt K w _ _ _ _ h) fun h=>h.elim fun zz h=>hr txt K w _ _ _ _ h
theorem Mb.nt:Mb a b (.nt p):=fun txt K w i e ks as r=>by
 refine r.ntU (fun h zz=>?_) fun x h zz=>?_
 · cases h; exact .nil (Zl _)
 · cases h
theorem Mb.many (hp:Mb a b p):Mb 0 (a+b) (.many p):=fun txt K w i e ks as r=>by
 refine r.manyI (C:=fun i o as=>∀ x,o=some x→MxR K 0 (a+b) i x.1 x.2) (fun i as h x e=>Yad e▸.nil (Zl _)) (fun i ks as h x e=>Yad e▸.nil (Zl _)) (fun i h ks o as as' h1 hne h2 ih x e=>?_) (e,ks) rfl
 obtain ⟨vs,e1,e2⟩:=Yce e
 rw [e2]
 exact ((hp txt K w _ _ _ _ h1).on hne).app (ih (x.1,vs) e1)
theorem Yd8 {P:Str→Prop}(h:Ya0 P 1 1 p):Mb 1 0 p:=h.leaf (fun n=>.rule) (fun q hq=>.lf hq) .row0 .alt0
theorem Ygf {x y:Pt}(ha:1≤a) (hp:Mb a b p) (hx:Mb 1 0 x) (hy:Mb 1 0 y) (k:Nat):Mb (a+2) (a+b) (Yd9 p x y k):=by
 have le1:b≤a+b:=Ztb ..
 have P0:Mb a (a+b) p:=hp.mono (Zl _) le1
 have X0:Mb 1 (a+b) x:=hx.mono (Zl _) (Zkb _)
 have Y0:Mb 1 (a+b) y:=hy.mono (Zl _) (Zkb _)
 have XM:Mb 0 (a+b) (.many x):=hx.many.mono (Zl _) (by lia)
 have YM:Mb 0 (a+b) (.many y):=hy.many.mono (Zl _) (by lia)
 have PM:Mb 0 (a+b) (.many p):=hp.many
 have Pu:Mb (a+2) (a+b) p:=P0.mono (by lia) (Zl _)
 have Xu:Mb (a+2) (a+b) x:=X0.mono (by lia) (Zl _)
 have Yu:Mb (a+2) (a+b) y:=Y0.mono (by lia) (Zl _)
 have r0:Mb 0 (a+b) (.row []):=.row0
 have any:Mb (a+2) (a+b) .any:=.lf rfl
 have up:∀ {q:Pt}{n:Nat},Mb n (a+b) q→n≤a+2→Mb (a+2) (a+b) q:=fun h hn=>h.mono hn (Zl _)
 exact AllP.get (C:=Mb (a+2) (a+b)) (.cons (up PM (by lia))<|.cons .nt<|.cons (up (P0.rowC (X0.rowC r0)) (by lia))<|.cons (up (X0.rowC (P0.rowC r0)) (by lia))<|.cons (Pu.altC (Xu.altC .alt0))<|.cons (Xu.altC (Pu.altC .alt0))<|.cons (Pu.altC ((up r0 (by lia)).altC .alt0)) <|
   .cons (up (P0.rowC ((Mb.nt (a:=0)).rowC r0)) (by lia))<|.cons (up (X0.rowC (P0.rowC (Y0.rowC r0))) (by lia))<|.cons (Xu.altC ((up (P0.rowC (Y0.rowC r0)) (by lia)).altC (Yu.altC (Pu.altC .alt0))))<|.cons (Yu.altC (Xu.altC (Pu.altC .alt0))) <|
   .cons (up (XM.rowC ((Mb.nt (a:=0)).rowC (YM.rowC (P0.rowC (XM.rowC r0))))) (by lia))<|.cons (Mb.nt.altC (Xu.altC (Yu.altC (Pu.altC (Xu.altC (any.altC .alt0)))))) .nil)
   (up (X0.rowC (YM.rowC (P0.rowC (XM.rowC (Y0.rowC ((Mb.nt (a:=0)).rowC (PM.rowC r0))))))) (by lia)) k
theorem Pile.m0 {P:Str→Prop}(h:Pile P 0 p):Mb 1 0 p:=Yd8 h.p0
theorem Pile.m1 {P:Str→Prop}(h:Pile P 1 p):Mb 3 1 p:=by
 cases h with | join h ha hb k=>exact Ygf (by decide) h.m0 (Yd8 ha) (Yd8 hb) k
theorem Pile.m2 {P:Str→Prop}(h:Pile P 2 p):Mb 5 4 p:=by
 cases h with | join h ha hb k=>exact Ygf (by decide) h.m1 (Yd8 ha) (Yd8 hb) k
theorem Pile.m3 {P:Str→Prop}(h:Pile P 3 p):Mb 7 9 p:=by
 cases h with | join h ha hb k=>exact Ygf (by decide) h.m2 (Yd8 ha) (Yd8 hb) k
theorem Yoo {ps qs:List Pt}{n:Str}(hs:∀ q∈ps,q∈qs) (h:∃ q∈ps,q.Asks n):∃ q∈qs,q.Asks n:=by
 obtain ⟨q,h1,h2⟩:=h; exact ⟨q,hs q h1,h2⟩
noncomputable def Pt.askd (p:Pt) (n:Str):Prop:=match p with
 | .row ps=>∃ q∈ps,q.Asks n
 | .alt ps=>∃ q∈ps,q.Asks n
 | p=>p.Asks n
theorem Pt.askd.out {p:Pt}{n:Str}(h:p.askd n):p.Asks n:=by
 cases p with
 | row ps=>obtain ⟨q,h1,h2⟩:=h; exact .deep (by rw [Pt.kids1]; exact h1) h2
 | alt ps=>obtain ⟨q,h1,h2⟩:=h; exact .deep (by rw [Pt.kids2]; exact h1) h2
 | _=>exact h
theorem Rv.sub {o:Rs}{as:List Kid}(h:Rv txt K p i o as):∀ r,o=some r→∀ k∈r.2,k∈as:=by
 induction h with
 | leaf h=>intro r ho k hk; rw [(Ycs ho).1] at hk; exact absurd hk Zdc
 | @rule n i a h =>
   intro r ho k hk
   obtain ⟨x,us⟩:=a
   cases x with
   | none=>exact (Yaf ho).elim
   | some e1=>rw [← Yad ho] at hk; exact hk
 | rowE=>intro r ho k hk; rw [← Yad ho] at hk; exact absurd hk Zdc
 | rowN=>exact fun r ho=>(Yaf ho).elim
 | rowC h1 h2 ih1 ih2 =>
   intro r ho k hk
   obtain ⟨vs,e1,e2⟩:=Yce ho
   rw [e2] at hk
   exact Zm.mpr ((Zm.mp hk).imp (ih1 _ rfl k) (ih2 _ e1 k))
 | altE=>exact fun r ho=>(Yaf ho).elim
 | altY h ih=>exact ih
 | altN h1 h2 ih1 ih2=>exact fun r ho k hk=>Zyb _ (ih2 r ho k hk)
 | manyN=>intro r ho k hk; rw [← Yad ho] at hk; exact absurd hk Zdc
 | manyE=>intro r ho k hk; rw [← Yad ho] at hk; exact absurd hk Zdc
 | manyC h1 hne h2 ih1 ih2 =>
   intro r ho k hk
   obtain ⟨vs,e1,e2⟩:=Yce ho
   rw [e2] at hk
   exact Zm.mpr ((Zm.mp hk).imp (ih1 _ rfl k) (ih2 _ e1 k))
 | ntY=>intro r ho k hk; rw [← Yad ho] at hk; exact absurd hk Zdc
 | ntN=>exact fun r ho=>(Yaf ho).elim
theorem Rv.askd {o:Rs}{as:List Kid}(h:Rv txt K p i o as):∀ k∈as,p.askd k.1:=by
 induction h with
 | leaf h=>exact fun k hk=>absurd hk Zdc
 | rule h=>exact fun k hk=>by cases Zj.mp hk; exact .here
 | rowE=>exact fun k hk=>absurd hk Zdc
 | rowN h ih=>exact fun k hk=>⟨_,Zt ..,(ih k hk).out⟩
 | rowC h1 h2 ih1 ih2=>exact fun k hk=>(Zm.mp hk).elim (fun hk=>⟨_,Zt ..,(ih1 k hk).out⟩) fun hk=>Yoo (fun q hq=>Zd _ hq) (ih2 k hk)
 | altE=>exact fun k hk=>absurd hk Zdc
 | altY h ih=>exact fun k hk=>⟨_,Zt ..,(ih k hk).out⟩
 | altN h1 h2 ih1 ih2=>exact fun k hk=>(Zm.mp hk).elim (fun hk=>⟨_,Zt ..,(ih1 k hk).out⟩) fun hk=>Yoo (fun q hq=>Zd _ hq) (ih2 k hk)
 | manyN h ih=>exact fun k hk=>.deep (by rw [Pt.kids3]; exact Zj.mpr rfl) (ih k hk).out
 | manyE h ih=>exact fun k hk=>.deep (by rw [Pt.kids3]; exact Zj.mpr rfl) (ih k hk).out
 | manyC h1 hne h2 ih1 ih2=>exact fun k hk=>(Zm.mp hk).elim (fun hk=>.deep (by rw [Pt.kids3]; exact Zj.mpr rfl) (ih1 k hk).out) (ih2 k)
 | ntY h ih=>exact fun k hk=>.deep (by rw [Pt.kids4]; exact Zj.mpr rfl) (ih k hk).out
 | ntN h ih=>exact fun k hk=>.deep (by rw [Pt.kids4]; exact Zj.mpr rfl) (ih k hk).out
inductive SzR (K:Kid→Option (An Kid)) (L:Str→Prop) (i e:Nat) (ks:List Kid):Prop where
 | head (h:MxR K 7 9 (i+1) e ks):SzR K L i e ks
 | tail (h:MxR K 7 9 i e ks) (hl:∀ k∈ks,L k.1):SzR K L i e ks
noncomputable def Sz (L:Str→Prop) (p:Pt):Prop:=∀ txt K,KWf K→∀ i e ks as,Rv txt K p i (some (e,ks)) as→SzR K L i e ks
theorem Sz.alt0 {L:Str→Prop}:Sz L (.alt []):=fun txt K w i e ks as r=>by cases r.inv.1
theorem Sz.altC {L:Str→Prop}(hp:Sz L p) (hr:Sz L (.alt ps)):Sz L (.alt (p::ps)):=fun txt K w i e ks as r=>r.altS.elim (fun h=>h.elim fun zz h=>hp txt K w _ _ _ _ h) fun h=>h.elim fun zz h=>hr txt K w _ _ _ _ h
theorem Sz.row1 {L:Str→Prop}(hp:Sz L p):Sz L (.row [p]):=fun txt K w i e ks as r=>hp txt K w _ _ _ _ r.row1a
theorem Sz.tail {L:Str→Prop}(h1:Mb 7 9 p) (h2:p.ok L):Sz L p:=fun txt K w i e ks as r=>.tail (h1 txt K w i e ks as r) fun k hk=>Pt.ok_asks (r.askd k (r.sub _ rfl k hk)).out h2
theorem Yhs {x:Pt}(hx:x.sure):x.isLf=true:=hx.rec (fun zz=>rfl) (fun zz zz zz=>rfl) rfl
theorem Sz.head {L:Str→Prop}{x:Pt}(hx:x.sure) (hp:Mb 7 9 p):Sz L (.row [x,p]):=fun txt K w i e ks as r=>by
 obtain ⟨h,us,vs,as1,as2,h1,h2,e1⟩:=r.rowS
 have q:=Prod.mk.inj (Ycs (h1.lfa (Yhs hx)).1.symm).1
 rw [q.2,List.nil_append] at e1
 rw [q.1] at h2
 rw [e1]; exact .head (hp txt K w _ _ _ _ h2.row1a)
theorem Drawn.sz {ns:List Str}{k:Nat}{p:Pt}(h:Drawn ns k p):Sz (Yez ns (k+stp ns.length)) p:=by
 have go:∀ {x h t:Pt}(hx:x.sure) (hh:Pile (Yez ns 0) 3 h) (ht:Pile (Yez ns (k+stp ns.length)) 3 t) (j:Nat),Sz (Yez ns (k+stp ns.length)) (Ygm x h t j):=fun hx hh ht j =>
   have T:=Sz.tail ht.m3 ht.p3.1
   have H:=Sz.head (L:=Yez ns (k+stp ns.length)) hx hh.m3
   AllP.get (C:=Sz (Yez ns (k+stp ns.length))) (.cons (H.altC (T.altC .alt0))<|.cons (T.altC (H.altC .alt0))<|.cons H .nil) T j
 cases h with
 | mk hx hh ht j=>exact go hx hh ht j
 | wr hx hh ht j=>exact (((go hx hh ht j).row1).altC .alt0).row1
end
noncomputable def lvE:Nat→Nat
 | 0=>0
 | n+1=>1+7*lvE n
noncomputable def lvC:Nat→Nat
 | 0=>0
 | n+1=>lvC n+1+16*lvE n
noncomputable def Yk9 (n i:Nat):Nat:=(n - 1 - i) / stp n+1
theorem Yuz (n:Nat):0 < stp n:=Zz Nat.zero_lt_one (Zy 1 _)
theorem Ypj:∀ n,n≤40→∀ i,Yk9 n i≤5:=fun n hn i=>by
 have h1:Yk9 n i≤Yk9 n 0:=Zwb (Nat.div_le_div_right (Zbc (Zkb i) _))
 have h2:∀ m < 41,Yk9 m 0≤5:=by decide
 exact Za h1 (h2 n (Nat.lt_succ_of_le hn))
theorem Ynq {n i j:Nat}(h:i+stp n≤j) (hj:j < n):Yk9 n j < Yk9 n i:=by
 unfold Yk9
 have hs:=Yuz n
 have h1:n - 1 - j+stp n≤n - 1 - i:=Nat.le_sub_of_add_le (by rw [Nat.add_assoc,Nat.add_comm (stp n)]; exact Za (Zzb h _) (Zr (Nat.sub_add_cancel (Nat.le_sub_one_of_lt hj))))
 have h2:=Nat.div_le_div_right (c:=stp n) h1
 rw [Nat.add_div_right _ hs] at h2
 exact Nat.succ_lt_succ h2
section
variable {K:Kid→Option (An Kid)}
noncomputable def Yb6 (K:Kid→Option (An Kid)) (lv:Str→Nat) (k:Kid):Nat:=if Yfl K k=0 then lvE (lv k.1) else 44817+77487*(Yfl K k - 1)+lvC (lv k.1)
theorem Yn7 {f:Nat→Nat}(h:∀ n,f n≤f (n+1)) {a b:Nat}(hab:a≤b):f a≤f b:=by
 induction hab with
 | refl=>exact Zl _
 | step zz ih=>exact Za ih (h _)
theorem Yic {a b:Nat}(h:a≤b):lvE a≤lvE b:=Yn7 (fun n=>Za (Nat.le_mul_of_pos_left _ (by decide)) (Ztb ..)) h
theorem Yh0 {a b:Nat}(h:a≤b):lvC a≤lvC b:=Yn7 (fun n=>Za (Zy _ 1) (Zy ..)) h
theorem Yg8 {lv:Str→Nat}{m:Nat}(ks:List Kid) (h:∀ k∈ks,lv k.1≤m):(ks.map (Yb6 K lv)).sum≤mE K ks*lvE m+rN K ks*(44817+lvC m)+77487*sS K ks:=by
 induction ks with
 | nil=>exact Zkb _
 | cons k r ih =>
   have h1:=h k (Zt ..)
   have ih:=ih fun x hx=>h x (Zd _ hx)
   have g1:=Yic h1
   have g2:=Yh0 h1
   rw [List.map_cons,List.sum_cons]
   show Yb6 K lv k+_≤((if Yfl K k=0 then 1 else 0)+mE K r)*lvE m+((if Yfl K k=0 then 0 else 1)+rN K r)*(44817+lvC m)+77487*((Yfl K k - 1)+sS K r)
   by_cases g:Yfl K k=0
   · have r0:Yb6 K lv k=lvE (lv k.1):=if_pos g
     rw [r0,if_pos g,if_pos g,g,Nat.add_mul,Nat.zero_add,Nat.one_mul,Nat.zero_sub,Nat.zero_add,Nat.add_assoc (lvE m),Nat.add_assoc (lvE m)]; exact Zcb g1 ih
   · have r0:Yb6 K lv k=44817+77487*(Yfl K k - 1)+lvC (lv k.1):=if_neg g
     rw [r0,if_neg g,if_neg g,Nat.zero_add,Nat.add_mul,Nat.one_mul]; generalize (r.map (Yb6 K lv)).sum=X at ih ⊢; generalize mE K r*lvE m=Y at ih ⊢; generalize rN K r*(44817+lvC m)=Z at ih ⊢
     rw [Nat.mul_add]
     exact Za (Zcb (Zzb g2 _) ih) (Zr (by ac_rfl))
theorem Yq1 {U V D m r S L n:Nat}(hD:D+V+9*U=32670) (hL:L=S+n) (hn:1≤n) (hr:r≤n) (hm:m≤7+9*n):m*U+r*(44817+V)+77487*S+32670≤77487*L+V+16*U:=by
 have h1:m*U≤7*U+9*(n*U):=by rw [← Nat.mul_assoc,← Nat.add_mul]; exact Zvb U hm
 have h2:r*(44817+V)≤n*44817+n*V:=by rw [← Nat.mul_add]; exact Zvb _ hr
 have h3:D≤n*D:=Nat.le_mul_of_pos_left D hn
 have h4:n*D+n*V+9*(n*U)=n*32670:=by rw [← hD,Nat.mul_add,Nat.mul_add,Nat.mul_left_comm]
 have h5:77487*n=n*44817+n*32670:=by rw [← Nat.mul_add]; exact Nat.mul_comm ..
 rw [hL,Nat.mul_add 77487,h5,← h4,show 16*U=7*U+9*U from Nat.add_mul 7 9 U]
 have h6:32670≤n*D+V+9*U:=Za (Zr hD.symm) (Zac (Zac h3 V) _)
 exact Za (Zcb (Zac (Zcb h1 h2) _) h6) (Zr (by ac_rfl))
theorem Yrf {m r S L X c:Nat}(x2:S+r≤L) (x3:m+9*S≤7+9*L) (h:X≤m*2801+r*52278+77487*S):1+X≤44817+77487*L+c:=by
 have e:∀ Y:Nat,77487*Y=9*Y*2801+Y*52278:=fun Y=>by rw [Nat.mul_right_comm,Nat.mul_comm Y,← Nat.add_mul]
 have g:=Zcb (Zvb 2801 x3) (Zvb 52278 x2)
 rw [Nat.add_mul,Nat.add_mul,Nat.add_mul] at g
 rw [e] at h
 rw [e L]
 refine Za (Zzb (Za h (Za (Zr (by ac_rfl)) g)) 1) ?_
 rw [Nat.add_assoc (7*2801),← Nat.add_assoc 1]
 exact Za (Zac (by decide) _) (Zy _ c)
theorem Yrl {m r S n X U V D:Nat}(hD:D+V+9*U=32670) (hn:1≤n) (x2:S+r≤S+n) (x3:m+9*S≤7+9*(S+n)) (h:X≤m*U+r*(44817+V)+77487*S):1+X+32670≤77487*(S+n)+(V+1+16*U):=by
 rw [Nat.mul_add,Nat.add_left_comm,Nat.add_comm] at x3
 have x3:m+9*S≤7+9*n+9*S:=by rw [Nat.mul_add] at *; clear h hD hn x2; lia
 have t:=Yq1 (L:=S+n) hD rfl hn (Nat.le_of_add_le_add_left x2) (Nat.le_of_add_le_add_right x3)
 have h':=Zac h 32670
 rw [Nat.add_comm 1 X,Nat.add_right_comm,Nat.add_right_comm V,← Nat.add_assoc]
 exact Zwb (Za h' (Za t (Zr (Nat.add_assoc ..))))
theorem Yw2 {L c:Nat}{X:Nat}(h:X+32670≤77487*(L+1)+c):X≤44817+77487*L+c:=by
 refine Nat.le_of_add_le_add_right (b:=32670) (Za h (Zr ?_))
 rw [Nat.mul_add,show 77487*1=44817+32670 from rfl]; ac_rfl
theorem Ynm {lv:Str→Nat}{L:Str→Prop}{k:Kid}{e:Nat}{ks us:List Kid}(h1:1≤lv k.1) (h5:∀ n,lv n≤5) (hk:K k=some (some e,us)) (hL:∀ n,L n→lv n < lv k.1) (s:SzR K L k.2 e ks):1+(ks.map (Yb6 K lv)).sum≤Yb6 K lv k:=by
 have e2:Yfl K k=e - k.2:=by unfold Yfl; rw [hk]
 cases s with
 | head h =>
   obtain ⟨x1,x2,x3⟩:=h
   have h:=Yg8 (K:=K) (lv:=lv) (m:=5) ks fun k zz=>h5 k.1
   obtain ⟨l,rfl⟩:=Nat.exists_eq_add_of_le x1
   rw [Zuc] at x2 x3
   rw [show k.2+1+l - k.2=l+1 by rw [Nat.add_assoc,Zuc,Nat.add_comm]] at e2
   have rn:Yb6 K lv k=44817+77487*(l+1 - 1)+lvC (lv k.1):=by unfold Yb6; rw [e2]; exact if_neg (Nat.succ_ne_zero l)
   rw [rn]
   exact Yrf x2 x3 h
 | tail h hl =>
   obtain ⟨x1,x2,x3⟩:=h
   have s0:=Yxo (K:=K) ks
   obtain ⟨l,hl1⟩:∃ x,lv k.1=x+1:=⟨lv k.1 - 1,(Nat.sub_add_cancel h1).symm⟩
   have h:=Yg8 (K:=K) (lv:=lv) (m:=l) ks fun x hx=>Zjc (Nat.lt_of_lt_of_eq (hL _ (hl x hx)) hl1)
   have hl4:l≤4:=Zcc (Za (Zr hl1.symm) (h5 k.1))
   obtain ⟨D,hD⟩:=Nat.exists_eq_add_of_le (Za (Zcb (Yh0 hl4) (Znb 9 (Yic hl4))) (show lvC 4+9*lvE 4≤32670 by decide))
   obtain ⟨q,rfl⟩:=Nat.exists_eq_add_of_le x1
   rw [Zuc] at x2 x3 e2
   cases q with
   | zero =>
     have ry:Yb6 K lv k=lvE (lv k.1):=if_pos e2
     have z2:rN K ks=0:=Nat.le_zero.mp (Za (Ztb ..) x2)
     have z3:=s0 z2
     rw [z2,z3,Nat.zero_mul] at h
     rw [z3] at x3
     rw [ry,hl1]
     exact Zzb (Za h (Zvb (lvE l) x3)) 1
   | succ q =>
     have rn:Yb6 K lv k=44817+77487*(q+1 - 1)+lvC (lv k.1):=by unfold Yb6; rw [e2]; exact if_neg (Nat.succ_ne_zero q)
     obtain ⟨n,hn⟩:=Nat.exists_eq_add_of_le (Za (Zy ..) x2)
     have n1:1≤n:=by
       cases n with
       | zero =>
         have z2:rN K ks=0:=Nat.le_zero.mp (Nat.le_of_add_le_add_left (hn▸x2:sS K ks+rN K ks≤sS K ks+0))
         rw [s0 z2] at hn; cases hn
       | succ n=>exact Zwb (Zkb n)
     rw [rn,hl1]
     refine Yw2 ?_
     rw [hn] at x2 x3
     rw [show q+1 - 1+1=sS K ks+n from hn]
     exact Yrl (by rw [hD,Nat.add_comm _ D,Nat.add_assoc]) n1 x2 x3 h
theorem Yr5 {lv:Str→Nat}{k:Kid}(h5:lv k.1≤5) (hl:Yfl K k≤149):Yb6 K lv k+0≤12000000:=by
 have g1:=Yic h5
 have g2:=Yh0 h5
 unfold Yb6
 by_cases g:Yfl K k=0
 · rw [if_pos g]; exact Za g1 (by decide)
 · rw [if_neg g,Nat.add_zero]; exact Za (Zcb (Zzb (Znb 77487 (Nat.sub_le_sub_right hl 1)) 44817) g2) (by decide)
theorem Ync {G:Str→Pt}{txt:List Nat}{mb:Str→Bool}{W:Nat}{b:Mm}{rs:List (Str×Pt)}{ns:List Str}(hD:∀ (j:Nat) (r:Str×Pt),rs[j]?=some r→Drawn ns j r.2) (hns:rs.map (·.1)=ns) (hnd:ns.Nodup) (h40:ns.length≤40) (hG:∀ r∈rs,G r.1=r.2) (hm:Mc ns mb W txt.length [] b) (hi:MI G txt [] b) (hl:txt.length≤149) {d:Nat}{k:Kid}{t:List Row}(ht:Tr (Yap b.kept) d [k] t):t.length≤12000000:=by
 subst hns
 have w:KWf (Yap b.kept):=fun k e us h=>(hm.fit k _ h).1
 have h5:∀ n,Yk9 (rs.map (·.1)).length (Yo7 rs n)≤5:=fun n=>Ypj _ h40 _
 have hs:=Tr.size (f:=Yb6 (Yap b.kept) fun n=>Yk9 (rs.map (·.1)).length (Yo7 rs n)) (fun k e ks hk=>by
   obtain ⟨hn,zz⟩:=hm.rng k (hi.kin k _ hk)
   obtain ⟨r,hr,hrk⟩:=Zsb.mp hn
   obtain ⟨j,hj⟩:=List.mem_iff_getElem?.mp hr
   obtain ⟨as,hv,zz⟩:=hi.rv hk
   rw [← hrk,hG r hr] at hv
   refine Ynm (Ztb 1 _) h5 hk (fun n hn=>?_) ((hD j r hj).sz txt _ w _ _ _ _ hv)
   obtain ⟨j',g1,g2⟩:=hn
   have g3:=(Zb.mp g2).1
   rw [Zdb] at g2
   obtain ⟨r',h1,rfl⟩:=Zpb.mp g2
   show Yk9 _ (Yo7 rs r'.1) < Yk9 _ (Yo7 rs k.1)
   rw [Yec hnd h1,← hrk,Yec hnd hj]
   exact Ynq g1 g3) ht
 cases ht with
 | @cons _ e _ ks _ t1 t2 hk z1 z2 =>
   refine Za hs ?_
   have hf:e≤txt.length:=(hm.fit k _ hk).2.1
   have e2:Yfl (Yap b.kept) k=e - k.2:=by unfold Yfl; rw [hk]
   exact Yr5 (h5 k.1) (by rw [e2]; exact Za (Nat.sub_le ..) (Za hf hl))
end
end
section
noncomputable def nrm:Option (An Kid)→An Kid
 | some (some e,ks)=>(some e,ks)
 | z1=>(none,[])
noncomputable def tl (b:Mm):List (Kid×An Kid):=b.order.map fun k=>(k,nrm (Yap b.kept k))
theorem Ynt (o:List Kid) (f:Kid→An Kid) (k:Kid):Yap (o.map fun k=>(k,f k)) k=if k∈o then some (f k) else none:=by
 unfold Yap
 induction o with
 | nil=>rfl
 | cons x r ih =>
   rw [List.map_cons,List.find?_cons]
   by_cases e:x=k
   · rw [Zmb (show ((x,f x):Kid×An Kid).1=k from e),if_pos (e▸Zt ..),e]; rfl
   · rw [Zrc (show ¬ ((x,f x):Kid×An Kid).1=k from e)]
     show Option.map _ (List.find? _ (r.map fun k=>(k,f k)))=_
     rw [ih]
     by_cases g:k∈r
     · rw [if_pos g,if_pos (Zd _ g)]
     · rw [if_neg g,if_neg fun h=>(Zg.mp h).elim (fun q=>e q.symm) g]
theorem Yw8 {G:Str→Pt}{txt:List Nat}{b:Mm}(hi:MI G txt [] b) {k:Kid}{a:An Kid}(h:Yap b.kept k=some a):Yap (tl b) k=some (nrm (some a)):=by
 unfold tl
 rw [Ynt,if_pos (hi.kin k a h),h]
noncomputable def Ywe (k:Kid) (a:An Kid) (l:Nat):V:=.tup [.str k.1,.int k.2,Yqr a.1,.ref l]
class inductive EnR (lo:Nat) (σ:Hp):List (Kid×An Kid)→List V→Prop where
 | nil:EnR lo σ [] []
 | cons {k:Kid}{a:An Kid}{l:Nat}{xs:List (Kid×An Kid)}{vs:List V}(h:σ[l]?=some (.list (a.2.map pV'))) (hl:lo≤l) (t:EnR lo σ xs vs):EnR lo σ ((k,a)::xs) (Ywe k a l::vs)
section
variable {lo:Nat}{σ σ':Hp}{xs:List (Kid×An Kid)}{vs:List V}
theorem EnR.up (h:EnR lo σ xs vs) (k:∀ l o,lo≤l→σ[l]?=some o→σ'[l]?=some o):EnR lo σ' xs vs:=by
 induction h with
 | nil=>exact .nil
 | cons h hl t ih=>exact .cons (k _ _ hl h) hl ih
theorem EnR.snoc {k:Kid}{a:An Kid}{l:Nat}(h:EnR lo σ xs vs) (h1:σ[l]?=some (.list (a.2.map pV'))) (hl:lo≤l):EnR lo σ (xs++[(k,a)]) (vs++[Ywe k a l]):=by
 induction h with
 | nil=>exact .cons h1 hl .nil
 | cons g gl t ih=>exact .cons g gl ih
theorem EnR.length (h:EnR lo σ xs vs):vs.length=xs.length:=by
 induction h with
 | nil=>rfl
 | cons h hl t ih=>exact congrArg Nat.succ ih
theorem EnR.at {i:Nat}{v:V}(h:EnR lo σ xs vs):vs[i]?=some v→∃ k a l,xs[i]?=some (k,a)∧v=Ywe k a l∧σ[l]?=some (.list (a.2.map pV'))∧lo≤l:=by
 induction h generalizing i with
 | nil=>intro h; cases h
 | cons h hl t ih =>
   intro g
   cases i with
   | zero=>cases g; exact ⟨_,_,_,rfl,rfl,h,hl⟩
   | succ i=>exact ih g
end
theorem Yhf.of {σ:Hp}{a:An Kid}{l:Nat}(h:σ[l]?=some (.list (a.2.map pV'))):Yhf Yfx σ [] a (.tup [Yqr a.1,.ref l]):=⟨l,_,rfl,Zdc,h,Ycm⟩
theorem Ya2.snoc {σ:Hp}{k:Kid}{a:An Kid}{v:V}{xs:List (Kid×An Kid)}{kvs:List ((Str×Int)×V)}(h:Ya2 σ [] xs kvs) (hv:Yhf Yfx σ [] a v) (hk:Yap xs k=none):Ya2 σ [] (xs++[(k,a)]) (Yb4 kvs (k.1,(k.2:Int)) v):=by
 have:=h.set (k:=k) hv
 rw [Yht hk] at this; exact this
theorem Ya2.all {σ σ':Hp}(k:∀ (l:Nat) (vs:List V),σ[l]?=some (.list vs)→σ'[l]?=some (.list vs)):∀ {xs:List (Kid×An Kid)}{kvs:List ((Str×Int)×V)},Ya2 σ [] xs kvs→Ya2 σ' [] xs kvs
 | [],z1,h=>h
 | z1::z2,z3,h=>by
   obtain ⟨v,q,e,⟨l,vs,h1,h2,h3,h4⟩,h5⟩:=h
   exact ⟨v,q,e,⟨l,vs,h1,h2,k _ _ h3,(Yf2 h4)▸Ycm⟩,Ya2.all k h5⟩
theorem Yxf {kvs:List ((Str×Int)×V)}{k:Str×Int}{v:V}(h:(kvs.find? fun kv=>kv.1=k).map (·.2)=some v):(kvs.any fun kv=>kv.1=k)=true:=by
 obtain ⟨x,h1,zz⟩:=Zpb.mp h
 have h2:=List.find?_some h1
 exact List.any_eq_true.mpr ⟨x,List.mem_of_find?_eq_some h1,h2⟩
theorem Yvs {b:Mm}(hn:b.order.Nodup) {i:Nat}{k:Kid}{a:An Kid}(h:(tl b)[i]?=some (k,a)):Yap ((tl b).take i) k=none:=by
 unfold tl at h ⊢
 rw [Zdb] at h
 obtain ⟨x,h1,h2⟩:=Zpb.mp h
 cases h2
 rw [← List.map_take,Ynt,if_neg]
 intro g
 obtain ⟨j,hj⟩:=List.mem_iff_getElem?.mp g
 have hji:j < i:=by
   have:=(Zb.mp hj).1
   rw [List.length_take] at this; exact Zz this (Nat.min_le_left ..)
 rw [List.getElem?_take_of_lt hji] at hj
 have l1:=(Zb.mp hj)
 have l2:=(Zb.mp h1)
 have e1:=hn.idxOf_getElem j l1.1
 rw [l1.2,← l2.2,hn.idxOf_getElem i l2.1] at e1
 exact absurd e1.symm (Znc hji)
section
variable (K:Kid→Option (An Kid))
end
section
variable {K:Kid→Option (An Kid)}
end
theorem Ya2.has {P:Prop}{σ:Hp}{A:List Nat}{k:Kid}{a:An Kid}{xs:List (Kid×An Kid)}{kvs:List ((Str×Int)×V)}(h:Ya2 σ A xs kvs) (hk:Yap xs k=some a) (c:∀ la,(kvs.find? fun kv=>kv.1=(k.1,(k.2:Int))).map (·.2)=some (.tup [Yqr a.1,.ref la])→σ[la]?=some (.list (a.2.map pV'))→P):P :=
 h.case (k:=k) (fun e zz=>(Yaf (e.symm.trans hk)).elim) fun a' la e x2 x3 x4=>by
   rw [Yad (e.symm.trans hk)] at x2 x4
   exact c la x2 x4
end
section
theorem Yrv (k:Kid) (a:An Kid):anO (Ye1 k (nrm (some a)))=anO (Ye1 k a):=by
 obtain ⟨x,us⟩:=a
 cases x <;> rfl
theorem Rv.told {txt:List Nat}{K K':Kid→Option (An Kid)}(hk:∀ k a,K k=some a→K' k=some (nrm (some a))) {p:Pt}{i:Nat}{o:Rs}{as:List Kid}(h:Rv txt K p i o as):Rv txt K' p i o as:=by
 induction h with
 | leaf h=>exact .leaf h
 | rule h=>rw [← Yrv]; exact .rule (hk _ _ h)
 | rowE=>exact .rowE
 | rowN h ih=>exact .rowN ih
 | rowC h1 h2 ih1 ih2=>exact .rowC ih1 ih2
 | altE=>exact .altE
 | altY h ih=>exact .altY ih
 | altN h1 h2 ih1 ih2=>exact .altN ih1 ih2
 | manyN h ih=>exact .manyN ih
 | manyE h ih=>exact .manyE ih
 | manyC h1 hne h2 ih1 ih2=>exact .manyC ih1 hne ih2
 | ntY h ih=>exact .ntY ih
 | ntN h ih=>exact .ntN ih
noncomputable def KW (txt:List Nat) (K:Kid→Option (An Kid)):Prop:=∀ k e us,K k=some (some e,us)→k.2≤e∧e≤txt.length
theorem Yv8 {a b x y z:Nat}(h:x≤z) (g:y≤z):a*x+b*y≤(a+b)*z:=by
 rw [Nat.add_mul]; exact Zcb (Znb a h) (Znb b g)
theorem Ywl {a i h e:Nat}(g:i < h) (g2:h≤e):a*(h+1 - i)+2*a*(e+1 - h)≤2*a*(e+1 - i):=by
 have h1:a*(h+1 - i)≤2*a*(h - i):=by rw [Nat.mul_comm 2 a,Nat.mul_assoc]; exact Znb a (Ynn g)
 have h2:e+1 - i=(h - i)+(e+1 - h):=((Nat.add_comm ..).trans (Nat.sub_add_sub_cancel (Zeb g2) (Zq g))).symm
 rw [h2,Nat.mul_add]; exact Zac h1 _
theorem Rv.len {txt:List Nat}{K:Kid→Option (An Kid)}(w:KW txt K) {p:Pt}{i:Nat}{o:Rs}{as:List Kid}(h:Rv txt K p i o as):i≤txt.length→∀ r,o=some r→i≤r.1∧r.1≤txt.length∧r.2.length≤p.wt*(r.1+1 - i):=by
 induction h with
 | leaf h =>
   intro hi r e
   obtain ⟨rfl,hl⟩:=Ycs e
   exact ⟨Nat.le_succ _,hl,Zkb _⟩
 | @rule n i a h =>
   intro hi r e
   obtain ⟨x,us⟩:=a
   cases x with
   | none=>exact (Yaf e).elim
   | some e1 =>
     have:=Yad e; subst this
     obtain ⟨g1,g2⟩:=w _ _ _ h
     refine ⟨g1,g2,?_⟩
     rw [Pt.wt1,Nat.one_mul]; exact Nat.sub_pos_of_lt (Nat.lt_succ_of_le g1)
 | rowE=>intro hi r e; have:=Yad e; subst this; exact ⟨Zl _,hi,Zkb _⟩
 | rowN=>exact fun hi r e=>(Yaf e).elim
 | rowC h1 h2 ih1 ih2 =>
   intro hi r e
   obtain ⟨us,rfl,e2⟩:=Yce e
   obtain ⟨a1,a2,a3⟩:=ih1 hi _ rfl
   obtain ⟨b1,b2,b3⟩:=ih2 a2 _ rfl
   refine ⟨Za a1 b1,b2,?_⟩
   rw [e2,Zf,Pt.wt2,Pt.wts2]
   exact Za (Zcb a3 b3) (Yv8 (Nat.sub_le_sub_right (Zwb b1) _) (Zbc a1 _))
 | altE=>exact fun hi r e=>(Yaf e).elim
 | altY h ih =>
   intro hi r e
   obtain ⟨a1,a2,a3⟩:=ih hi r e
   refine ⟨a1,a2,Za a3 (Zvb _ ?_)⟩
   rw [Pt.wt3,Pt.wts2]; exact Zy ..
 | altN h1 h2 ih1 ih2 =>
   intro hi r e
   obtain ⟨a1,a2,a3⟩:=ih2 hi r e
   refine ⟨a1,a2,Za a3 (Zvb _ ?_)⟩
   rw [Pt.wt3,Pt.wt3,Pt.wts2]; exact Ztb ..
 | manyN=>intro hi r e; have:=Yad e; subst this; exact ⟨Zl _,hi,Zkb _⟩
 | manyE=>intro hi r e; have:=Yad e; subst this; exact ⟨Zl _,hi,Zkb _⟩
 | manyC h1 hne h2 ih1 ih2 =>
   intro hi r e
   obtain ⟨us,rfl,e2⟩:=Yce e
   obtain ⟨a1,a2,a3⟩:=ih1 hi _ rfl
   obtain ⟨b1,b2,b3⟩:=ih2 a2 _ rfl
   refine ⟨Za a1 b1,b2,?_⟩
   rw [e2,Zf,Pt.wt4]
   rw [Pt.wt4] at b3
   exact Za (Zcb a3 b3) (Ywl (Nat.lt_of_le_of_ne a1 (Ne.symm hne)) b1)
 | ntY=>intro hi r e; have:=Yad e; subst this; exact ⟨Zl _,hi,Zkb _⟩
 | ntN=>exact fun hi r e=>(Yaf e).elim
noncomputable def Up (f:Nat→Nat):Prop:=∀ a b,a≤b→f a≤f b
noncomputable def Ab (f:Nat→Nat) (p:Pt):Prop:=∀ txt K,KW txt K→∀ i o as,i≤txt.length→Rv txt K p i o as→as.length≤f (txt.length - i)
section
variable {f g T:Nat→Nat}{p:Pt}{ps:List Pt}
theorem Ab.mono (h:Ab f p) (k:∀ n,f n≤g n):Ab g p:=fun txt K w i o as hi r=>Za (h txt K w i o as hi r) (k _)
theorem Ab.lf (hp:p.isLf=true):Ab f p:=fun txt K w i o as hi r=>by rw [(r.lfa hp).2]; exact Zkb _
theorem Ab.row0:Ab f (.row []):=fun txt K w i o as hi r=>by rw [r.inv.2]; exact Zkb _
theorem Ab.alt0:Ab f (.alt []):=fun txt K w i o as hi r=>by rw [r.inv.2]; exact Zkb _
theorem Ab.rowC (u:Up g) (hp:Ab f p) (hr:Ab g (.row ps)):Ab (fun n=>f n+g n) (.row (p::ps)):=fun txt K w i o as hi r=>by
 refine r.rowU (fun zz h=>?_) fun h ks o' as1 as2 h1 h2 zz e=>?_
 · exact Za (hp txt K w _ _ _ hi h) (Zy ..)
 · obtain ⟨a1,a2,zz⟩:=h1.len w hi _ rfl
   rw [e,Zf]
   exact Zcb (hp txt K w _ _ _ hi h1) (Za (hr txt K w _ _ _ a2 h2) (u _ _ (Zbc a1 _)))
theorem Ab.altC (hp:Ab f p) (hr:Ab g (.alt ps)):Ab (fun n=>f n+g n) (.alt (p::ps)):=fun txt K w i o as hi r=>by
 refine r.altU (fun x zz h=>?_) fun as1 as2 h1 h2 e=>?_
 · exact Za (hp txt K w _ _ _ hi h) (Zy ..)
 · rw [e,Zf]
   exact Zcb (hp txt K w _ _ _ hi h1) (hr txt K w _ _ _ hi h2)
theorem Ab.nt (hp:Ab f p):Ab f (.nt p):=fun txt K w i o as hi r=>by
 refine r.ntU (fun zz h=>?_) fun x zz h=>?_ <;> exact hp txt K w _ _ _ hi h
theorem Yd5 {c:Nat}:Up fun zz=>c:=fun a b h=>Zl _
theorem Up.add (hf:Up f) (hg:Up g):Up fun n=>f n+g n:=fun a b h=>Zcb (hf a b h) (hg a b h)
theorem Yqh:Up fun n=>n+1:=fun a b h=>Zwb h
noncomputable def f1 (n:Nat):Nat:=4*n+9
noncomputable def t1 (n:Nat):Nat:=2*(n*n)+11*n+9
noncomputable def f2 (n:Nat):Nat:=2*(n*n)+18*n+25
noncomputable def t2 (n:Nat):Nat:=n*(n*n)+10*(n*n)+35*n+25
noncomputable def f3 (n:Nat):Nat:=n*(n*n)+12*(n*n)+56*n+57
end
end
section
noncomputable def Agr (K K':Kid→Option (An Kid)) (k:Kid):Prop:=∀ a a',K k=some a→K' k=some a'→a.1=a'.1
section
variable {txt:List Nat}{K K':Kid→Option (An Kid)}{p:Pt}{ps:List Pt}{i:Nat}{o o':Rs}{as as':List Kid}
theorem Yrg {k:Kid}{a a':An Kid}(h:a.1=a'.1):Ye1 k a=Ye1 k a':=by unfold Ye1; rw [h]
theorem Rv.det (h:Rv txt K p i o as):∀ o' as',Rv txt K' p i o' as'→(∀ k∈as,Agr K K' k)→o=o'∧as=as':=by
 induction h with
 | @leaf p i h =>
   intro o' as' r z1
   have h':o'=Ygl txt p i∧as'=[]:=by
     have g:=r.inv
     cases p <;> first | exact g | exact (Zv h).elim
   exact ⟨h'.1.symm,h'.2.symm⟩
 | @rule n i a h =>
   intro o' as' r g
   obtain ⟨a',h1,e1,e2⟩:=r.inv
   exact ⟨(congrArg anO (Yrg (g _ (Zj.mpr rfl) a a' h h1))).trans e1.symm,e2.symm⟩
 | rowE=>intro o' as' r g; exact ⟨r.inv.1.symm,r.inv.2.symm⟩
 | rowN h ih =>
   intro o' as' r g
   refine r.rowU (fun e h1=>?_) fun h' ks o2 as1 as2 h1 h2 e1 e2=>?_
   · exact ⟨e.symm,(ih _ _ h1 g).2⟩
   · exact (Yaf (ih _ _ h1 fun k hk=>g k hk).1).elim
 | rowC h1 h2 ih1 ih2 =>
   intro o' as' r g
   refine r.rowU (fun e q1=>?_) fun h' ks' o2 as1 as2 q1 q2 e1 e2=>?_
   · exact (Yaf (ih1 _ _ q1 fun k hk=>g k (Zxb _ hk)).1.symm).elim
   · have e3:=ih1 _ _ q1 fun k hk=>g k (Zxb _ hk)
     have e4:=Prod.mk.inj (Yad e3.1)
     have e5:=ih2 _ _ (e4.1▸q2) fun k hk=>g k (Zyb _ hk)
     exact ⟨by rw [e1,e4.2,e5.1],by rw [e2,e3.2,e5.2]⟩
 | altE=>intro o' as' r g; exact ⟨r.inv.1.symm,r.inv.2.symm⟩
 | altY h ih =>
   intro o' as' r g
   refine r.altU (fun r' e q=>?_) fun as1 as2 q1 q2 e=>?_
   · rw [e]; exact ih _ _ q g
   · exact (Yaf (ih _ _ q1 g).1.symm).elim
 | altN h1 h2 ih1 ih2 =>
   intro o' as' r g
   refine r.altU (fun r' e q=>?_) fun as1 as2 q1 q2 e=>?_
   · exact (Yaf (ih1 _ _ q fun k hk=>g k (Zxb _ hk)).1).elim
   · have e5:=ih2 _ _ q2 fun k hk=>g k (Zyb _ hk)
     exact ⟨e5.1,by rw [e,(ih1 _ _ q1 fun k hk=>g k (Zxb _ hk)).2,e5.2]⟩
 | manyN h ih =>
   intro o' as' r g
   refine r.manyU (fun e q=>?_) (fun e ks q=>?_) fun h' ks o2 as1 as2 q1 hne q2 e1 e2=>?_
   · exact ⟨e.symm,(ih _ _ q g).2⟩
   · exact (Yaf (ih _ _ q g).1).elim
   · exact (Yaf (ih _ _ q1 g).1).elim
 | manyE h ih =>
   intro o' as' r g
   refine r.manyU (fun e q=>?_) (fun e ks q=>?_) fun h' ks o2 as1 as2 q1 hne q2 e1 e2=>?_
   · exact (Yaf (ih _ _ q g).1.symm).elim
   · exact ⟨e.symm,(ih _ _ q g).2⟩
   · exact absurd (congrArg Prod.fst (Yad (ih _ _ q1 g).1)).symm hne
 | manyC h1 hne h2 ih1 ih2 =>
   intro o' as' r g
   refine r.manyU (fun e q=>?_) (fun e ks q=>?_) fun h' ks o2 as1 as2 q1 hne q2 e1 e2=>?_
   · exact (Yaf (ih1 _ _ q fun k hk=>g k (Zxb _ hk)).1.symm).elim
   · exact absurd (congrArg Prod.fst (Yad (ih1 _ _ q fun k hk=>g k (Zxb _ hk)).1)) hne
   · have e3:=ih1 _ _ q1 fun k hk=>g k (Zxb _ hk)
     have e4:=Prod.mk.inj (Yad e3.1)
     have e5:=ih2 _ _ (e4.1▸q2) fun k hk=>g k (Zyb _ hk)
     exact ⟨by rw [e1,e4.2,e5.1],by rw [e2,e3.2,e5.2]⟩
 | ntY h ih =>
   intro o' as' r g
   refine r.ntU (fun e q=>?_) fun x e q=>?_
   · exact ⟨e.symm,(ih _ _ q g).2⟩
   · exact (Yaf (ih _ _ q g).1).elim
 | ntN h ih =>
   intro o' as' r g
   refine r.ntU (fun e q=>?_) fun x e q=>?_
   · exact (Yaf (ih _ _ q g).1.symm).elim
   · exact ⟨e.symm,(ih _ _ q g).2⟩
structure Yzd (K:Kid→Option (An Kid)) (i:Nat) (k:Kid):Prop where
 has:∃ a,K k=some a
 le:i≤k.2
theorem Yzd.up {j:Nat}{k:Kid}(h:i≤j) (g:Yzd K j k):Yzd K i k:=⟨g.has,Za h g.le⟩
theorem Rv.askR (w:KW txt K) (h:Rv txt K p i o as):i≤txt.length→∀ k∈as,Yzd K i k:=by
 induction h with
 | leaf h=>exact fun hi k hk=>absurd hk Zdc
 | rule h=>exact fun hi k hk=>by cases Zj.mp hk; exact ⟨⟨_,h⟩,Zl _⟩
 | rowE=>exact fun hi k hk=>absurd hk Zdc
 | rowN h ih=>exact ih
 | rowC h1 h2 ih1 ih2=>exact fun hi k hk=>have l:=h1.len w hi _ rfl; (Zm.mp hk).elim (ih1 hi k) fun hk=>(ih2 l.2.1 k hk).up l.1
 | altE=>exact fun hi k hk=>absurd hk Zdc
 | altY h ih=>exact ih
 | altN h1 h2 ih1 ih2=>exact fun hi k hk=>(Zm.mp hk).elim (ih1 hi k) (ih2 hi k)
 | manyN h ih=>exact ih
 | manyE h ih=>exact ih
 | manyC h1 hne h2 ih1 ih2=>exact fun hi k hk=>have l:=h1.len w hi _ rfl; (Zm.mp hk).elim (ih1 hi k) fun hk=>(ih2 l.2.1 k hk).up l.1
 | ntY h ih=>exact ih
 | ntN h ih=>exact ih
noncomputable def Lo (L:Str→Prop) (p:Pt):Prop:=∀ txt K,KW txt K→∀ i o as,i≤txt.length→Rv txt K p i o as→∀ k∈as,i < k.2∨L k.1
theorem Lo.alt0 {L:Str→Prop}:Lo L (.alt []):=fun txt K w i o as hi r k hk=>by rw [r.inv.2] at hk; exact absurd hk Zdc
theorem Lo.altC {L:Str→Prop}(hp:Lo L p) (hr:Lo L (.alt ps)):Lo L (.alt (p::ps)):=fun txt K w i o as hi r k hk=>by
 refine r.altU (fun x zz h=>?_) fun as1 as2 h1 h2 e=>?_
 · exact hp txt K w _ _ _ hi h k hk
 · rw [e] at hk
   exact (Zm.mp hk).elim (hp txt K w _ _ _ hi h1 k) (hr txt K w _ _ _ hi h2 k)
theorem Lo.row1 {L:Str→Prop}(hp:Lo L p):Lo L (.row [p]):=fun txt K w i o as hi r=>hp txt K w i o as hi r.row1a
theorem Lo.tail {L:Str→Prop}(h2:p.ok L):Lo L p:=fun txt K w i o as hi r k hk=>.inr (Pt.ok_asks (r.askd k hk).out h2)
theorem Lo.head {L:Str→Prop}{x:Pt}(hx:x.sure):Lo L (.row [x,p]):=fun txt K w i o as hi r k hk=>by
 refine r.rowU (fun zz h=>?_) fun h ks o' as1 as2 h1 h2 zz e=>?_
 · rw [(h.lfa (Yhs hx)).2] at hk; exact absurd hk Zdc
 · obtain ⟨e1,e2⟩:=h1.lfa (Yhs hx)
   obtain ⟨e3,hl⟩:=Ycs e1.symm
   cases e3
   rw [e,e2] at hk
   exact .inl ((h2.row1a.askR w hl k hk).le)
theorem Drawn.lo {ns:List Str}{k:Nat}{p:Pt}(h:Drawn ns k p):Lo (Yez ns (k+stp ns.length)) p:=by
 have go:∀ {x h t:Pt}(hx:x.sure) (ht:Pile (Yez ns (k+stp ns.length)) 3 t) (j:Nat),Lo (Yez ns (k+stp ns.length)) (Ygm x h t j):=fun {x h t} hx ht j =>
   have T:Lo (Yez ns (k+stp ns.length)) t:=.tail ht.p3.1
   have H:Lo (Yez ns (k+stp ns.length)) (.row [x,h]):=.head hx
   AllP.get (C:=Lo (Yez ns (k+stp ns.length))) (.cons (H.altC (T.altC .alt0))<|.cons (T.altC (H.altC .alt0))<|.cons H .nil) T j
 cases h with
 | mk hx hh ht j=>exact go hx ht j
 | wr hx hh ht j=>exact (((go hx ht j).row1).altC .alt0).row1
end
end
section
structure LinR (c a b g n i:Nat) (o:Rs) (m:Nat):Prop where
 yes:∀ r,o=some r→m≤c+a*(r.1 - i)+b*(n - i)
 no:o=none→m≤c+g*(n - i)
noncomputable def Lin (c a b g:Nat) (p:Pt):Prop:=∀ txt K,KW txt K→∀ i o as,i≤txt.length→Rv txt K p i o as→LinR c a b g txt.length i o as.length
section
variable {c c1 c2 a a1 a2 b b1 b2 g g1 g2:Nat}{p:Pt}{ps:List Pt}
theorem Lin.mono (h:Lin c1 a1 b1 g1 p) (hc:c1≤c) (ha:a1≤a) (hb:b1≤b) (hg:g1≤g):Lin c a b g p:=fun txt K w i o as hi r =>
 have x:=h txt K w i o as hi r
 ⟨fun y e=>Za (x.yes y e) (Zcb (Zcb hc (Zvb _ ha)) (Zvb _ hb)),fun e=>Za (x.no e) (Zcb hc (Zvb _ hg))⟩
theorem Lin.nil (h:∀ txt K i o as,Rv txt K p i o as→as=[]):Lin c a b g p:=fun txt K w i o as hi r=>by
 rw [h txt K i o as r]; exact ⟨fun y e=>Zkb _,fun e=>Zkb _⟩
theorem Lin.lf (hp:p.isLf=true):Lin c a b g p:=.nil fun txt K i o as r=>(r.lfa hp).2
theorem Lin.row0:Lin c a b g (.row []):=.nil fun txt K i o as r=>r.inv.2
theorem Lin.alt0:Lin c a b g (.alt []):=.nil fun txt K i o as r=>r.inv.2
theorem Lin.rule {n:Str}:Lin 1 0 0 0 (.rule n):=fun txt K w i o as hi r=>by
 obtain ⟨x,zz,zz,e⟩:=r.inv
 rw [e]; exact ⟨fun y e=>Za (Zy 1 _) (Zy _ _),fun e=>Zy 1 _⟩
theorem Lin.row1 (h:Lin c a b g p):Lin c a b g (.row [p]):=fun txt K w i o as hi r=>h txt K w i o as hi r.row1a
theorem Lin.alt1 (h:Lin c a b g p):Lin c a b g (.alt [p]):=fun txt K w i o as hi r=>h txt K w i o as hi r.alt1a
theorem Yxg {i h e:Nat}(ih:i≤h) (he:h≤e):(h - i)+(e - h)=e - i:=(Nat.add_comm ..).trans (Nat.sub_add_sub_cancel he ih)
theorem Yrt {a1 a2 a i h e:Nat}(ih:i≤h) (he:h≤e) (h1:a1≤a) (h2:a2≤a):a1*(h - i)+a2*(e - h)≤a*(e - i):=by
 rw [← Yxg ih he,Nat.mul_add]; exact Zcb (Zvb _ h1) (Zvb _ h2)
theorem Yy6 {c1 c2 a1 a2 b1 b2 a m1 m2 i h e n:Nat}(ih:i≤h) (he:h≤e) (hn:h≤n) (x:m1≤c1+a1*(h - i)+b1*(n - i)) (y:m2≤c2+a2*(e - h)+b2*(n - h)) (ha1:a1≤a) (ha2:a2≤a):m1+m2≤c1+c2+a*(e - i)+(b1+b2)*(n - i):=by
 refine Za (Zcb x y) ?_
 rw [Zwc,Zwc c1]
 exact Zcb (Zzb (Yrt ih he ha1 ha2) _) (Yv8 (Zl _) (Zbc ih n))
theorem Yy2 {c1 c2 a1 b1 g2 g m1 m2 i h n:Nat}(ih:i≤h) (hn:h≤n) (x:m1≤c1+a1*(h - i)+b1*(n - i)) (y:m2≤c2+g2*(n - h)) (h1:b1+a1≤g) (h2:b1+g2≤g):m1+m2≤c1+c2+g*(n - i):=by
 refine Za (Zcb x y) (Za (Zr ?_) (Zzb (Yrt ih hn h1 h2) (c1+c2)))
 rw [← Yxg ih hn,Nat.mul_add,Nat.add_mul,Nat.add_mul,Nat.add_assoc c1,Zwc c1]
 congr 1
 rw [← Nat.add_assoc,Nat.add_assoc,Nat.add_comm (a1*(h - i))]
theorem Lin.rowC (x:Lin c1 a1 b1 g1 p) (y:Lin c2 a2 b2 g2 (.row ps)) (h1:a1≤a) (h2:a2≤a) (h3:g1≤g) (h4:b1+a1≤g) (h5:b1+g2≤g):Lin (c1+c2) a (b1+b2) g (.row (p::ps)):=fun txt K w i o as hi r=>by
 refine r.rowU (fun e q=>?_) fun h ks o' as1 as2 q1 q2 e1 e2=>?_
 · exact ⟨fun y e'=>(Yaf (e.symm.trans e')).elim,fun zz=>Za ((x txt K w _ _ _ hi q).no rfl) (Zcb (Zy ..) (Zvb _ h3))⟩
 · obtain ⟨l1,l2,zz⟩:=q1.len w hi _ rfl
   have X:=(x txt K w _ _ _ hi q1).yes _ rfl
   have Y:=y txt K w _ _ _ l2 q2
   rw [e2,Zf]
   refine ⟨fun r e=>?_,fun e=>?_⟩
   · obtain ⟨us,e3,zz⟩:=Yce (e1.symm.trans e)
     exact Yy6 l1 (q2.len w l2 _ e3).1 l2 X (Y.yes (r.1,us) e3) h1 h2
   · refine Yy2 l1 l2 X (Y.no ?_) h4 h5
     cases o' with
     | none=>rfl
     | some z=>rw [e1] at e; exact (Yaf e.symm).elim
theorem Yxv {c1 c2 g1 a2 b2 a b m1 m2 D R:Nat}(x:m1≤c1+g1*R) (y:m2≤c2+a2*D+b2*R) (h2:a2≤a) (h4:g1+b2≤b):m1+m2≤c1+c2+a*D+b*R:=by
 refine Za (Zcb x y) ?_
 rw [Zwc,← Nat.add_assoc c1,← Nat.add_mul]
 exact Zcb (Zzb (Zvb _ h2) _) (Zvb _ h4)
theorem Ywt {c1 c2 g1 g2 g m1 m2 R:Nat}(x:m1≤c1+g1*R) (y:m2≤c2+g2*R) (h:g1+g2≤g):m1+m2≤c1+c2+g*R:=by
 refine Za (Zcb x y) ?_
 rw [Zwc,← Nat.add_mul]
 exact Zzb (Zvb _ h) _
theorem Yw0 {c a b g m i e n:Nat}(x:m≤c+a*(e - i)+b*(n - i)) (he:e≤n) (h:a+b≤g):m≤c+g*(n - i) :=
 Za x (by rw [Nat.add_assoc]; exact Zzb (Za (Yv8 (Nat.sub_le_sub_right he _) (Zl _)) (Zvb _ h)) _)
theorem Lin.altC (x:Lin c1 a1 b1 g1 p) (y:Lin c2 a2 b2 g2 (.alt ps)) (h1:a1≤a) (h2:a2≤a) (h3:b1≤b) (h4:g1+b2≤b) (h5:g1+g2≤g):Lin (c1+c2) a b g (.alt (p::ps)):=fun txt K w i o as hi r=>by
 refine r.altU (fun z e q=>?_) fun as1 as2 q1 q2 e=>?_
 · have X:=(x txt K w _ _ _ hi q).yes _ rfl
   refine ⟨fun r e'=>?_,fun e'=>(Yaf (e'.symm.trans e)).elim⟩
   cases Yad (e.symm.trans e')
   exact Za X (Zcb (Zcb (Zy ..) (Zvb _ h1)) (Zvb _ h3))
 · have X:=(x txt K w _ _ _ hi q1).no rfl
   have Y:=y txt K w _ _ _ hi q2
   rw [e,Zf]
   refine ⟨fun r e'=>?_,fun e'=>?_⟩
   · exact Yxv X (Y.yes r e') h2 h4
   · exact Ywt X (Y.no e') h5
theorem Lin.nt (x:Lin c a b g1 p) (h1:a+b≤g) (h2:g1≤g):Lin c 0 g g (.nt p):=fun txt K w i o as hi r=>by
 have key:as.length≤c+g*(txt.length - i):=by
   refine r.ntU (fun zz q=>?_) fun y zz q=>?_
   · exact Za ((x txt K w _ _ _ hi q).no rfl) (Zzb (Zvb _ h2) _)
   · exact Yw0 ((x txt K w _ _ _ hi q).yes _ rfl) (q.len w hi _ rfl).2.1 h1
 exact ⟨fun y e=>Za key (by rw [Nat.zero_mul]; exact Zl _),fun e=>key⟩
theorem Ywq {c a g m1 m2 i h e n:Nat}(ih:i < h) (he:h≤e) (hn:h≤n) (x:m1≤c+a*(h - i)+0*(n - i)) (y:m2≤c+(c+a)*(e - h)+g*(n - h)):m1+m2≤c+(c+a)*(e - i)+g*(n - i):=by
 have x':m1≤(c+a)*(h - i):=Za x (by rw [Nat.zero_mul,Nat.add_zero,Nat.add_mul]; exact Zac (Nat.le_mul_of_pos_right c (Nat.sub_pos_of_lt ih)) _)
 refine Za (Zcb x' y) ?_
 rw [← Nat.add_assoc,Nat.add_left_comm]
 exact Zcb (Zzb (Yrt (Zq ih) he (Zl _) (Zl _)) c) (Znb _ (Zbc (Zq ih) n))
theorem Yup {ks:List Kid}{o:Rs}(h:o≠none):onO ks o≠none:=by
 cases o with
 | none=>exact absurd rfl h
 | some z=>exact fun e=>Yaf e.symm
theorem Ypl {txt:List Nat}{K:Kid→Option (An Kid)}{i:Nat}{o:Rs}{as:List Kid}(r:Rv txt K (.many p) i o as):o≠none :=
 r.manyI (C:=fun i o as=>o≠none) (fun i as h e=>Yaf e.symm) (fun i ks as h e=>Yaf e.symm) fun i h ks o as as' h1 hne h2 ih=>Yup ih
theorem Lin.many (x:Lin c a 0 g p):Lin c (c+a) g 0 (.many p):=fun txt K w i o as hi r=>by
 refine ⟨?_,fun e=>absurd e (Ypl r)⟩
 revert hi
 refine r.manyI (C:=fun i o as=>i≤txt.length→∀ r,o=some r→as.length≤c+(c+a)*(r.1 - i)+g*(txt.length - i)) (fun i as h hi r e=>Za ((x txt K w _ _ _ hi h).no rfl) (Zac (Zy ..) _)) (fun i ks as h hi r e=>?_) fun i h ks o as as' h1 hne h2 ih hi r e=>?_
 · have k:=(x txt K w _ _ _ hi h).yes _ rfl
   rw [Nat.sub_self,Nat.mul_zero,Nat.zero_mul] at k
   exact Za k (Za (Zy ..) (Zy ..))
 · obtain ⟨us,e3,zz⟩:=Yce e
   obtain ⟨l1,l2,zz⟩:=h1.len w hi _ rfl
   rw [Zf]
   exact Ywq (Nat.lt_of_le_of_ne l1 (Ne.symm hne)) (h2.len w l2 _ e3).1 l2 ((x txt K w _ _ _ hi h1).yes _ rfl) (ih l2 (r.1,us) e3)
noncomputable def tri:Nat→Nat
 | 0=>0
 | n+1=>tri n+(n+1)
theorem Ys3:Up tri:=fun m n h=>by
 induction h with
 | refl=>exact Zl _
 | step h ih=>exact Za ih (Zy ..)
theorem Yyd {m n:Nat}(h:m < n):n+tri m≤tri n:=by
 cases n with
 | zero=>exact absurd h (Zlb _)
 | succ n=>show n+1+tri m≤tri n+(n+1); rw [Nat.add_comm]; exact Zac (Ys3 _ _ (Zjc h)) _
noncomputable def tq (c a b g n:Nat):Nat:=c*(n+1)+a*n+b*tri n+g*n
theorem Yvw {c a b g m1 m2 i h n:Nat}(ih:i < h) (hn:h≤n) (x:m1≤c+a*(h - i)+b*(n - i)) (y:m2≤tq c a b g (n - h)):m1+m2≤tq c a b g (n - i):=by
 have lt:n - h < n - i:=Zqc (Zz ih hn) ih
 unfold tq at y ⊢
 refine Za (Zcb x y) ?_
 rw [← Nat.add_assoc,Zwc,Zwc c,← Nat.mul_add b,Nat.add_comm c,← Nat.mul_succ c]
 exact Zcb (Zcb (Zcb (Znb c (Zwb lt)) (Yrt (Zq ih) hn (Zl _) (Zl _))) (Znb b (Yyd lt))) (Znb _ (Zq lt))
theorem Lin.manyQ (x:Lin c a b g p) (hb:b≤g):Ab (tq c a b g) (.many p):=fun txt K w i o as hi r=>by
 have c0:∀ n,c≤c*(n+1)+a*n+b*tri n:=fun n=>Za (Nat.le_mul_of_pos_right c (Nat.succ_pos n)) (Za (Zy ..) (Zy ..))
 revert hi
 refine r.manyI (C:=fun i o as=>i≤txt.length→as.length≤tq c a b g (txt.length - i)) (fun i as h hi=>Za ((x txt K w _ _ _ hi h).no rfl) (Zac (c0 _) _)) (fun i ks as h hi=>?_) fun i h ks o as as' h1 hne h2 ih hi=>?_
 · have k:=(x txt K w _ _ _ hi h).yes _ rfl
   rw [Nat.sub_self,Nat.mul_zero] at k
   exact Za k (Zcb (c0 _) (Zvb _ hb))
 · obtain ⟨l1,l2,zz⟩:=h1.len w hi _ rfl
   rw [Zf]
   exact Yvw (Nat.lt_of_le_of_ne l1 (Ne.symm hne)) l2 ((x txt K w _ _ _ hi h1).yes _ rfl) (ih l2)
theorem Lin.ab (x:Lin c a b g1 p) (h1:a+b≤g) (h2:g1≤g):Ab (fun n=>c+g*n) p:=fun txt K w i o as hi r=>by
 have X:=x txt K w _ _ _ hi r
 cases o with
 | none=>exact Za (X.no rfl) (Zzb (Zvb _ h2) _)
 | some y=>exact Yw0 (X.yes _ rfl) (r.len w hi _ rfl).2.1 h1
theorem Yc4 {P:Str→Prop}(h:Ya0 P 1 1 p):Lin 1 0 0 0 p:=h.leaf (fun n=>.rule) (fun q hq=>.lf hq) .row0 .alt0
theorem Ygy {x y:Pt}(h1:1≤c) (ag:a≤g1) (g0:1≤g) (gg:g1+g1≤g) (hp:Lin c a 0 g1 p) (hx:Lin 1 0 0 0 x) (hy:Lin 1 0 0 0 y) (k:Nat):Lin (2*c+5) (c+a) g1 g (Yd9 p x y k):=by
 have gl:g1≤g:=Za (Zy ..) gg
 have za:∀ {n m:Nat},n≤m→0+n≤m:=fun h=>Za (Zr (Nat.zero_add _)) h
 have PM:Lin c (c+a) g1 0 (.many p):=hp.many
 have XM:Lin 1 1 0 0 (.many x):=hx.many
 have YM:Lin 1 1 0 0 (.many y):=hy.many
 have XN:Lin 1 0 0 0 (.nt x):=hx.nt (Zl _) (Zl _)
 have YN:Lin 1 0 0 0 (.nt y):=hy.nt (Zl _) (Zl _)
 have a1:1≤c+a:=Za h1 (Zy ..)
 have aa:a≤c+a:=Ztb ..
 have z:∀ {n:Nat},0≤n:=fun {n}=>Zkb n
 have any:Lin 0 0 0 0 .any:=.lf rfl
 have up:∀ {q:Pt}{c' a' b' g':Nat},Lin c' a' b' g' q→c'≤2*c+5→a'≤c+a→b'≤g1→g'≤g→Lin (2*c+5) (c+a) g1 g q:=fun h k1 k2 k3 k4=>h.mono k1 k2 k3 k4
 have d0:=up PM (by lia) (Zl _) (Zl _) z
 have d1:=up (hp.nt (g:=g1) ag (Zl _)) (by lia) z (Zl _) gl
 have d2:=up (hp.rowC (a:=a) (g:=g1) hx.row1 (Zl _) z (Zl _) (za ag) z) (by lia) aa z gl
 have d3:=up (hx.rowC (a:=a) (g:=g1) hp.row1 z (Zl _) z z (za (Zl _))) (by lia) aa z gl
 have d4:=up (hp.altC (a:=a) (b:=g1) (g:=g1) hx.alt1 (Zl _) z z (Zl _) (Zl _)) (by lia) aa (Zl _) gl
 have d5:=up (hx.altC (a:=a) (b:=g1) (g:=g1) hp.alt1 z (Zl _) z z (za (Zl _))) (by lia) aa (Zl _) gl
 have d6:=up (hp.altC (a:=a) (b:=g1) (g:=g1) (Lin.alt1 (Lin.row0 (c:=0) (a:=0) (b:=0) (g:=0))) (Zl _) z z (Zl _) (Zl _)) (by lia) aa (Zl _) gl
 have d7:=up (hp.rowC (a:=a) (g:=g1) XN.row1 (Zl _) z (Zl _) (za ag) z) (by lia) aa z gl
 have PY:=hp.rowC (a:=a) (g:=g1) hy.row1 (Zl _) z (Zl _) (za ag) z
 have d8:=up (hx.rowC (a:=a) (g:=g1) PY z (Zl _) z z (za (Zl _))) (by lia) aa z gl
 have YP:=hy.altC (a:=a) (b:=0) (g:=g1) hp.alt1 z (Zl _) z z (za (Zl _))
 have d9:=up (hx.altC (a:=a) (b:=g1) (g:=g) (PY.altC (a:=a) (b:=g1) (g:=g) YP (Zl _) (Zl _) z (Zl _) gg) z (Zl _) z (za (Zl _)) (za (Zl _))) (by lia) aa (Zl _) (Zl _)
 have XP:=hx.altC (a:=a) (b:=0) (g:=g1) hp.alt1 z (Zl _) z z (za (Zl _))
 have d10:=up (hy.altC (a:=a) (b:=0) (g:=g1) XP z (Zl _) z z (za (Zl _))) (by lia) aa z gl
 have r1:=hp.rowC (a:=c+a) (g:=g) XM.row1 aa a1 gl (za (Za ag gl)) z
 have r2:=YM.rowC (a:=c+a) (g:=g) r1 a1 (Zl _) z g0 (za (Zl _))
 have r3:=YN.rowC (a:=c+a) (g:=g) r2 z (Zl _) z z (za (Zl _))
 have r4:=XM.rowC (a:=c+a) (g:=g) r3 a1 (Zl _) z g0 (za (Zl _))
 have d11:=up r4 (by lia) (Zl _) z (Zl _)
 have s1:=hx.altC (a:=0) (b:=0) (g:=0) any.alt1 z z z z z
 have s2:=hp.altC (a:=a) (b:=g1) (g:=g1) s1 (Zl _) z z (Zl _) (Zl _)
 have s3:=hy.altC (a:=a) (b:=g1) (g:=g1) s2 z (Zl _) z (za (Zl _)) (za (Zl _))
 have s4:=hx.altC (a:=a) (b:=g1) (g:=g1) s3 z (Zl _) z (za (Zl _)) (za (Zl _))
 have s5:=(any.nt (g:=0) (Zl _) (Zl _)).altC (a:=a) (b:=g1) (g:=g1) s4 z (Zl _) z (za (Zl _)) (za (Zl _))
 have d12:=up s5 (by lia) aa (Zl _) gl
 have t1:=XN.rowC (a:=c+a) (g:=g) PM.row1 z (Zl _) z z z
 have t2:=hy.rowC (a:=c+a) (g:=g) t1 z (Zl _) z z (za (Zl _))
 have t3:=XM.rowC (a:=c+a) (g:=g) t2 a1 (Zl _) z g0 (za (Zl _))
 have t4:=hp.rowC (a:=c+a) (g:=g) t3 aa (Zl _) gl (za (Za ag gl)) (za (Zl _))
 have t5:=YM.rowC (a:=c+a) (g:=g) t4 a1 (Zl _) z g0 (za (Zl _))
 have t6:=hx.rowC (a:=c+a) (g:=g) t5 z (Zl _) z z (za (Zl _))
 have d13:=up t6 (by lia) (Zl _) (by lia) (Zl _)
 exact AllP.get (C:=Lin (2*c+5) (c+a) g1 g) (.cons d0<|.cons d1<|.cons d2<|.cons d3<|.cons d4<|.cons d5<|.cons d6<|.cons d7<|.cons d8<|.cons d9<|.cons d10<|.cons d11<|.cons d12 .nil) d13 k
theorem Pile.l1 {P:Str→Prop}(h:Pile P 1 p):Lin 7 1 0 1 p:=by
 cases h with | join h ha hb k=>exact Ygy (by decide) (by decide) (by decide) (by decide) (Yc4 h.p0) (Yc4 ha) (Yc4 hb) k
theorem Pile.l2 {P:Str→Prop}(h:Pile P 2 p):Lin 19 8 1 2 p:=by
 cases h with | join h ha hb k=>exact Ygy (by decide) (by decide) (by decide) (by decide) h.l1 (Yc4 ha) (Yc4 hb) k
end
end
section
section
variable {f T:Nat→Nat}{p:Pt}
theorem Ym1 {x y:Pt}(uf:Up f) (ut:Up T) (h0:∀ n,f n≤T n) (PM:Ab T (.many p)) (hp:Ab f p) (lx:Lin 1 0 0 0 x) (ly:Lin 1 0 0 0 y) (k:Nat):Ab (fun n=>f n+T n+3*n+7) (Yd9 p x y k):=by
 have one:∀ {q:Pt},Lin 1 0 0 0 q→Ab (fun zz=>1) q:=fun h=>(h.ab (g:=0) (Zl _) (Zl _)).mono fun n=>by rw [Nat.zero_mul]; exact Zl _
 have mny:∀ {q:Pt},Lin 1 0 0 0 q→Ab (fun n=>n+1) (.many q):=fun h=>(h.many.ab (g:=1) (Zl _) (Zkb _)).mono fun n=>by rw [Nat.one_mul,Nat.add_comm]; exact Zl _
 have hx:=one lx
 have hy:=one ly
 have XM:=mny lx
 have YM:=mny ly
 have r0:Ab (fun zz=>0) (.row []):=.row0
 have a0:Ab (fun zz=>0) (.alt []):=.alt0
 have u1:Up (fun n=>1+0):=Yd5
 have any:Ab (fun zz=>0) .any:=.lf rfl
 have P1:=hp.rowC Yd5 r0
 have uP1:=uf.add (Yd5 (c:=0))
 exact AllP.get (C:=Ab fun n=>f n+T n+3*n+7) (.cons (PM.mono fun n=>by lia)<|.cons (hp.nt.mono fun n=>by lia)<|.cons ((hp.rowC u1 (hx.rowC Yd5 r0)).mono fun n=>by lia)<|.cons ((hx.rowC uP1 P1).mono fun n=>by lia)<|.cons ((hp.altC (hx.altC a0)).mono fun n=>by lia)<|.cons ((hx.altC (hp.altC a0)).mono fun n=>by lia)<|.cons ((hp.altC (r0.altC a0)).mono fun n=>by lia) <|
   .cons ((hp.rowC u1 (hx.nt.rowC Yd5 r0)).mono fun n=>by lia)<|.cons ((hx.rowC (uf.add u1) (hp.rowC u1 (hy.rowC Yd5 r0))).mono fun n=>by lia)<|.cons ((hx.altC ((hp.rowC u1 (hy.rowC Yd5 r0)).altC (hy.altC (hp.altC a0)))).mono fun n=>by have:=h0 n; lia)<|.cons ((hy.altC (hx.altC (hp.altC a0))).mono fun n=>by lia) <|
   .cons ((XM.rowC (Yd5 (c:=1) |>.add (Yqh.add (uf.add (Yqh.add Yd5)))) (hy.nt.rowC (Yqh.add (uf.add (Yqh.add Yd5))) (YM.rowC (uf.add (Yqh.add Yd5)) (hp.rowC (Yqh.add Yd5) (XM.rowC Yd5 r0))))).mono fun n=>by lia)<|.cons ((any.nt.altC (hx.altC (hy.altC (hp.altC (hx.altC (any.altC a0)))))).mono fun n=>by lia) .nil)
   ((hx.rowC (Yqh.add (uf.add (Yqh.add (Yd5 (c:=1) |>.add (Yd5 (c:=1) |>.add (ut.add Yd5)))))) (YM.rowC (uf.add (Yqh.add (Yd5 (c:=1) |>.add (Yd5 (c:=1) |>.add (ut.add Yd5))))) (hp.rowC (Yqh.add (Yd5 (c:=1) |>.add (Yd5 (c:=1) |>.add (ut.add Yd5)))) (XM.rowC (Yd5 (c:=1) |>.add (Yd5 (c:=1) |>.add (ut.add Yd5))) (hy.rowC (Yd5 (c:=1) |>.add (ut.add Yd5)) (hx.nt.rowC (ut.add Yd5) (PM.rowC Yd5 r0))))))).mono fun n=>by lia) k
noncomputable def tA (n:Nat):Nat:=tq 19 8 1 2 n
noncomputable def fA (n:Nat):Nat:=19+9*n+tA n+3*n+7
theorem Yyt:Up tA:=fun a b h=>Zcb (Zcb (Zcb (Znb _ (Zwb h)) (Znb _ h)) (Znb _ (Ys3 _ _ h))) (Znb _ h)
theorem Yxj:Up fA:=fun a b h=>Zac (Zcb (Zcb (Zzb (Znb 9 h) 19) (Yyt a b h)) (Znb 3 h)) 7
theorem Pile.b3 {P:Str→Prop}(h:Pile P 3 p):Ab fA p:=by
 cases h with
 | join h ha hb k=>exact Ym1 (fun a b h=>Zzb (Znb 9 h) 19) Yyt (fun n=>Za (show 19+9*n≤19*(n+1) by rw [Nat.mul_succ,Nat.add_comm 19]; exact Zac (Zvb n (by decide)) 19) (Za (Zy ..) (Za (Zy ..) (Zy ..)))) (h.l2.manyQ (by decide)) (h.l2.ab (g:=9) (by decide) (by decide)) (Yc4 ha) (Yc4 hb) k
theorem Drawn.ab2 {ns:List Str}{k:Nat}(h:Drawn ns k p):Ab (fun n=>fA n+fA n) p:=by
 have go:∀ {x h t:Pt}(hx:x.sure) (hh:Ab fA h) (ht:Ab fA t) (j:Nat),Ab (fun n=>fA n+fA n) (Ygm x h t j):=fun {x h t} hx hh ht j =>
   have X:Ab (fun zz=>0) x:=.lf (Yhs hx)
   have H:Ab fA (.row [x,h]):=(X.rowC (Yxj.add (Yd5 (c:=0))) (hh.rowC Yd5 .row0)).mono (g:=fA) fun n=>Zr (Nat.zero_add _)
   have a0:Ab (fun zz=>0) (.alt []):=.alt0
   AllP.get (C:=Ab fun n=>fA n+fA n) (.cons (H.altC (ht.altC a0))<|.cons (ht.altC (H.altC a0))<|.cons (H.mono fun n=>Zy ..) .nil) (ht.mono fun n=>Zy ..) j
 have w1:∀ {p:Pt}{f:Nat→Nat},Ab f p→Ab f (.row [p]):=fun h=>(h.rowC (g:=fun zz=>0) Yd5 .row0).mono fun n=>Zl _
 have w2:∀ {p:Pt}{f:Nat→Nat},Ab f p→Ab f (.alt [p]):=fun h=>(h.altC (g:=fun zz=>0) .alt0).mono fun n=>Zl _
 cases h with
 | mk hx hh ht j=>exact go hx hh.b3 ht.b3 j
 | wr hx hh ht j=>exact w1 (w2 (w1 (go hx hh.b3 ht.b3 j)))
end
noncomputable def fS:Nat→Nat
 | 0=>0
 | m+1=>fS m+5*(fA m+fA m)
theorem Yxu:Up fS:=fun m n h=>by
 induction h with
 | refl=>exact Zl _
 | step h ih=>exact Za ih (Zy ..)
noncomputable def phi (n:Nat) (lv:Str→Nat) (k:Kid):Nat:=fS (n - k.2)+lv k.1*(fA (n - k.2)+fA (n - k.2))
noncomputable def Dn (n:Nat) (lv:Str→Nat) (k k':Kid):Prop:=k'.2≤n∧(k.2 < k'.2∨(k'.2=k.2∧lv k'.1 < lv k.1))
theorem Ys7 {n:Nat}{lv:Str→Nat}{k:Kid}(h5:lv k.1≤5):phi n lv k≤fS (n - k.2+1):=Zzb (Zvb _ h5) _
theorem Ywa {n:Nat}{lv:Str→Nat}{k:Kid}(h5:lv k.1≤5) (hn:n≤149):phi n lv k≤12000000 :=
 Za (Ys7 h5) (Za (Yxu _ 150 (Zwb (Za (Nat.sub_le ..) hn))) (by decide +kernel))
theorem Yxz {n m:Nat}{lv:Str→Nat}{k k':Kid}(h1:1≤lv k.1) (h5:lv k'.1≤5) (hm:m≤fA (n - k.2)+fA (n - k.2)) (hd:Dn n lv k k'):m+phi n lv k'≤phi n lv k:=by
 obtain ⟨hn,hd | ⟨e,hd⟩⟩:=hd
 · have g1:=Za (Ys7 (n:=n) h5) (Yxu _ (n - k.2) (Zqc (Zz hd hn) hd))
   have g2:1*(fA (n - k.2)+fA (n - k.2))≤lv k.1*(fA (n - k.2)+fA (n - k.2)):=Zvb _ h1
   rw [Nat.one_mul] at g2
   show m+phi n lv k'≤fS (n - k.2)+_
   rw [Nat.add_comm]
   exact Zcb g1 (Za hm g2)
 · have g:(lv k'.1+1)*(fA (n - k.2)+fA (n - k.2))≤lv k.1*(fA (n - k.2)+fA (n - k.2)):=Zvb _ hd
   rw [Nat.succ_mul] at g
   unfold phi
   rw [e,Nat.add_left_comm]; exact Zzb (Za (Zac hm _) (by rw [Nat.add_comm]; exact g)) _
class inductive Fit (ph:Kid→Nat) (L:Nat):List Kid→Prop where
 | nil:Fit ph L []
 | cons {k:Kid}{r:List Kid}(h:r.length+ph k≤L) (t:Fit ph L r):Fit ph L (k::r)
section
variable {ph:Kid→Nat}{L:Nat}{k:Kid}{r as:List Kid}
theorem Fit.out (h:Fit ph L (k::r)):r.length+ph k≤L∧Fit ph L r:=by
 cases h with | cons h t=>exact ⟨h,t⟩
theorem Fit.len (h:Fit ph L r):r.length≤L+1:=by
 cases h with
 | nil=>exact Zkb _
 | cons h t=>exact Zwb (Za (Zy ..) h)
theorem Fit.push (h:Fit ph L (k::r)) (hs:∀ k'∈as,as.length+ph k'≤ph k):Fit ph L (as++r):=by
 obtain ⟨h1,h2⟩:=h.out
 have go:∀ as':List Kid,as'.length≤as.length→(∀ k'∈as',k'∈as)→Fit ph L (as'++r):=by
   intro as'
   induction as' with
   | nil=>exact fun z1 z2=>h2
   | cons x t ih =>
     intro hl hm
     refine .cons ?_ (ih (Zkc hl) fun y hy=>hm y (Zd _ hy))
     have g:=hs x (hm x (Zt ..))
     show (t++r).length+ph x≤L
     rw [Zf,Nat.add_comm t.length,Nat.add_assoc]
     exact Za (Zzb (Za (Zac (Zkc hl) _) g) _) h1
 exact go as (Zl _) fun z1 h=>h
end
noncomputable def AkR (txt:List Nat) (G:Str→Pt) (K:Kid→Option (An Kid)) (k:Kid) (as:List Kid):Prop:=∃ a,K k=some a∧Rv txt K (G k.1) k.2 (anO a) as
theorem Ak.rv {G:Str→Pt}{txt:List Nat}{b:Mm}(k:Kid) (as:List Kid) (h:Ak G txt b k as):AkR txt G (Yap b.kept) k as:=by
 obtain ⟨a,h1,h2⟩:=h
 exact ⟨a,h1,h2.rv [] [] (.new _ _) (fun zz=>rfl) (by intros; contradiction)⟩
theorem AkR.det {txt:List Nat}{G:Str→Pt}{K K':Kid→Option (An Kid)}{k:Kid}{as as':List Kid}(ag:∀ k,Agr K K' k) (h:AkR txt G K k as) (h':AkR txt G K' k as'):as=as':=by
 obtain ⟨a,h1,h2⟩:=h
 obtain ⟨a',h3,h4⟩:=h'
 exact (h2.det _ _ h4 fun k zz=>ag k).2
theorem Agr.refl (K:Kid→Option (An Kid)) (k:Kid):Agr K K k:=fun a a' h h'=>by rw [h] at h'; rw [Yad h']
noncomputable def lvR (rs:List (Str×Pt)) (n:Str):Nat:=Yk9 (rs.map (·.1)).length (Yo7 rs n)
structure Kp (G:Str→Pt) (txt:List Nat) (rs:List (Str×Pt)) (b:Mm):Prop where
 hD:∀ (j:Nat) (r:Str×Pt),rs[j]?=some r→Drawn (rs.map (·.1)) j r.2
 nd:(rs.map (·.1)).Nodup
 h40:(rs.map (·.1)).length≤40
 hG:∀ r∈rs,G r.1=r.2
 rng:∀ k∈b.order,k.1∈rs.map (·.1)∧k.2≤txt.length
 kw:KW txt (Yap b.kept)
 hi:MI G txt [] b
 hl:txt.length≤149
section
variable {G:Str→Pt}{txt:List Nat}{rs:List (Str×Pt)}{b b':Mm}{k:Kid}{as:List Kid}{a:An Kid}
theorem Kp.l5 (h:Kp G txt rs b) (n:Str):lvR rs n≤5:=Ypj _ h.h40 _
theorem Kp.asks (h:Kp G txt rs b) (x:AkR txt G (Yap b.kept) k as):as.length≤fA (txt.length - k.2)+fA (txt.length - k.2)∧∀ k'∈as,(∃ a,Yap b.kept k'=some a)∧Dn txt.length (lvR rs) k k':=by
 obtain ⟨a,h1,h2⟩:=x
 obtain ⟨hn,hk⟩:=h.rng k (h.hi.kin k _ h1)
 obtain ⟨r,hr,hrk⟩:=Zsb.mp hn
 obtain ⟨j,hj⟩:=List.mem_iff_getElem?.mp hr
 rw [← hrk,h.hG r hr] at h2
 have d:=h.hD j r hj
 refine ⟨d.ab2 txt _ h.kw _ _ _ hk h2,fun k' hk'=>?_⟩
 have g:=h2.askR h.kw hk k' hk'
 obtain ⟨a',ha'⟩:=g.has
 refine ⟨⟨a',ha'⟩,(h.rng k' (h.hi.kin k' _ ha')).2,?_⟩
 rcases Nat.eq_or_lt_of_le g.le with e | e
 · refine .inr ⟨e.symm,?_⟩
   obtain ⟨j',g1,g2⟩:=(d.lo txt _ h.kw _ _ _ hk h2 k' hk').resolve_left fun q=>absurd e (Znc q)
   have g3:=(Zb.mp g2).1
   rw [Zdb] at g2
   obtain ⟨r',q1,q2⟩:=Zpb.mp g2
   show Yk9 _ (Yo7 rs k'.1) < Yk9 _ (Yo7 rs k.1)
   rw [← q2,Yec h.nd q1,← hrk,Yec h.nd hj]
   exact Ynq g1 g3
 · exact .inl e
theorem Kp.has (h:Kp G txt rs b) (hk:Yap b.kept k=some a):∃ as,AkR txt G (Yap b.kept) k as:=by
 obtain ⟨as,h1,zz⟩:=h.hi.rv hk
 exact ⟨as,a,hk,h1⟩
theorem Kp.phi (h:Kp G txt rs b) (x:AkR txt G (Yap b.kept) k as):∀ k'∈as,as.length+phi txt.length (lvR rs) k'≤phi txt.length (lvR rs) k:=fun k' hk' =>
 Yxz (Ztb 1 _) (h.l5 _) (h.asks x).1 ((h.asks x).2 k' hk').2
theorem Ypi (a:An Kid):(anO a).map (·.1)=a.1:=by
 obtain ⟨x,us⟩:=a
 cases x <;> rfl
theorem Kp.agr (h:Kp G txt rs b) (h':Kp G txt rs b'):∀ N k,(txt.length - k.2)*6+lvR rs k.1 < N→Agr (Yap b.kept) (Yap b'.kept) k:=by
 intro N
 induction N with
 | zero=>exact fun k hk=>absurd hk (Zlb _)
 | succ N ih =>
   intro k hN a a' ha ha'
   obtain ⟨as,x⟩:=h.has ha
   obtain ⟨as',x'⟩:=h'.has ha'
   have hs:=(h.asks x).2
   obtain ⟨a1,h1,h2⟩:=x
   obtain ⟨a2,h3,h4⟩:=x'
   rw [ha] at h1
   rw [ha'] at h3
   rw [← Yad h1] at h2
   rw [← Yad h3] at h4
   have e:=(h2.det _ _ h4 fun k' hk'=>ih k' (by
     obtain ⟨zz,d1,d2 | ⟨d2,d3⟩⟩:=hs k' hk'
     · exact Zz (Nat.add_lt_add_left (Nat.lt_succ_of_le (h.l5 k'.1)) _) (Za (Zr (Nat.succ_mul _ 6).symm) (Za (Zvb 6 (Zqc (Zz d2 d1) d2)) (Za (Zy ..) (Zjc hN))))
     · rw [d2]; exact Zz (Nat.add_lt_add_left d3 _) (Zjc hN))).1
   rw [← Ypi a,← Ypi a',e]
theorem Kp.agrs (h:Kp G txt rs b) (h':Kp G txt rs b') (k:Kid):Agr (Yap b.kept) (Yap b'.kept) k:=h.agr h' _ k (Zs _)
theorem Kp.dfs (h:Kp G txt rs b) (h':Kp G txt rs b') {r o o':List Kid}(d:Dfs (AkR txt G (Yap b'.kept)) r o o'):(∀ k∈r,∃ a,Yap b.kept k=some a)→Dfs (AkR txt G (Yap b.kept)) r o o':=by
 induction d with
 | nil=>exact fun z1=>.nil
 | old q z1 ih=>exact fun g=>.old q (ih fun k hk=>g k (Zd _ hk))
 | @new k as r o o' q x z1 ih =>
   intro g
   obtain ⟨a,ha⟩:=g k (Zt ..)
   obtain ⟨as2,x2⟩:=h.has ha
   have e:=AkR.det (h.agrs h') x2 x
   rw [e] at x2
   exact .new q x2 (ih fun k' hk'=>(Zm.mp hk').elim (fun m=>((h.asks x2).2 k' m).1) fun m=>g k' (Zd _ m))
end
class inductive DfsN (Ak:Kid→List Kid→Prop):Nat→List Kid→List Kid→List Kid→Prop where
 | nil {o:List Kid}:DfsN Ak 0 [] o o
 | old {n:Nat}{k:Kid}{r o o':List Kid}:k∈o→DfsN Ak n r o o'→DfsN Ak (n+1) (k::r) o o'
 | new {n:Nat}{k:Kid}{as r o o':List Kid}:k∉o→Ak k as→DfsN Ak n (as++r) (o++[k]) o'→DfsN Ak (n+1) (k::r) o o'
theorem Dfs.cnt {Ak:Kid→List Kid→Prop}{r o o':List Kid}(h:Dfs Ak r o o'):∃ n,DfsN Ak n r o o':=by
 induction h with
 | nil=>exact ⟨0,.nil⟩
 | old h z1 ih=>exact ih.elim fun n g=>⟨n+1,.old h g⟩
 | new h h' z1 ih=>exact ih.elim fun n g=>⟨n+1,.new h h' g⟩
end
end Mine
namespace Mine
open PySem PySem.W PyProof.Rows
section
noncomputable abbrev T09 (w:World) (s:Shared):Tp:=Yv9 PySem.Challenge.rw_uf010010_09.row.prog w s (hd09.heap_39 w.params)
variable {w:World}{s:Shared}{d:Nat}{X:QX}{Q:QE}{σ:Hp}
theorem Ylx {c:Nat}(hc:Yaj c=true) (h2:(c == 10)=false) (h3:(c == 9)=false):decide ((32:Int)≤c)=true∧decide ((c:Int)≤126)=true∧((c:Int) != 37)=true:=by
 unfold Yaj at hc
 rw [h2,h3,Bool.false_or,Bool.false_or] at hc
 have h:=Bool.and_eq_true_iff.mp hc
 have g:=Bool.and_eq_true_iff.mp h.1
 exact ⟨Zmb (Zhc.mpr (Zgb g.1)),Zmb (Zhc.mpr (Zgb g.2)),bne_iff_ne.mpr fun e=>bne_iff_ne.mp h.2 (Int.ofNat_inj.mp e)⟩
theorem Yl4 (TO:Yag (T09 w s)) {c:Nat}(hc:Yaj c=true) (q:Q (.bool true) σ):Yaa (T09 w s) (d+1) X (.glob "is_sign") [.str ⟨#[c]⟩] Q σ:=by
 refine Yaa.go TO rfl rfl ?_
 refine Cal.isi (b:=true) rfl<|Cal.len (n:=1) rfl (by decide)<|Br.mk (fun zz=>q) fun h2=>Br.mk (fun zz=>q) fun h3=>Cal.ord ?_
 have h:=Ylx hc (Yqb.symm.trans h2) (Yqb.symm.trans h3)
 exact Br.t h.1<|Br.t h.2.1<|Cal.ord (show Q (.bool ((c:Int) != 37)) σ from h.2.2.symm▸q)
end
section
variable {w:World}{s:Shared}{d:Nat}{X:QX}{Q:QE}{σ:Hp}
theorem Ydi.tag {p:Pt}(q:Q (.str p.word) σ):Ydi p.v (.int 0) Q σ:=by cases p <;> exact q
theorem Pt.tag_rule {p:Pt}(h:(p.word == ("rule" : Str))=true):∃ n,p=.rule n:=by
 cases p <;> first | exact ⟨_,rfl⟩ | exact (Zv h).elim
theorem Ydi.rule {p:Pt}{n:Str}(h:p=.rule n) (q:Q (.str n) σ):Ydi p.v (.int 1) Q σ:=by subst h; exact q
set_option tactic.hygienic true in
theorem Yf9 (TO:Yag (T09 w s)) {p:Pt}(hn:p.kids.length≤sizeLine) (q:Q (.ref σ.length) (σ++[.list (p.kids.map Pt.v)])):Yaa (T09 w s) (d+1) X (.glob "within") [p.v] Q σ:=by
 refine Yaa.go TO rfl rfl ?_
 cases p with
 | row ps=>exact Cal.list (vs:=Pt.vs ps) rfl (by rw [Pt.vs_map,Zc]; exact hn) (by rw [Pt.vs_map]; exact q)
 | alt ps=>exact Cal.list (vs:=Pt.vs ps) rfl (by rw [Pt.vs_map,Zc]; exact hn) (by rw [Pt.vs_map]; exact q)
 | _=>exact q
noncomputable def Pt.leaf:Pt→Prop
 | .row _ | .alt _ | .many _ | .nt _=>False
 | z1=>True
theorem Yds (TO:Yag (T09 w s)) {p:Pt}(hg:p.good=true) (hw:p.leaf) (q:Q (.bool true) σ):Yaa (T09 w s) (d+2) X (.glob "is_leaf") [p.v] Q σ:=by
 refine Yaa.go TO rfl rfl ?_
 have sg:∀ {c:Nat}{Q:QE},Yaj c=true→Q (.bool true) σ→Cal (T09 w s) (d+1) X (.glob "is_sign") [.str ⟨#[c]⟩] Q σ:=fun {c Q} hc q=>⟨Yl4 TO hc q⟩
 cases p with
 | any=>exact Cal.lenT rfl q
 | sign c=>exact Cal.lenT rfl (sg hg q)
 | rule n=>exact Cal.lenT rfl (Cal.isi rfl q)
 | span a b =>
   have hg:=Bool.and_eq_true_iff.mp (show (Yaj a && Yaj b && decide (a≤b))=true from hg)
   have h2:=Bool.and_eq_true_iff.mp hg.1
   refine Cal.lenT rfl (sg h2.1 (sg h2.2 (Cal.ord (Cal.ord ?_))))
   show Q (.bool (decide ((a:Int)≤b))) σ
   rw [Zmb (Zhc.mpr (Zgb hg.2))]; exact q
 | row ps=>exact hw.elim
 | alt ps=>exact hw.elim
 | many p=>exact hw.elim
 | nt p=>exact hw.elim
theorem Yr2 {ps:List Pt}{i:Nat}{x:V}(h:(Pt.vs ps)[i]?=some x):∃ p,ps[i]?=some p∧x=p.v:=by
 rw [Pt.vs_map,Zdb,Zpb] at h
 obtain ⟨p,hp,rfl⟩:=h
 exact ⟨p,hp,rfl⟩
theorem Yyq {α:Type}{ps:List α}(h:(!ps.isEmpty)=true):((ps.length:Int) == 0)=false:=by
 cases ps with
 | nil=>cases h
 | cons a r=>exact Zmc.mpr fun e=>nomatch Int.ofNat_inj.mp e
theorem Ymn (TO:Yag (T09 w s)):∀ (n:Nat) (p:Pt) (room:Nat) {X:QX}{Q:QE}{σ:Hp},p.deep≤n→n≤room→p.good=true→Pt.All Pt.few p→Q (.bool true) σ→Yaa (T09 w s) (d+n+2) X (.glob "is_part") [p.v,.int room] Q σ:=by
 intro n
 induction n with
 | zero=>intro p zz X Q σ hn; exact absurd (Za (Pt.deep_pos p) hn) (Nat.not_succ_le_zero 0)
 | succ n ih =>
   intro p room X Q σ hn hr hg hf q
   obtain ⟨hfk,hfc⟩:=hf
   have hkl:p.kids.length < 1000:=hfk
   cases room with
   | zero=>exact absurd hr (Nat.not_succ_le_zero n)
   | succ r =>
   have kid:∀ k∈p.kids,∀ {Q:QE}{σ:Hp},Q (.bool true) σ→k.good=true→Cal (T09 w s) (d+n+2) X (.glob "is_part") [k.v,.int (((r+1:Nat):Int) - 1)] Q σ:=fun k hk {Q σ} q hG =>
     (Int.add_sub_cancel (r:Int) 1).symm▸⟨ih k r (Zcc (Za (Pt.kids_deep hk) hn)) (Zcc hr) hG (hfc k hk) q⟩
   clear ih hr hn hfc hfk
   refine Yaa.go TO rfl rfl ?_
   cases p with
   | many k=>exact Cal.isi rfl<|Cal.lenT rfl<|Cal.isi rfl<|Cal.lenT rfl<|kid k (Zj.mpr rfl) q hg
   | nt k=>exact Cal.isi rfl<|Cal.lenT rfl<|Cal.isi rfl<|Cal.lenT rfl<|kid k (Zj.mpr rfl) q hg
   | row ps =>
     refine Cal.isi rfl<|Cal.lenT rfl<|Cal.isi rfl<|Cal.lenT rfl<|Cal.isi rfl ⟨_,fun i ρ' σ'=>Has ρ' [("room",.int ((r+1:Nat):Int))]∧σ'=σ,⟨⟨rfl,trivial⟩,rfl⟩,fun i ρ' σ' zz=>rfl,fun ρ' σ' h=>h.2▸q,fun i x ρ' σ' hJ hx=>(Yr2 hx).elim fun k hk=>?_⟩
     rw [hk.2,hJ.2,← hJ.1.eq]
     exact ⟨_,rfl,Ya5 TO rfl 60 _ _ _ _ (kid k (Zn hk.1) ⟨⟨rfl,trivial⟩,rfl⟩ (Pt.goods_mem hg (Zn hk.1)))⟩
   | alt ps =>
     have hg:=Bool.and_eq_true_iff.mp (show (!ps.isEmpty && Pt.goods ps)=true from hg)
     refine Cal.isi rfl<|Cal.lenT rfl<|Cal.isi rfl<|Cal.lenT rfl<|Cal.isi rfl<|Cal.len (n:=ps.length) (Yf5 (by rw [Pt.vs_map,Zc])) (Nat.lt_trans hkl (by decide))<|Br.f (Yyq hg.1) ⟨_,fun i ρ' σ'=>Has ρ' [("room",.int ((r+1:Nat):Int))]∧σ'=σ,⟨⟨rfl,trivial⟩,rfl⟩,fun i ρ' σ' zz=>rfl,fun ρ' σ' h=>h.2▸q,fun i x ρ' σ' hJ hx=>(Yr2 hx).elim fun k hk=>?_⟩
     rw [hk.2,hJ.2,← hJ.1.eq]
     exact ⟨_,rfl,Ya5 TO rfl 60 _ _ _ _ (kid k (Zn hk.1) ⟨⟨rfl,trivial⟩,rfl⟩ (Pt.goods_mem hg.2 (Zn hk.1)))⟩
   | any=>exact Cal.isi rfl<|Cal.lenT rfl<|Cal.isi rfl<|Cal.mk<|Yds (d:=d+n) (p:=.any) TO hg trivial q
   | sign c=>exact Cal.isi rfl<|Cal.lenT rfl<|Cal.isi rfl<|Cal.mk<|Yds (d:=d+n) (p:=.sign c) TO hg trivial q
   | rule c=>exact Cal.isi rfl<|Cal.lenT rfl<|Cal.isi rfl<|Cal.mk<|Yds (d:=d+n) (p:=.rule c) TO hg trivial q
   | span a b=>exact Cal.isi rfl<|Cal.lenT rfl<|Cal.isi rfl<|Cal.mk<|Yds (d:=d+n) (p:=.span a b) TO hg trivial q
end
section
variable {w:World}{s:Shared}{d:Nat}{X:QX}{Q:QE}{σ:Hp}
theorem Pt.sizes_len:∀ st:List Pt,st.length≤Pt.sizes st
 | []=>Zkb _
 | a::r=>Za (Zcb (Pt.sizes_len r) (Pt.size_pos a)) (Zr (Nat.add_comm ..))
theorem sz5 {a b c n:Nat}(h:a≤b) (g:c+b≤n) (k:n < 100000):a < 100000:=Zk (Za h (Za (Ztb ..) g)) k
theorem sz6 {n:Nat}(h:n < 100000):n < sizeLine:=Zz h (szo (by decide))
inductive Y0n (p:Pt) (σ:Hp) (n:Nat) (ρ':Loc) (σ':Hp):Prop where
 | mk (ns:List Str) (st:List Pt) (junk:Hp) (q0:n=Pt.sizes st) (q1:ns.length+Pt.sizes st≤p.size) (q2:∀ n∈ns,p.Asks n) (q3:∀ t∈st,Pt.All Pt.few t∧∀ n,t.Asks n→p.Asks n) (q4:∀ n,p.Asks n→n∈ns∨∃ t∈st,t.Asks n)
     (q5:σ'=σ++.list (ns.map .str)::.list (st.map Pt.v)::junk) (q6:Has ρ' [("found",.ref σ.length),("waiting",.ref (σ.length+1))]):Y0n p σ n ρ' σ'
theorem Pt.asks_kids {t:Pt}{n:Str}(h:t.Asks n):t=.rule n∨∃ k∈t.kids,k.Asks n:=by
 cases h with
 | here=>exact .inl rfl
 | deep hm hk=>exact .inr ⟨_,hm,hk⟩
theorem Pt.All.out {P:Pt→Prop}{p:Pt}(h:Pt.All P p):P p∧∀ q∈p.kids,Pt.All P q:=h.rec fun a b zz=>⟨a,b⟩
theorem sz7 {a b i k t n:Nat}(h2:a≤b+1) (h:k < t) (g:b+(i+t)≤n):a+(i+k)≤n:=Za (Zac h2 _) (Za (Zr (Nat.succ_add_eq_add_succ b (i+k))) (Za (Zzb (Nat.add_lt_add_left h i) b) g))
theorem Yjy (TO:Yag (T09 w s)) {p:Pt}(hfew:Pt.All Pt.few p) (hs:p.size < 100000) (q:∀ (ns:List Str) (junk:Hp),(∀ n,n∈ns↔p.Asks n)→ns.length≤p.size→Q (.ref σ.length) (σ++.list (ns.map .str)::junk)):Yaa (T09 w s) (d+2) X (.glob "rules_in") [p.v] Q σ:=by
 refine Yaa.go TO rfl rfl ?_
 refine Stx.mk<|Ybe.while (Y0n p σ) p.size ⟨[],[p],[],rfl,Zr (Nat.zero_add _),(by intros; contradiction),fun t ht=>by cases Zj.mp ht; exact ⟨hfew,fun zz h=>h⟩,fun n hn=>.inr ⟨p,.head _,hn⟩,Ze ..,⟨rfl,congrArg (fun n=>some (V.ref n)) Zf,trivial⟩⟩ ?_
 refine fun n ρ' σ' hJ=>hJ.rec fun ns st junk hn hsz hns hst hall hσ hρ=>?_
 apply Has.on hρ
 have hsl:=Pt.sizes_len st
 refine (List.eq_nil_or_concat st).elim (fun es=>?_) fun hh=>hh.elim fun init hh=>hh.elim fun t es=>?_
 · rw [es] at hσ hall hsz
   apply Yao hσ
   exact Yd7 TO rfl 40 10 _ _ _<|tvc.of (b:=false) (Ycq Yif (by decide))<|Ykt (by decide)<|q ns _ (fun n=>⟨hns n,fun hn=>(hall n hn).elim id fun h=>h.elim fun t h=>absurd h.1 Zdc⟩) hsz
 rw [List.concat_eq_append] at es
 rw [es] at hsz hst hall hσ hn hsl
 apply Yao hσ
 refine Yd7 TO rfl 40 10 _ _ _<|tvc.of (b:=true) (Ydx Yif (by rw [Zc]; exact Nat.lt_trans (sz5 hsl hsz hs) (by decide)) (by simp))<|Yh3 rfl ?_
 have hsz1:Pt.sizes (init++[t])=Pt.sizes init+t.size:=Pt.sizes_append ..
 have hil:=Pt.sizes_len init
 have hst':=hst t (Zyb _ (Zj.mpr rfl))
 have hta:=hst'.2
 have hfk:=hst'.1.out.1
 have hfc:=hst'.1.out.2
 have htp:=Pt.size_pos t
 have hkl:t.kids.length < 1000:=hfk
 have hks:=Pt.kids_size t
 refine Ya5 TO rfl 60 _ _ _ _<|Yak.pop Yif<|Cal.mk<|Yaa.pop (v:=t.v) (vs:=init.map Pt.v) (by rw [Yif,Zfc]; rfl) (by rw [Zc]; exact sz6 (sz5 hil (Za (Zzb (hsz1▸Zy ..) _) hsz) hs)) ?_
 rw [Ywd]
 have fin:∀ {ns':List Str},(∀ n∈ns',p.Asks n)→ns'.length≤ns.length+1→(∀ n∈ns,n∈ns')→(∀ n,t=.rule n→n∈ns')→∃ m,m < n∧Y0n p σ m (Yr9 ρ' [("found",.ref σ.length),("waiting",.ref (σ.length+1))] |> fun ρ=>upd ρ "one" (some t.v)) (σ++.list (ns'.map .str)::.list ((init++t.kids).map Pt.v)::(junk++[.list (t.kids.map Pt.v)])):=fun {ns'} h1 h2 h3 h4 =>
   ⟨Pt.sizes (init++t.kids),by rw [hn,hsz1,Pt.sizes_append]; exact Nat.add_lt_add_left hks _,ns',init++t.kids,_,rfl,by rw [Pt.sizes_append]; exact sz7 h2 hks (hsz1▸hsz),h1,fun u hu=>(Zm.mp hu).elim (fun hu=>hst u (Zxb _ hu)) fun hu=>⟨hfc u hu,fun n hn=>hta n (.deep hu hn)⟩,
     fun n hn=>(hall n hn).elim (fun h=>.inl (h3 n h)) fun ⟨u,hu,hn⟩=>(Zm.mp hu).elim (fun hu=>.inr ⟨u,Zxb _ hu,hn⟩) fun hu=>by
       cases Zj.mp hu
       exact (Pt.asks_kids hn).elim (fun h=>.inl (h4 n h)) fun hh1=>by obtain ⟨k,hk,hn⟩:=hh1; exact .inr ⟨k,Zyb _ hk,hn⟩,rfl,⟨rfl,rfl,trivial⟩⟩
 have fin2:∀ {ns':List Str}{K:QE},(K .none (σ++.list (ns'.map .str)::.list ((init++t.kids).map Pt.v)::(junk++[.list (t.kids.map Pt.v)])))→Cal (T09 w s) (d+1) X (.bi "list.extend") [.ref (σ.length+1),.ref (σ++.list (ns'.map .str)::.list (init.map Pt.v)::junk).length] K ((σ++.list (ns'.map .str)::.list (init.map Pt.v)::junk)++[.list (t.kids.map Pt.v)]):=fun {ns' K} k =>
   ⟨Yaa.extend (vs:=init.map Pt.v) (us:=t.kids.map Pt.v) (by rw [Ze]; exact Yif) Yac (by rw [Zc,Zc]; exact szo (Za (Zcb (Zq (sz5 hil (Za (Zzb (hsz1▸Zy ..) _) hsz) hs)) (Zq hkl)) (by decide))) (by
     rw [Ze,List.cons_append,List.cons_append,Ywd,← Zfc]; exact k)⟩
 have wi:∀ {σ':Hp}{K:QE},K (.ref σ'.length) (σ'++[.list (t.kids.map Pt.v)])→Cal (T09 w s) (d+1) X (.glob "within") [t.v] K σ':=fun {σ' K} k=>⟨Yf9 TO (szo (by (clear k fin fin2 q hks; exact Zq (Nat.lt_trans hfk (Ztb (Nat.succ 1000) 16776215))))) k⟩
 refine Ydi.tag<|Br.mk (fun h=>?_) fun h=>?_
 · refine (Pt.tag_rule h).elim fun n hn=>?_
   refine Yak.append Ye0<|Ydi.rule hn<|Cal.mk<|Yaa.append (vs:=ns.map .str) Ye0 (by rw [Zc]; exact Zq (sz6 (Zk (Za (Zy ..) hsz) hs))) ?_
   rw [Yq9,show ns.map V.str++[V.str n]=(ns++[n]).map V.str by simp]
   exact Yak.extend Yif<|wi<|fin2<|fin (fun m hm=>(Zm.mp hm).elim (hns m) fun h=>by cases Zj.mp h; exact hta _ (hn▸.here)) (by simp) (fun m hm=>Zxb _ hm) fun m hm=>by rw [hn] at hm; cases hm; simp
 · exact Yak.extend Yif<|wi<|fin2<|fin hns (Nat.le_succ _) (fun zz h=>h) fun n e=>by rw [e] at h; exact (Zv h.symm).elim
end
section
variable {w:World}{s:Shared}{d:Nat}{X:QX}{Q:QE}{σ:Hp}
theorem Cmp.strs {neg b:Bool}{x y:Str}(h:Yq0 x y=b) (q:Q (.bool (neg != b)) σ):Cmp (if neg then .NotIn else .In) (.str x) (.str y) Q σ:=.inR (h▸.str x y) q
theorem Ymj (TO:Yag (T09 w s)) {x:Str}(hx:Yel x=true) (q:∀ junk,Q (.bool true) (σ++junk)):Yaa (T09 w s) (d+1) X (.glob "is_name") [.str x] Q σ:=by
 simp only [Yel,Zob,decide_eq_true_eq] at hx
 obtain ⟨⟨h1,h12⟩,hall⟩:=hx
 refine Yaa.go TO rfl rfl ?_
 refine Cal.isi (b:=true) rfl<|Cal.len rfl (by clear h1 hall; exact Zk (by assumption) (by decide))<|Br.t (Zmb (by clear hall; lia))<|Br.f (by rw [Zmb (by clear hall; lia)]; rfl) ⟨x.cps.toList.map fun c=>.str ⟨#[c]⟩,fun i acc σ'=>acc=[]∧σ'=σ,⟨rfl,rfl⟩,fun i acc σ' hJ=>⟨rfl,by rw [hJ.1]; exact Zkb _⟩,fun acc σ' hJ=>?_,fun i y acc σ' hJ hy=>?_⟩
 · rw [hJ.1,hJ.2]
   exact Cal.len (n:=0) (Ylm (vs:=[]) Yac) (by decide) (q _)
 · rw [Zdb,Zpb] at hy
   refine hy.elim fun c hh=>?_
   have hc:=hh.1
   apply Yao hJ.2
   apply Yao hJ.1
   apply Yao hh.2.symm
   exact Yd7 TO rfl 40 10 _ _ _<|Cmp.strs (neg:=true) (Yof (List.all_eq_true.mp hall c (Zn hc))) ⟨rfl,rfl⟩
theorem Ydf {α:Type}{f:α→V}{rs:List α}{i:Nat}{x:V}(h:(rs.map f)[i]?=some x):∃ r,rs[i]?=some r∧x=f r:=by
 rw [Zdb,Zpb] at h
 obtain ⟨r,hr,rfl⟩:=h
 exact ⟨r,hr,rfl⟩
theorem Cmp.met {neg:Bool}{n:Str}{l:Nat}{ns:List Str}(hl:σ[l]?=some (.sdict (Ydk ns))) (q:Q (.bool (neg != decide (n∈ns))) σ):Cmp (if neg then .NotIn else .In) (.str n) (.ref l) Q σ:=.inR (.dict _ _ _ hl) (by rw [Yga]; exact q)
inductive Y0w (l:Nat) (σ:Hp) (ns:List Str) (ρ':Loc) (σ':Hp):Prop where
 | mk (q0:Has ρ' [("rules",.ref l),("met",.ref σ.length)]) (junk:Hp) (q2:σ'=σ++.sdict (Ydk ns)::junk):Y0w l σ ns ρ' σ'
theorem Yib (TO:Yag (T09 w s)) {l:Nat}{rs:List (Str×Pt)}(hl:σ[l]?=some (.list (rs.map Ybi))) (hg:Yax rs) (q:∀ junk,Q .none (σ++junk)):Yaa (T09 w s) (d+16) X (.glob "need_rules") [.ref l] Q σ:=by
 have hm:=hg.most
 have h1:=hg.one
 refine Yaa.go TO rfl rfl ?_
 refine Cal.isi (b:=true) (Yfo hl)<|Cal.len (n:=rs.length) (Yd0 hl (Zc _)) (Zk hm (by decide))<|Br.t (Zmb (Zhc.mpr h1))<|Br.f (by rw [Zmb (show (rs.length:Int)≤40 from Zhc.mpr hm)]; rfl)
   ⟨rs.map Ybi,fun i=>Y0w l σ ((rs.take i).map (·.1)),⟨⟨rfl,rfl,trivial⟩,[],rfl⟩,fun i ρ' σ' hJ=>hJ.rec fun zz junk e=>e▸Yav (Yab hl),fun ρ' σ' hJ=>hJ.rec fun hρ junk e=>?_,fun i x ρ' σ' hJ hx=>hJ.rec fun hρ junk e=>(Ydf hx).elim fun r hh=>?_⟩
 · rw [Zc,Zgc] at e
   apply Yao e
   apply Has.on hρ
   refine ⟨rs.map Ybi,fun i=>Y0w l σ (rs.map (·.1)),⟨⟨rfl,rfl,trivial⟩,junk,rfl⟩,fun i ρ₂ σ₂ hJ=>hJ.rec fun zz jk e=>e▸Yav (Yab hl),fun ρ₂ σ₂ hJ=>hJ.rec fun zz jk e=>e▸q _,fun i x ρ₂ σ₂ hJ hx=>hJ.rec fun hρ jk e2=>(Ydf hx).elim fun r hh=>?_⟩
   · have hr:=hh.1
     apply Yao e2
     apply Yao hh.2
     apply Has.on hρ
     have hG:=hg.all r (Zn hr)
     refine ⟨_,rfl,Ya5 TO rfl 60 _ _ _ _<|Cal.mk<|Yjy (d:=d+13) TO hG.few hG.size fun ns jk2 hns hln=>⟨ns.map .str,fun zz ρ₃ σ₃=>Has ρ₃ [("rules",.ref l),("met",.ref σ.length)]∧σ₃=(σ++.sdict (Ydk (rs.map (·.1)))::jk)++.list (ns.map .str)::jk2,⟨⟨rfl,rfl,trivial⟩,rfl⟩,fun i ρ₃ σ₃ hJ=>?_,fun ρ₃ σ₃ hJ=>?_,fun i y ρ₃ σ₃ hJ hy=>?_⟩⟩
     · rw [hJ.2]; exact Yav Ye0
     · exact ⟨hJ.1,jk++.list (ns.map .str)::jk2,by rw [hJ.2,Ze,List.cons_append]⟩
     · refine (Ydf hy).elim fun n hh=>?_
       have hn:=hh.1
       apply Yao hJ.2
       apply Yao hh.2
       apply Has.on hJ.1
       have hin:=hG.asks n ((hns n).mp (Zn hn))
       refine ⟨_,rfl,Ya5 TO rfl 60 _ _ _ _<|Cmp.met (neg:=true) (ns:=rs.map (·.1)) (by rw [Ze,List.cons_append]; exact Ye0)<|Br.f (by rw [Zmb hin]; rfl) ⟨⟨rfl,rfl,trivial⟩,rfl⟩⟩
 · have hr:=hh.1
   apply Yao e
   apply Yao hh.2
   apply Has.on hρ
   have hG:=hg.all r (Zn hr)
   have hnew:r.1∉(rs.take i).map (·.1):=Ydt hg.nodup hr
   refine ⟨_,rfl,Ya5 TO rfl 60 _ _ _ _<|Cal.isi rfl<|Cal.lenT rfl<|Cal.mk<|Ymj TO hG.name fun jk=>?_⟩
   rw [Ze,List.cons_append]
   refine Cmp.met (neg:=false) (ns:=(rs.take i).map (·.1)) Ye0<|Br.f (by rw [Zrc hnew]; rfl)<|Cal.mk<|Ymn (d:=d+1) TO 12 r.2 12 hG.deep (Zl _) hG.good hG.few<|Yas.mk _ _ _ rfl rfl Ye0 (by rw [Ydk,Zc,Zc]; exact szo (Za (Zic ..) (Za hm (by decide)))) ?_
   rw [Yq9,Yft hnew]
   refine ⟨⟨rfl,rfl,trivial⟩,junk++jk,?_⟩
   rw [Ya3 hr,Zfc]; rfl
end
section
variable {w:World}{s:Shared}{d:Nat}
theorem Yuv {B:Str→Bool}{ps:List Pt}:Pt.may B (.row ps)=(ps.map (Pt.may B)).all id:=by rw [Pt.may4,Pt.mayAll_eq,List.all_map]; rfl
theorem Yut {B:Str→Bool}{ps:List Pt}:Pt.may B (.alt ps)=(ps.map (Pt.may B)).any id:=by rw [Pt.may5,Pt.mayAny_eq,List.any_map]; rfl
theorem Cmp.keys {n:Str}{l:Nat}{kvs:List (Str×V)}{Q:QE}{σ:Hp}(hl:σ[l]?=some (.sdict kvs)) (q:Q (.bool (Ygn kvs n)) σ):Cmp .In (.str n) (.ref l) Q σ:=.inD hl rfl q
theorem Ysz (TO:Yag (T09 w s)) {b:Nat}{kvs:List (Str×V)}:∀ (n:Nat) (p:Pt) {X:QX}{Q:QE}{σ:Hp},p.deep≤n→Pt.All Pt.few p→σ[b]?=some (.sdict kvs)→(∀ junk,Q (.bool (p.may (Ygn kvs))) (σ++junk))→Yaa (T09 w s) (d+n+1) X (.glob "may_be_empty") [p.v,.ref b] Q σ:=by
 intro n
 induction n with
 | zero=>intro p X Q σ hn; exact absurd (Za (Pt.deep_pos p) hn) (Nat.not_succ_le_zero 0)
 | succ n ih =>
   intro p X Q σ hn hf hb q
   have q0:Q (.bool (p.may (Ygn kvs))) σ:=Zlc σ▸q []
   have hfk:=hf.out.1
   have hfc:=hf.out.2
   have hkl:p.kids.length < 1000:=hfk
   refine Yaa.go TO rfl rfl ?_
   have run:∀ {sc:Scope}{scope:Scope}{ρ:Loc}{elt:Expr}{K:QE},(∀ jk,K (.ref (σ++.list (p.kids.map Pt.v)::jk).length) (σ++.list (p.kids.map Pt.v)::jk++[.list (p.kids.map fun k=>V.bool (k.may (Ygn kvs)))])) →
       (∀ (k:Pt) {Z:QE}{σ':Hp},Cal (T09 w s) (d+n+1) X (.glob "may_be_empty") [k.v,.ref b] Z σ'→Yai (T09 w s) (d+n+1) (Yfa scope sc) (upd (Ybc scope ρ) "one" (some k.v)) X elt Z σ') →
       Ybv (T09 w s) (d+n+1) sc ρ X scope "one" [] elt K (.ref σ.length) (σ++[.list (p.kids.map Pt.v)]):=fun {sc scope ρ elt K} hK he =>
     ⟨p.kids.map Pt.v,fun i acc σ'=>acc=(p.kids.take i).map (fun k=>V.bool (k.may (Ygn kvs)))∧∃ junk,σ'=σ++.list (p.kids.map Pt.v)::junk,⟨rfl,[],rfl⟩,fun i acc σ' hJ=>⟨hJ.2.elim fun junk e=>e▸Yav Ye0,by rw [hJ.1,Zc]; exact szo (Za (Zic ..) (Za (Zq hkl) (by decide)))⟩,fun acc σ' hJ=>hJ.2.elim fun junk e=>by
       rw [hJ.1,e,Zc,Zgc]
       exact hK junk,fun i y acc σ' hJ hy=>hJ.2.elim fun junk e=>(Ydf hy).elim fun k hh=>by
       have hk:=hh.1
       have hm:=Zn hk
       rw [e,hh.2]
       exact he k ⟨ih k (Zcc (Za (Pt.kids_deep hm) hn)) (hfc k hm) (Yab hb) fun jk=>⟨by rw [hJ.1,Ya3 hk,Zfc]; rfl,junk++jk,by rw [Ze,List.cons_append]⟩⟩⟩
   have wi:∀ {K:QE},K (.ref σ.length) (σ++[.list (p.kids.map Pt.v)])→Cal (T09 w s) (d+n+1) X (.glob "within") [p.v] K σ:=fun {K} k=>⟨Yf9 (d:=d+n) TO (szo (Za (Zq hkl) (by decide))) k⟩
   have el:∀ {ps:List Pt}{σ:Hp}{l:Nat},σ[l]?=some (.list (ps.map fun k=>V.bool (k.may (Ygn kvs))))→σ[l]?=some (.list ((ps.map (Pt.may (Ygn kvs))).map V.bool)):=fun h=>(Ysi _ _)▸h
   cases p with
   | many p=>exact q0
   | nt p=>exact q0
   | rule m=>exact Cmp.keys hb q0
   | row ps =>
     refine wi<|run (fun jk=>Cal.mk (Yaa.all (el Yac) ?_)) fun k Z σ' h=>Yc9 TO rfl 40 _ _ _ h
     have:=q (.list (ps.map Pt.v)::jk++[.list (ps.map fun k=>V.bool (k.may (Ygn kvs)))])
     rw [Yuv,← Ze] at this
     exact this
   | alt ps =>
     refine wi<|run (fun jk=>Cal.mk (Yaa.any (el Yac) ?_)) fun k Z σ' h=>Yc9 TO rfl 40 _ _ _ h
     have:=q (.list (ps.map Pt.v)::jk++[.list (ps.map fun k=>V.bool (k.may (Ygn kvs)))])
     rw [Yut,← Ze] at this
     exact this
   | sign c =>
     refine wi<|run (fun jk=>?_) fun k Z σ' h=>Yc9 TO rfl 40 _ _ _ h
     have:=q (.list []::jk++[.list []])
     rw [← Ze] at this
     exact this
   | span a b =>
     refine wi<|run (fun jk=>?_) fun k Z σ' h=>Yc9 TO rfl 40 _ _ _ h
     have:=q (.list []::jk++[.list []])
     rw [← Ze] at this
     exact this
   | any =>
     refine wi<|run (fun jk=>?_) fun k Z σ' h=>Yc9 TO rfl 40 _ _ _ h
     have:=q (.list []::jk++[.list []])
     rw [← Ze] at this
     exact this
end
section
variable {w:World}{s:Shared}{d:Nat}
theorem Yvh {α:Type}{l:List α}{i:Nat}{k:α}(hk:l[i]?=some k):l.drop i=k::l.drop (i+1):=by
 obtain ⟨hi,e⟩:=Zb.mp hk
 rw [← e]; exact List.drop_eq_getElem_cons hi
theorem Yse {σ:Hp}{a o:Yaq}{n:Nat}(h:n=σ.length+1):(σ++[a]++[o])[n]?=some o:=by rw [h]; exact (Zf (as:=σ) (bs:=[a]))▸Yac
inductive Yz8 (p:Pt) (b:Nat) (σ:Hp) (B:Str→Bool) (i:Nat) (ρ':Loc) (σ':Hp):Prop where
 | mk (r:Nat) (acc:List Str) (junk:Hp) (q0:Has ρ' [("found",.ref r),("part",.tup (.str p.word::p.rest)),("bare",.ref b)]) (q3:σ.length≤r) (q4:σ'=σ++junk) (q7:σ'[σ.length+1]?=some (.list (p.kids.map Pt.v))) (q5:σ'[r]?=some (.list (acc.map V.str))) (q6:acc++Ymv B (p.word == "row") (p.kids.drop i)=Ymv B (p.word == "row") p.kids):Yz8 p b σ B i ρ' σ'
theorem Yrh (TO:Yag (T09 w s)) {b:Nat}{kvs:List (Str×V)}:∀ (n:Nat) (p:Pt) {X:QX}{Q:QE}{σ:Hp},p.deep≤n→p.size < 100000→Pt.All Pt.few p→σ[b]?=some (.sdict kvs) →
   (∀ r junk,σ.length≤r→(σ++junk)[r]?=some (.list ((p.ahd (Ygn kvs)).map V.str))→Q (.ref r) (σ++junk))→Yaa (T09 w s) (d+n+1) X (.glob "ahead") [p.v,.ref b] Q σ:=by
 intro n
 induction n with
 | zero=>intro p X Q σ hn; exact absurd (Za (Pt.deep_pos p) hn) (Nat.not_succ_le_zero 0)
 | succ n ih =>
   intro p X Q σ hn hsz hf hb q
   have hfk:=hf.out.1
   have hfc:=hf.out.2
   have hkl:p.kids.length < 1000:=hfk
   rw [p.head]
   refine Yaa.go TO rfl rfl ?_
   by_cases h3:p.word = "rule"
   · obtain ⟨m,rfl⟩:=Pt.word_rule h3
     exact q _ _ (Zl _) Yac
   have wi:∀ {σ':Hp}{K:QE},K (.ref σ'.length) (σ'++[.list (p.kids.map Pt.v)])→Cal (T09 w s) (d+n+1) X (.glob "within") [.tup (.str p.word::p.rest)] K σ':=fun {σ' K} k=>⟨by rw [← p.head]; exact Yf9 (d:=d+n) TO (szo (Zq (Nat.lt_trans hfk (by decide)))) k⟩
   refine Br.f (Zmc.mpr h3)<|wi ?_
   have htot:(Ymv (Ygn kvs) (p.word == "row") p.kids).length≤p.size:=Pt.ahd_kids (B:=Ygn kvs) h3▸Pt.ahd_size _ _
   have done:∀ {r:Nat}{acc:List Str}{jk σ':Hp},σ'=σ++jk→σ.length≤r→σ'[r]?=some (.list (acc.map V.str))→acc=Ymv (Ygn kvs) (p.word == "row") p.kids→Q (.ref r) σ':=fun {r acc jk σ'} e h1 h2 h3'=>by
     rw [h3',← Pt.ahd_kids h3,e] at h2
     rw [e]; exact q r _ h1 h2
   clear q
   refine ⟨p.kids.map Pt.v,Yz8 p b σ (Ygn kvs),⟨σ.length,[],[.list [],.list (p.kids.map Pt.v)],⟨rfl,rfl,rfl,trivial⟩,Zl _,Ze ..,Yse rfl,Yab Yac,rfl⟩,fun i ρ' σ' hJ=>?_,fun ρ' σ' hJ=>?_,fun i x ρ' σ' hJ hx=>?_⟩
   · exact hJ.rec fun r acc junk zz zz zz h7 zz zz=>Yav (Zf (as:=σ) (bs:=[Yaq.list []])▸h7)
   · refine hJ.rec fun r acc junk a1 a4 a3 a7 a5 a6=>?_
     apply Has.on a1
     rw [Zc,List.drop_length,Yiq,Zlc] at a6
     exact done a3 a4 a5 a6
   · refine hJ.rec fun r acc junk a1 a4 a3 a7 a5 a6=>(Ydf hx).elim fun k hkx=>?_
     have hk:=hkx.1
     apply Yao hkx.2
     apply Has.on a1
     clear hkx hx a1 hJ
     have hm:=Zn hk
     have hkd:k.deep≤n:=Zcc (Za (Pt.kids_deep hm) hn)
     rw [Yvh hk,Yov,← Ze] at a6
     have hlen:(acc++k.ahd (Ygn kvs)).length≤p.size:=Za (Zf▸Zy ..) (a6▸htot)
     have hsl:(acc++k.ahd (Ygn kvs)).length≤sizeLine:=szo (Za (Zq (Zk hlen hsz)) (by decide))
     have hb':σ'[b]?=some (.sdict kvs):=a3▸Yab hb
     refine ⟨_,rfl,Ya5 TO rfl 60 _ _ _ _<|Cal.mk<|ih k hkd (Nat.lt_trans (Pt.size_mem hm) hsz) (hfc k hm) hb' fun r2 jk hr2 hl2=>Bin.lists (Yab a5) hl2 (by rw [Zc,Zc,← Zf]; exact hsl) ?_⟩
     rw [← Zfc]
     generalize acc++k.ahd (Ygn kvs)=acc2 at a6
     have e2:σ'++jk=σ++(junk++jk):=a3▸Ze ..
     have h7:(σ'++jk)[σ.length+1]?=some (.list (p.kids.map Pt.v)):=Yab a7
     have hb2:(σ'++jk)[b]?=some (.sdict kvs):=Yab hb'
     clear hl2 hr2 a7 a5 a3 hlen hsl hb'
     generalize σ'++jk=σ2 at e2 h7 hb2 ⊢
     have hle:σ.length≤σ2.length:=by rw [e2,Zf]; exact Zy ..
     have hap:∀ {j3:Hp},σ2++[Yaq.list (acc2.map V.str)]++j3=σ++(junk++jk++[Yaq.list (acc2.map V.str)]++j3):=by
       intro j3; rw [e2]; simp only [Ze]
     have next:∀ {j3:Hp}{ρ:Loc},Has ρ [("found",.ref σ2.length),("part",.tup (.str p.word::p.rest)),("bare",.ref b)]→acc2++Ymv (Ygn kvs) (p.word == "row") (p.kids.drop (i+1))=Ymv (Ygn kvs) (p.word == "row") p.kids→Yz8 p b σ (Ygn kvs) (i+1) ρ (σ2++[Yaq.list (acc2.map V.str)]++j3):=fun {j3 ρ} h1 h2=>⟨_,acc2,_,h1,hle,hap,Yab (Yab h7),Yab Yac,h2⟩
     by_cases h4:p.word = "row"
     · have e4:(p.word == "row")=true:=beq_iff_eq.mpr h4
       rw [e4] at a6 done next
       refine Br.t e4<|Cal.mk<|Ysz (d:=d) TO n k hkd (hfc k hm) (Yab hb2) fun jk3=>Br.mk (fun hm=>?_) fun hm=>?_
       · rw [Bool.not_eq_true'] at hm
         rw [hm] at a6
         exact done hap hle (Yab Yac) ((Zlc _).symm.trans a6)
       · rw [Bool.not_eq_false'] at hm
         rw [hm] at a6
         exact next ⟨rfl,rfl,rfl,trivial⟩ a6
     · have e4:(p.word == "row")=false:=Zmc.mpr h4
       have this:=next (j3:=[]) (ρ:=upd (upd (Yr9 ρ' [("found",.ref r),("part",.tup (.str p.word::p.rest)),("bare",.ref b)]) "one" (some k.v)) "found" (some (.ref σ2.length))) ⟨rfl,rfl,rfl,trivial⟩ (by rw [e4] at a6 ⊢; exact a6)
       rw [Zlc] at this
       exact Br.f e4 this
end
section
variable {w:World}{s:Shared}{d:Nat}{X:QX}{Q:QE}{σ:Hp}
noncomputable def Yex (T:Tp) (C:Addr) (x:Str):Prop:=∃ fa,PySem.W.findIn T.K (.ref C) x=some (some (.ref fa))∧PySem.W.typeIn T.K (.ref fa)=some (.type "function")∧PySem.W.keepIn T.K (.ref fa)=true
noncomputable def Ydm (T:Tp) (C:Addr) (x:Str):Prop:=PySem.W.findIn T.K (.ref C) x=some none∧PySem.W.takerIn T.K C x=some none
structure Y0k (T:Tp) (C:Addr):Prop where
 cls:Ye9 T "Grammar" C
 pairs:Ydm T C "pairs"
 table:Ydm T C "table"
 bare:Ydm T C "bare"
 leads:Ydm T C "leads"
 comes_back:Yex T C "comes_back"
 need:Yex T C "need"
 names:Yex T C "names"
 part:Yex T C "part"
 asked:Yex T C "asked"
theorem Yg3:∃ C,Y0k (T09 w s) C:=⟨_,⟨rfl,rfl,rfl,rfl,rfl,rfl⟩,⟨rfl,rfl⟩,⟨rfl,rfl⟩,⟨rfl,rfl⟩,⟨rfl,rfl⟩,⟨_,rfl,rfl,rfl⟩,⟨_,rfl,rfl,rfl⟩,⟨_,rfl,rfl,rfl⟩,⟨_,rfl,rfl,rfl⟩,⟨_,rfl,rfl,rfl⟩⟩
theorem Yak.own {T:Tp}{l:Nat}{c name:Str}{gs:List (Str×V)}{C:Addr}{K:V→Prop}(h1:σ[l]?=some (.inst c gs)) (h2:gs.lookup name=none) (hc:Ye9 T c C) (hf:Yex T C name) (k:K (.mth c name)):Yak T (.ref l) name σ K:=by
 obtain ⟨fa,h3,h4,h5⟩:=hf
 exact ⟨_,.mth l c gs C fa h1 h2 hc h3 h4 h5,k⟩
theorem Yae.of {T:Tp}{l:Nat}{c attr:Str}{gs:List (Str×V)}{C:Addr}{v:V}(h1:σ[l]?=some (.inst c gs)) (h2:gs.lookup attr=some v) (h3:Yp2 v=true) (hc:Ye9 T c C) (hf:Ydm T C attr) (q:Q v σ):Yae T attr Q (.ref l) σ:=⟨l,c,gs,v,C,rfl,h1,h2,h3,hc,hf.1,q⟩
theorem Yam.of {T:Tp}{l:Nat}{c attr:Str}{gs:List (Str×V)}(gs':List (Str×V)) {C:Addr}{v:V}{ρ:Loc}{K:QS}(h1:σ[l]?=some (.inst c gs)) (hc:Ye9 T c C) (hf:Ydm T C attr) (h4:gs.length < 1000) (e:Yca gs attr v=gs') (q:K .next ρ (σ.set l (.inst c gs'))):Yam T attr ρ K v (.ref l) σ:=⟨l,c,gs,C,rfl,h1,hc,hf.2,h4,by rw [e]; exact q⟩
theorem Yam.to {T:Tp}{l:Nat}{c attr:Str}{gs:List (Str×V)}(gs':List (Str×V)) {C:Addr}{v:V}{ρ:Loc}{K:QS}(h1:σ[l]?=some (.inst c gs)) (hc:Ye9 T c C) (hf:Ydm T C attr) (h4:gs.length < 1000) (e:Yca gs attr v=gs') {σ':Hp}(es:σ.set l (.inst c gs')=σ') (q:K .next ρ σ'):Yam T attr ρ K v (.ref l) σ:=Yam.of gs' h1 hc hf h4 e (es.symm▸q)
theorem Yas.of {l:Nat}{k:Str}{kvs:List (Str×V)}{v:V}{ρ:Loc}{K:QS}(h1:σ[l]?=some (.sdict kvs)) (h2:kvs.length≤1000000) (q:K .next ρ (σ.set l (.sdict (Yca kvs k v)))):Yas ρ K v (.ref l) (.str k) σ:=.mk l k kvs rfl rfl h1 (szo (by exact Zq (Zk h2 (Ztb (Nat.succ 1000000) 15777215)))) q
theorem Itm.dict {l:Nat}{k:Str}{kvs:List (Str×V)}{v:V}(h1:σ[l]?=some (.sdict kvs)) (h2:Yjo kvs k=some v) (q:Q v σ):Itm (.ref l) (.str k) Q σ:=⟨⟨v,.dict _ _ _ _ h1 h2,q⟩⟩
theorem Yk2 {m r x:Nat}(hx:x≤(m+1)*100000) (hm:m≤r) (hr:r≤40):x≤4100000:=Za hx (Zvb 100000 (Zwb (Za hm hr)))
theorem Yt1 {r m i a:Nat}(h:m+1≤r) (ha:a < 100000):(r - (m+1))*100001+(i+a) < (r - m)*100001+(i+1):=by
 obtain ⟨k,rfl⟩:=Nat.exists_eq_add_of_le h
 rw [Zuc,show m+1+k - m=k+1 by rw [Nat.add_assoc,Zuc,Nat.add_comm],Nat.succ_mul,Nat.add_assoc]
 refine Nat.add_lt_add_left ?_ _
 rw [Nat.add_comm i a,Nat.add_comm i 1,← Nat.add_assoc]
 exact Nat.add_lt_add_right (Nat.lt_trans ha (by decide)) i
theorem Yuk {m i a:Nat}(h:i+1≤(m+1)*100000) (ha:a < 100000):i+a≤(m+1+1)*100000:=Za (Zcb (Zkc h) (Zq ha)) (Zr (Nat.succ_mul (m+1) 100000).symm)
inductive Y05 (rs:List (Str×Pt)) (B:Str→Bool) (r:Str×Pt) (g:Nat) (σ:Hp) (n:Nat) (ρ':Loc) (σ':Hp):Prop where
 | mk (ms:List Str) (ws:List Str) (q0:n=(rs.length - ms.length)*100001+ws.length) (q1:Ysr rs B r.1 ms ws) (q2:ws.length≤(ms.length+1)*100000) (q3:Has ρ' [("self",.ref g),("name",.str r.1),("met",.ref σ.length),("waiting",.ref (σ.length+1))]) (q7:σ'=σ++.sdict (Ydk ms)::[.list (ws.map V.str)]):Y05 rs B r g σ n ρ' σ'
theorem Yh5 (TO:Yag (T09 w s)) {rs:List (Str×Pt)}{B:Str→Bool}(hg:Yax rs) {g e:Nat}{gs:List (Str×V)}{kl:List (Str×V)}(h1:σ[g]?=some (.inst "Grammar" gs)) (h2:gs.lookup (Str.ofString "leads")=some (.ref e)) (h3:σ[e]?=some (.sdict kl)) {lo:Nat}(hL:Yc6 rs B kl lo σ)
   {r:Str×Pt}(hr:r∈rs) (q:∀ c junk,(c=true↔Rch rs B r.1 r.1)→Q (.bool c) (σ++junk)):Yaa (T09 w s) (d+1) X (.mth "Grammar" "comes_back") [.ref g,.str r.1] Q σ:=by
 refine (Yg3 (w:=w) (s:=s)).elim fun C hC=>Yaa.goM TO rfl rfl<|(hL r hr).elim fun j hjj=>?_
 have hj1:=hjj.2.1
 have hj2:=hjj.2.2
 have hm:=hg.most
 have hsz:∀ r∈rs,(r.2.ahd B).length < 100000:=fun r hr=>Zk (Pt.ahd_size ..) (hg.all r hr).size
 refine Yae.of (Yab h1) h2 rfl hC.cls hC.leads<|Itm.dict (Yab h3) hj1<|Cal.list (vs:=(r.2.ahd B).map V.str) (Ydw (Yab hj2)) (by rw [Zc]; exact szo (Za (Zq (hsz r hr)) (by decide)))<|Stx.mk <|
   Ybe.while (Y05 rs B r g σ) (rs.length*100001+(r.2.ahd B).length) ⟨[],r.2.ahd B,rfl,⟨List.nodup_nil,fun y hy=>absurd hy Zdc,fun y hy=>.one ⟨r,hr,rfl,hy⟩,fun y hy=>.inr (Yrk.uniq hg.nodup hr hy),fun y hy=>absurd hy Zdc⟩,Za (Zq (hsz r hr)) (Zr (Nat.one_mul _).symm),⟨rfl,rfl,rfl,congrArg (fun n=>some (V.ref n)) Zf,trivial⟩,Ze ..⟩ ?_
 refine fun n ρ' σ' hJ=>hJ.rec fun ms ws hn hS hwl hρ hσ=>?_
 apply Has.on hρ
 have hms:ms.length≤rs.length:=by
   have:=Yhy (ns:=rs.map (·.1)) hS.nodup fun x hx=>by
     obtain ⟨r',a,b⟩:=hg.lead (hS.mr x hx)
     exact Zsb.mpr ⟨r',a,b⟩
   simpa using this
 have tl:=Zk (Yk2 hwl hms hm) (show 4100000 < 2 ^ 62 by decide)
 refine (List.eq_nil_or_concat ws).elim (fun ew=>?_) fun hh=>hh.elim fun init hh=>hh.elim fun y ew=>?_
 · rw [ew] at hσ hS
   apply Yao hσ
   refine Yd7 TO rfl 40 10 _ _ _<|tvc.of (b:=false) (Ycq Yif (by decide))<|Ykt (by decide)<|Cmp.met (neg:=false) (ns:=ms) Ye0 (q _ _ ?_)
   rw [Bool.false_bne]; exact hS.end
 rw [List.concat_eq_append] at ew
 rw [ew] at hσ hS hwl hn
 refine (hg.lead (hS.wr y (Zyb _ (Zj.mpr rfl)))).elim fun r' hh=>?_
 have hr':=hh.1
 rw [← hh.2] at hσ hS
 rw [Zf] at hwl hn
 have hwl:init.length+1≤(ms.length+1)*100000:=hwl
 have hn:n=(rs.length - ms.length)*100001+(init.length+1):=hn
 apply Yao hσ
 refine Yd7 TO rfl 40 10 _ _ _<|tvc.of (b:=true) (Ydx Yif (by rw [Zc,Zf]; exact Zk (Yk2 hwl hms hm) (by decide)) (by simp))<|Yh3 rfl ?_
 refine Ya5 TO rfl 60 _ _ _ _<|Yak.pop Yif<|Cal.mk<|Yaa.pop (v:=.str r'.1) (vs:=init.map V.str) (by rw [Yif,Zfc]; rfl) (by rw [Zc]; exact szo (Za (Yk2 hwl hms hm) (by decide))) ?_
 rw [Ywd]
 refine Cmp.met (neg:=true) (ns:=ms) Ye0<|Br.mk (fun hin=>?_) fun hin=>?_
 · have hin:r'.1∉ms:=by simpa using hin
   refine (hL r' hr').elim fun j' hjj=>?_
   have hj1':=hjj.2.1
   have hj2':=hjj.2.2
   have:=hsz r' hr'
   have hms':ms.length+1≤rs.length:=by
     have:=Yhy (ms:=ms++[r'.1]) (ns:=rs.map (·.1)) (by rw [List.nodup_append]; exact ⟨hS.nodup,by simp,fun a ha b hb=>by cases Zj.mp hb; exact fun e=>hin (e▸ha)⟩) fun x hx=>by
       rcases Zm.mp hx with g | g
       · obtain ⟨r',a,b⟩:=hg.lead (hS.mr x g)
         exact Zsb.mpr ⟨r',a,b⟩
       · cases Zj.mp g; exact Zsb.mpr ⟨r',hr',rfl⟩
     simpa using this
   refine Yas.of Ye0 (by simp only [Ydk,Zc]; (clear q hsz hj2 h1 h3; exact Za (Za (by assumption) (by assumption)) (by decide))) ?_
   rw [Yq9,Yft hin]
   refine Yak.extend Yif<|Yae.of (Yab h1) h2 rfl hC.cls hC.leads<|Itm.dict (Yab h3) hj1'<|Cal.mk<|Yaa.extend (vs:=init.map V.str) (us:=(r'.2.ahd B).map V.str) Yif (Yab hj2') (by simp only [Zc]; exact szo (Za (Zcb (Yk2 (Zkc hwl) hms hm) (Zq this)) (by decide))) ?_
   rw [Ywd]
   refine ⟨_,?_,ms++[r'.1],init++r'.2.ahd B,rfl,hS.new hg.nodup hr' hin,?_,⟨rfl,rfl,rfl,rfl,trivial⟩,by rw [Zfc]⟩
   · rw [hn,Zf,Zf]
     exact Yt1 hms' this
   · rw [Zf,Zf]; exact Yuk hwl this
 · have hin:r'.1∈ms:=by simpa using hin
   refine ⟨_,?_,ms,init,rfl,hS.old hin,by (clear q hms hsz h1 h3 hj2 hm; exact Zq hwl),⟨rfl,rfl,rfl,rfl,trivial⟩,rfl⟩
   rw [hn]; exact Zs _
end
section
variable {w:World}{s:Shared}{d:Nat}{X:QX}{Q:QE}{σ:Hp}
theorem Mk.has {σ σ':Hp}{l:Nat}{fs:List (Str×V)}{ρ':Loc}(h:Mk σ l fs ρ' σ'):Has ρ' [("self",.ref σ.length),("rules",.ref l)]:=⟨h.self,h.ru,trivial⟩
theorem Mk.loc {σ σ':Hp}{l:Nat}{fs:List (Str×V)}{ρ' ρ₂:Loc}(h:Mk σ l fs ρ' σ') (hρ:Has ρ₂ [("self",.ref σ.length),("rules",.ref l)]):Mk σ l fs ρ₂ σ':=⟨hρ.1,hρ.2.1,h.pre,h.obj⟩
inductive Gm (rs:List (Str×Pt)) (σ:Hp) (l a b c:Nat) (bs:List Str) (ρ':Loc) (σ':Hp):Prop where
 | mk (q1:Mk σ l [("pairs",.ref a),("table",.ref b),("bare",.ref c)] ρ' σ') (q2:σ'[a]?=some (.list (rs.map Ybi))) (q3:σ'[b]?=some (.sdict (Yb9 rs))) (q4:σ'[c]?=some (.sdict (Ydk bs))):Gm rs σ l a b c bs ρ' σ'
theorem Gm.up {rs:List (Str×Pt)}{σ σ':Hp}{l a b c:Nat}{bs:List Str}{ρ':Loc}{jk:Hp}(h:Gm rs σ l a b c bs ρ' σ'):Gm rs σ l a b c bs ρ' (σ'++jk):=by
 obtain ⟨h1,h2,h3,h4⟩:=h
 exact ⟨h1.up,Yab h2,Yab h3,Yab h4⟩
theorem Gm.loc {rs:List (Str×Pt)}{σ σ':Hp}{l a b c:Nat}{bs:List Str}{ρ' ρ₂:Loc}(h:Gm rs σ l a b c bs ρ' σ') (hρ:Has ρ₂ [("self",.ref σ.length),("rules",.ref l)]):Gm rs σ l a b c bs ρ₂ σ':=by
 obtain ⟨h1,h2,h3,h4⟩:=h
 exact ⟨h1.loc hρ,h2,h3,h4⟩
theorem Gm.put {rs:List (Str×Pt)}{σ σ':Hp}{l a b c:Nat}{bs bs':List Str}{ρ':Loc}(h:Gm rs σ l a b c bs ρ' σ') (ha:σ.length < a) (hb:a < b) (hc:b < c):Gm rs σ l a b c bs' ρ' (σ'.set c (.sdict (Ydk bs'))):=by
 obtain ⟨h1,h2,h3,h4⟩:=h
 exact ⟨h1.put (by clear h2 h3 h4; lia),by rw [Ybj (by clear h2 h3 h4; exact Zoc (Nat.lt_trans hb hc))]; exact h2,by rw [Ybj (by clear h2 h3 h4; exact Zoc hc)]; exact h3,Yhj h4⟩
inductive Yxe (σ:Hp) (l a b:Nat) (rs:List (Str×Pt)) (i:Nat) (ρ':Loc) (σ':Hp):Prop where
 | mk (q0:Mk σ l [("pairs",.ref a),("table",.ref b)] ρ' σ') (q1:σ'[a]?=some (.list (rs.map Ybi))) (q2:σ'[b]?=some (.sdict (Yb9 (rs.take i)))):Yxe σ l a b rs i ρ' σ'
inductive Yxn (rs:List (Str×Pt)) (σ:Hp) (l a b c:Nat) (n:Nat) (ρ':Loc) (σ':Hp):Prop where
 | mk (bs:List Str) (gr:Bool) (q0:n=2*(rs.length - bs.length)+(if gr then 1 else 0)) (q1:ρ' "growing" = some (.bool gr)) (q2:Ynz rs bs) (q3:gr=false→∀ r∈rs,r.2.may (inB bs)=true→r.1∈bs) (q4:Gm rs σ l a b c bs ρ' σ'):Yxn rs σ l a b c n ρ' σ'
inductive Yt8 (rs:List (Str×Pt)) (bs:List Str) (σ:Hp) (l a b c:Nat) (i:Nat) (ρ₂:Loc) (σ₂:Hp):Prop where
 | mk (bs':List Str) (gr':Bool) (q0:ρ₂ "growing" = some (.bool gr')) (q1:Ynz rs bs') (q2:gr'=true→bs.length < bs'.length) (q3:gr'=false→bs'=bs∧∀ r∈rs.take i,r.2.may (inB bs)=true→r.1∈bs) (q4:Gm rs σ l a b c bs' ρ₂ σ₂):Yt8 rs bs σ l a b c i ρ₂ σ₂
inductive Yoc (σ:Hp) (l a b c e:Nat) (rs:List (Str×Pt)) (bs:List Str) (i:Nat) (ρ':Loc) (σ':Hp):Prop where
 | mk (q0:Mk σ l [("pairs",.ref a),("table",.ref b),("bare",.ref c),("leads",.ref e)] ρ' σ') (q1:σ'[a]?=some (.list (rs.map Ybi))) (q2:σ'[b]?=some (.sdict (Yb9 rs))) (q3:σ'[c]?=some (.sdict (Ydk bs))) (kl:List (Str×V)) (q4:σ'[e]?=some (.sdict kl)) (q5:kl.length≤i) (q6:Yc6 (rs.take i) (inB bs) kl σ.length σ'):Yoc σ l a b c e rs bs i ρ' σ'
inductive Ys5 (σ σ₈:Hp) (rs:List (Str×Pt)) (bs:List Str) (i:Nat) (ρ':Loc) (σ':Hp):Prop where
 | mk (q0:Has ρ' [("self",.ref σ.length)]) (jk:Hp) (q1:σ'=σ₈++jk) (q2:∀ r∈rs.take i,¬ Rch rs (inB bs) r.1 r.1):Ys5 σ σ₈ rs bs i ρ' σ'
theorem Yvy (TO:Yag (T09 w s)) {rs:List (Str×Pt)}{l:Nat}(hl:σ[l]?=some (.list (rs.map Ybi))) (hg:Yax rs) (q:∀ bs junk,Yzy rs bs→(∀ r∈rs,¬ Rch rs (inB bs) r.1 r.1)→Yqp rs bs σ.length (σ++junk)→Q (.ref σ.length) (σ++junk)) (qx:∀ bs (junk:Hp),Yzy rs bs→(∃ r∈rs,Rch rs (inB bs) r.1 r.1)→X "Circling" (σ++junk)):Yaa (T09 w s) (d+18) X (.glob "Grammar") [.ref l] Q σ:=by
 refine (Yg3 (w:=w) (s:=s)).elim fun C hC=>?_
 have hm:=hg.most
 refine Yaa.make TO rfl rfl rfl rfl<|Ycc.goM TO rfl rfl ?_
 refine Cal.mk<|Yib TO (Yab hl) hg fun junk=>?_
 have h1:Mk σ l [] (Ycl (fun zz=>none) ["self", "rules"] [.ref σ.length,.ref l]) (σ++[.inst "Grammar" []]++junk):=⟨rfl,rfl,⟨[.inst "Grammar" []]++junk,by rw [Ze]⟩,Yab Yac⟩
 generalize (σ++[.inst "Grammar" []]++junk)=σ₁ at h1
 refine Cal.list (vs:=rs.map Ybi) (Ydw (h1.rules hl)) (by rw [Zc]; exact szo (Za hm (by decide)))<|Yam.of [("pairs",.ref σ₁.length)] (Yab h1.4) hC.cls hC.pairs (by decide) rfl ?_
 refine Yqg (h1.field (o:=.list (rs.map Ybi)) (fs':=[("pairs",.ref σ₁.length)])) fun h2 h2a ha zz=>?_
 generalize σ₁.length=a at h2 h2a ha
 generalize (σ₁++[Yaq.list (rs.map Ybi)]).set σ.length (.inst "Grammar" [("pairs",.ref a)])=σ₂ at h2 h2a
 clear h1
 refine Yam.of [("pairs",.ref a),("table",.ref σ₂.length)] (Yab h2.4) hC.cls hC.table (show 1 < 1000 by decide) rfl ?_
 refine Yqg (h2.field (o:=.sdict []) (fs':=[("pairs",.ref a),("table",.ref σ₂.length)])) fun h3 h3b zz f4=>?_
 have h3a:=f4 a _ (by (clear h2a h3b f4 hl; exact Zoc ha)) h2a
 have hb:=Yha h2a
 clear h2a f4
 generalize σ₂.length=b at h3 h3a h3b hb
 generalize (σ₂++[Yaq.sdict []]).set σ.length (.inst "Grammar" [("pairs",.ref a),("table",.ref b)])=σ₃ at h3 h3a h3b
 clear h2
 refine Ycb.mk (rs.map Ybi) (Yxe σ l a b rs) ⟨h3,h3a,h3b⟩ (fun i ρ' σ' hJ=>?_) (fun ρ' σ' hJ=>?_) fun i x ρ' σ' hJ hx=>?_
 · exact hJ.rec fun j1 zz zz=>Yav (j1.rules hl)
 rotate_left
 · refine hJ.rec fun j1 j2 j3=>(Ydf hx).elim fun r hh=>?_
   apply Has.on j1.has
   apply Yao hh.2
   have hr:=hh.1
   refine ⟨_,rfl,Ya5 TO rfl 60 _ _ _ _<|Yae.of j1.4 rfl rfl hC.cls hC.table<|Yas.of j3 (by rw [Yb9,Zc]; exact Za (Zic ..) (Za hm (by decide))) ?_⟩
   refine ⟨(j1.put (by (clear h3a h3b j2 j3 hr hl; exact Zq (Zk ha hb)))).loc ⟨rfl,rfl,trivial⟩,?_,?_⟩
   · rw [Ybj (by (clear h3a h3b j2 j3 hr hl; exact Zoc hb))]; exact j2
   · rw [Yhj j3,Yiv (Ydt hg.nodup hr),Ya3 hr]
 clear h3 h3a h3b
 refine hJ.rec fun h4 h4a h4b=>?_
 clear hJ
 rw [Zc,Zgc] at h4b
 apply Has.on h4.has
 generalize σ'=σ₄ at h4 h4a h4b
 refine Yam.of [("pairs",.ref a),("table",.ref b),("bare",.ref σ₄.length)] (Yab h4.4) hC.cls hC.bare (show 2 < 1000 by decide) rfl ?_
 refine Yqg (h4.field (o:=.sdict []) (fs':=[("pairs",.ref a),("table",.ref b),("bare",.ref σ₄.length)])) fun h5 h5c zz f4=>?_
 have h5:Gm rs σ l a b σ₄.length [] _ _:=⟨h5,f4 a _ (by (clear h4a h4b h5c f4 hl; exact Zoc ha)) h4a,f4 b _ (by (clear h4a h4b h5c f4 hl; exact Zoc (Nat.lt_trans ha hb))) h4b,h5c⟩
 have hc:=Yha h4b
 clear h5c h4a h4b f4
 generalize (σ₄++[Yaq.sdict []]).set σ.length (.inst "Grammar" [("pairs",.ref a),("table",.ref b),("bare",.ref σ₄.length)])=σ₅ at h5
 generalize σ₄.length=c at h5 hc
 clear h4
 refine Stx.mk<|Ybe.while (Yxn rs σ l a b c) (2*rs.length+1) ⟨[],true,rfl,rfl,.nil rs,(fun e=>(Zv e.symm).elim),h5.loc ⟨rfl,rfl,trivial⟩⟩ ?_
 clear h5
 refine fun n ρ' σ' hJ=>hJ.rec fun bs gr hn k1 k2 k3 k4=>?_
 apply Has.on (show Has ρ' [("growing",.bool gr),("self",.ref σ.length),("rules",.ref l)] from ⟨k1,k4.1.1,k4.1.2,trivial⟩)
 clear hJ
 refine Yd7 TO rfl 40 10 _ _ _ ?_
 cases gr
 rotate_left
 · show Yda _ _ _ _ _ _ _ _
   have hbl:=k2.len
   refine Ya5 TO rfl 60 _ _ _ _<|Ycb.mk (rs.map Ybi) (Yt8 rs bs σ l a b c) ⟨bs,false,rfl,k2,(fun e=>(Zv e).elim),fun zz=>⟨rfl,fun r hr=>absurd hr Zdc⟩,k4.loc ⟨rfl,rfl,trivial⟩⟩ (fun i ρ₂ σ₂ hJ=>hJ.rec fun zz zz zz zz zz zz j1=>Yav (j1.1.rules hl)) (fun ρ₂ σ₂ hJ=>hJ.rec fun bs' gr' j1 j2 j3 j4 j5=>⟨_,?_,bs',gr',rfl,j1,j2,fun hf=>?_,j5⟩) fun i x ρ₂ σ₂ hJ hx=>hJ.rec fun bs' gr' j1 j2 j3 j4 j5=>(Ydf hx).elim fun r hh=>?_
   · rw [hn]
     cases gr'
     · rw [(j4 rfl).1]; exact Zs _
     · have g:=j3 rfl
       exact Nat.add_lt_add_right (Nat.mul_lt_mul_of_pos_left (Zqc (Zz g j2.len) g) (by decide)) 1
   · have e:=j4 hf
     rw [Zc,Zgc] at e
     rw [e.1]; exact e.2
   · have hr:=hh.1
     apply Yao hh.2
     have hrm:=Zn hr
     have hG:=hg.all r hrm
     apply Has.on (show Has ρ₂ [("growing",.bool gr'),("self",.ref σ.length),("rules",.ref l)] from ⟨j1,j5.1.1,j5.1.2,trivial⟩)
     have keep:∀ {ρ₃:Loc}{jk:Hp},Has ρ₃ [("growing",.bool gr'),("self",.ref σ.length),("rules",.ref l)]→(r.2.may (inB bs')=true→r.1∈bs')→Yt8 rs bs σ l a b c (i+1) ρ₃ (σ₂++jk):=fun {ρ₃ jk} hρ hk=>⟨bs',gr',hρ.1,j2,j3,fun hf=>⟨(j4 hf).1,fun r' hr' hm'=>by
       rw [Ya3 hr] at hr'
       rcases Zm.mp hr' with g | g
       · exact (j4 hf).2 r' g hm'
       · cases Zj.mp g
         rw [← (j4 hf).1] at hm' ⊢; exact hk hm'⟩,j5.up.loc hρ.2⟩
     refine ⟨_,rfl,Ya5 TO rfl 60 _ _ _ _<|Yae.of j5.1.4 rfl rfl hC.cls hC.bare<|Cmp.met (neg:=true) (ns:=bs') j5.4<|Br.mk (fun hin=>Yae.of j5.1.4 rfl rfl hC.cls hC.bare<|Cal.mk<|Ysz (d:=d+3) TO 12 r.2 hG.deep hG.few j5.4 fun jk=>?_) fun hin=>?_⟩
     · rw [Yla]
       refine Br.mk (fun hmay=>?_) fun hmay=>?_
       · have hin:r.1∉bs':=by simpa using hin
         refine Yae.of (Yab j5.1.4) rfl rfl hC.cls hC.bare<|Yas.of (Yab j5.4) (by have:=j2.len; simp only [Ydk,Zc]; (clear hl j3 hbl j4 keep; exact Za (Za (by assumption) (by assumption)) (by decide))) ?_
         rw [Yft hin]
         refine ⟨bs'++[r.1],true,rfl,j2.add hrm hin hmay,fun zz=>?_,by simp,(j5.up.put ha hb hc).loc ⟨rfl,rfl,trivial⟩⟩
         cases gr'
         · rw [(j4 rfl).1]; simp
         · have:=j3 rfl; simp; (clear hl j3 hbl j4 keep; exact Nat.lt_succ_of_lt this)
       · exact keep ⟨rfl,rfl,rfl,trivial⟩ fun h=>absurd (h.symm.trans hmay) (by decide)
     · have hin:r.1∈bs':=by simpa using hin
       have:=keep (jk:=[]) (ρ₃:=upd (Yr9 ρ₂ [("growing",.bool gr'),("self",.ref σ.length),("rules",.ref l)]) "pair" (some (Ybi r))) ⟨rfl,rfl,rfl,trivial⟩ fun zz=>hin
       rw [Zlc] at this
       exact this
 show gw _ _ _ _ _ _ _
 have hbare:=k2.bare (k3 rfl)
 have k2l:=k2.len
 clear k3 k2 k1
 obtain ⟨h6,h6a,h6b,h6c⟩:=k4
 generalize σ'=σ₆ at h6 h6a h6b h6c
 refine Yam.of [("pairs",.ref a),("table",.ref b),("bare",.ref c),("leads",.ref σ₆.length)] (Yab h6.4) hC.cls hC.leads (show 3 < 1000 by decide) rfl ?_
 refine Yqg (h6.field (o:=.sdict []) (fs':=[("pairs",.ref a),("table",.ref b),("bare",.ref c),("leads",.ref σ₆.length)])) fun h7 h7e zz f4=>?_
 have he:=Yha h6c
 have h7:Yoc σ l a b c σ₆.length rs bs 0 _ _:=⟨h7.loc (ρ₂:=Yr9 ρ' [("growing",.bool false),("self",.ref σ.length),("rules",.ref l)]) ⟨rfl,rfl,trivial⟩,f4 a _ (by (clear h6a h6b h6c h7e f4 hl; exact Zoc ha)) h6a,f4 b _ (by (clear h6a h6b h6c h7e f4 hl; exact Zoc (Nat.lt_trans ha hb))) h6b,f4 c _ (by (clear h6a h6b h6c h7e f4 hl; lia)) h6c,[],h7e,Zkb _,fun r hr=>by simp at hr⟩
 clear h7e h6a h6b h6c f4
 generalize (σ₆++[Yaq.sdict []]).set σ.length (.inst "Grammar" [("pairs",.ref a),("table",.ref b),("bare",.ref c),("leads",.ref σ₆.length)])=σ₇ at h7
 generalize σ₆.length=e at h7 he
 clear h6
 refine Ycb.mk (rs.map Ybi) (Yoc σ l a b c e rs bs) h7 (fun i ρ' σ' hJ=>?_) (fun ρ' σ' hJ=>?_) fun i x ρ' σ' hJ hx=>?_
 · exact hJ.rec fun j1 zz zz zz zz zz zz zz=>Yav (j1.rules hl)
 rotate_left
 · clear h7
   refine hJ.rec fun j1 j2 j3 j4 kl j5 j7 j6=>(Ydf hx).elim fun r hh=>?_
   have hr:=hh.1
   apply Yao hh.2
   have hG:=hg.all r (Zn hr)
   have hi:i < rs.length:=(Zb.mp hr).1
   apply Has.on j1.has
   refine ⟨_,rfl,Ya5 TO rfl 60 _ _ _ _<|Yae.of j1.4 rfl rfl hC.cls hC.bare<|Cal.mk<|Yrh (d:=d+3) TO 12 r.2 hG.deep hG.size hG.few j4 fun j jk hj hjl=>Yae.of (Yab j1.4) rfl rfl hC.cls hC.leads<|Yas.of (Yab j5) (by (clear hj hjl hr j5 j3 j4 j2 hl; lia)) ?_⟩
   rw [Yla] at hjl
   have hek:∀ (x:Nat) (vs:List V) (o:Yaq),(σ'++jk)[x]?=some (.list vs)→((σ'++jk).set e o)[x]?=some (.list vs):=fun x vs o hx=>by
     rw [Ybj (fun h=>?_)]
     · exact hx
     · subst h; rw [Yab j5] at hx; cases hx
   refine ⟨(j1.up.put (by (clear j2 j3 j4 j5 hr hj hjl hek hl; lia))).loc ⟨rfl,rfl,trivial⟩,hek _ _ _ (Yab j2),?_,?_,_,Yhj (Yab j5),?_,?_⟩
   · rw [Ybj (by (clear j2 j3 j4 j5 hr hj hjl hek hl; exact Zoc (Nat.lt_trans hc he)))]; exact Yab j3
   · rw [Ybj (by (clear j2 j3 j4 j5 hr hj hjl hek hl; exact Zoc he))]; exact Yab j4
   · rw [Yjc]; split <;> (clear j2 j3 j4 j5 hr hj hjl hek hl; lia)
   · rw [Ya3 hr]
     exact (j6.up (junk:=jk)).snoc (Ydt hg.nodup hr) (fun x vs hx=>hek x vs _ hx) (by have:=Yha j1.4; (clear j2 j3 j4 j5 hr hjl hek hl; lia)) (hek _ _ _ hjl)
 clear h7
 refine hJ.rec fun h8 h8a h8b h8c kl h8e zz h8L=>?_
 clear hJ
 rw [Zc,Zgc] at h8L
 apply Has.on h8.has
 generalize σ'=σ₈ at h8 h8a h8b h8c h8e h8L
 refine h8.3.elim fun junk hj=>Ycb.mk (rs.map Ybi) (Ys5 σ σ₈ rs bs) ⟨⟨rfl,trivial⟩,[],(Zlc _).symm,fun r hr=>absurd hr Zdc⟩ (fun i ρ' σ' hJ=>hJ.rec fun zz jk e zz=>e▸Yav (Yab (h8.rules hl))) (fun ρ' σ' hJ=>hJ.rec fun zz jk e9 hnone=>?_) fun i x ρ' σ' hJ hx=>hJ.rec fun hρ jk e2 hnone=>(Ydf hx).elim fun r hh=>?_
 · rw [Zc,Zgc] at hnone
   apply Yao e9
   have hG:Yqp rs bs σ.length (σ₈++jk):=Yqp.up ⟨a,b,c,e,kl,ha,hb,hc,he,h8.4,h8a,h8b,h8c,h8e,h8L⟩
   rw [hj,Ze] at hG ⊢
   exact ⟨rfl,q bs _ hbare hnone hG⟩
 · have hr:=hh.1
   apply Yao hh.2
   apply Yao e2
   have hrm:=Zn hr
   apply Has.on hρ
   refine ⟨_,rfl,Ya5 TO rfl 60 _ _ _ _<|Yak.own (Yab h8.4) rfl hC.cls hC.comes_back<|Cal.mk<|Yh5 (d:=d+15) TO hg (Yab h8.4) rfl (Yab h8e) h8L.up hrm fun cb jk2 hcb=>?_⟩
   cases cb
   · refine ⟨⟨rfl,trivial⟩,jk++jk2,by rw [Ze],fun r' hr'=>?_⟩
     rw [Ya3 hr] at hr'
     rcases Zm.mp hr' with g | g
     · exact hnone r' g
     · cases Zj.mp g
       exact fun z=>absurd (hcb.mpr z) (by decide)
   · refine Stx.mk<|Ybe.raise TO rfl rfl rfl rfl rfl (by kernel_rfl) ?_
     rw [hj,Ze,Ze]
     exact qx bs _ hbare ⟨r,hrm,hcb.mp rfl⟩
end
section
variable {w:World}{s:Shared}{d:Nat}{X:QX}{Q:QE}{σ:Hp}{rs:List (Str×Pt)}{bs:List Str}{g:Nat}
end
section
variable {w:World}{s:Shared}{d:Nat}{X:QX}{Q:QE}{σ:Hp}
theorem Yal {a b:Int}(hb:0 < b):0≤a.fmod b∧a.fmod b < b:=⟨Int.fmod_nonneg_of_pos a hb,Int.fmod_lt_of_pos a hb⟩
set_option tactic.hygienic true in
theorem Ytb {S:Str}{n:Nat}{P:Nat→Nat→Bool}(h:(List.range n).all (fun j=>match S.cps[j]? with | some c=>P j c | none=>false)=true) (hl:S.length=n) {k:Int}(h0:0≤k) (h1:k < n):∃ c,P k.toNat c=true∧(seqIndex? k S.length).bind (S.cps[·]?)=some c:=by
 have hj:=List.all_eq_true.mp h k.toNat (by rw [List.mem_range]; (clear h hl; lia))
 have e:seqIndex? k S.length=some k.toNat:=by
   have hk:¬ k < 0:=by (clear h1 hj h hl; lia)
   unfold seqIndex?
   simp only [hk,if_false]
   rw [if_pos (by simp only [Zob,decide_eq_true_eq]; (clear hj hk h; lia))]
 rw [e]
 split at hj
 · rename_i c hc
   exact ⟨c,hj,hc⟩
 · cases hj
theorem Ycz {k:Int}{Q:QE}{σ:Hp}(h0:0≤k) (h1:k < 26) (q:Q (.str (S [97+k.toNat])) σ):Itm (.str (Str.ofString "abcdefghijklmnopqrstuvwxyz")) (.int k) Q σ:=by
 obtain ⟨c,hc,e⟩:=Ytb (S:=Str.ofString "abcdefghijklmnopqrstuvwxyz") (n:=26) (P:=fun j c=>decide (c=97+j)) (by decide +kernel) (by decide +kernel) h0 h1
 rw [decide_eq_true_iff] at hc
 subst hc
 exact ⟨_,.str _ _ _ e ⟨by (clear q e h1; lia),by (clear q e h0; lia)⟩,q⟩
theorem Yl1 {S₀:Str}{n:Nat}{k:Int}{Q:QE}{σ:Hp}(h0:0≤k) (h1:k < n) (hn:n < 1000) (q:∀ c,Yaj c=true→Q (.str (S [c])) σ) (h:(List.range n).all (fun j=>match S₀.cps[j]? with | some c=>Yaj c | none=>false)=true) (hl:S₀.length=n):Itm (.str S₀) (.int k) Q σ:=by
 obtain ⟨c,hc,e⟩:=Ytb (P:=fun zz c=>Yaj c) h hl h0 h1
 exact ⟨_,.str _ _ c e ⟨by (clear q h hl e h1 hn; lia),by (clear q h hl e h0; lia)⟩,q c hc⟩
theorem Ycj {l:Nat}{vs:List V}{j:Nat}{v:V}{k:Int}{Q:QE}{σ:Hp}(hl:σ[l]?=some (.list vs)) (hk:k=j) (hj:vs[j]?=some v) (hb:vs.length < 2 ^ 62) (q:Q v σ):Ydz (.ref l) (.int k) Q σ:=by
 obtain ⟨h1,zz⟩:=Zb.mp hj
 subst hk
 refine ⟨v,.list _ vs _ j v hl ?_ hj ⟨by (clear hb hl hj; exact Int.NonNeg.mk (j+Nat.succ 9223372036854775807)),by (clear hl hj; lia)⟩,q⟩
 unfold seqIndex?
 simp only [show ¬ ((j:Int) < 0) by (clear hb hl hj; lia),if_false]
 rw [if_pos (by simp only [Zob,decide_eq_true_eq]; (clear hb hl hj; lia))]
 simp
theorem Ykz {n i:Nat}{y:V}(h:((List.range n).map fun (k:Nat)=>V.int k)[i]?=some y):i < n∧y=.int i:=by
 rw [Zdb,Zpb] at h
 obtain ⟨j,hj,rfl⟩:=h
 obtain ⟨h1,h2⟩:=Zb.mp hj
 rw [List.getElem_range] at h2
 subst h2
 exact ⟨by simpa using h1,rfl⟩
theorem Yeo {n:Int}{σ:Hp}(h0:0≤n) (h:n < 2 ^ 62):Yef σ (.rng n)=some ((List.range n.toNat).map fun (k:Nat)=>V.int k):=by
 exact if_pos ⟨by (clear h; lia),h⟩
theorem Yuy {xs:List Int}{k:Int}(h0:0≤k) (h:k < xs.length):xs[k.toNat]?=some (xs.getD k.toNat 0):=by
 have:k.toNat < xs.length:=by lia
 simp [List.getD_eq_getElem?_getD,this]
theorem Yvt {xs:List Int}{k:Int}(h:¬ k < xs.length):xs.getD k.toNat 0=0:=by
 rw [List.getD_eq_getElem?_getD,Zrb (by lia)]; rfl
theorem Ya8 (TO:Yag (T09 w s)) {xs:List Int}{k:Int}(h0:0≤k) (hk:k < 2 ^ 62) (hx:xs.length < 2 ^ 62) (q:Q (.int (xs.getD k.toNat 0)) σ):Yaa (T09 w s) (d+1) X (.glob "_law_cell_at") [.scr xs,.int k] Q σ:=by
 refine Yaa.go TO rfl rfl ?_
 refine Cal.len rfl hx (Br.mk (fun h=>Itm.mk ⟨_,.scr _ _ _ h0 (Int.lt_trans hk (by decide)) (Yuy h0 (Zgb h)),q⟩) fun h=>?_)
 rw [Yvt (of_decide_eq_false h)] at q
 exact q
theorem Ydp (TO:Yag (T09 w s)) {k:Int}(q:∀ c,Yaj c=true→Q (.str (S [c])) σ):Yaa (T09 w s) (d+1) X (.glob "_law_sign_by") [.int k] Q σ:=by
 refine Yaa.go TO rfl rfl ?_
 have r:=Yal (a:=k) (b:=96) (by decide)
 exact Bin.cat (by decide +kernel) (Yl1 (n:=96) r.1 r.2 (by decide) q (by decide +kernel) (by decide +kernel))
end
section
variable {w:World}{s:Shared}{d:Nat}{X:QX}{Q:QE}{σ:Hp}
structure Sg (x y z:Nat):Prop where
 hx:Yaj x=true
 hy:Yaj y=true
 hz:Yaj z=true
 xy:x≤y
 yz:y≤z
theorem Yhd {l x y z:Nat}{k:Int}{Q:QE}{σ:Hp}(hs:Sg x y z) (hl:σ[l]?=some (.list [.str (S [x]),.str (S [y]),.str (S [z])])) (h0:0≤k) (h1:k < 3) (q:∀ c,Yaj c=true→c≤z→Q (.str (S [c])) σ):Itm (.ref l) (.int k) Q σ:=by
 have e:k=0∨k=1∨k=2:=by (clear q hl; lia)
 rcases e with rfl | rfl | rfl
 · exact .list hl rfl rfl ⟨by decide,by decide⟩ (q x hs.hx (Za hs.xy hs.yz))
 · exact .list hl rfl rfl ⟨by decide,by decide⟩ (q y hs.hy hs.yz)
 · exact .list hl rfl rfl ⟨by decide,by decide⟩ (q z hs.hz (Zl _))
theorem Yw4 {P:Str→Prop}{x y z c:Nat}(hs:Sg x y z) (hc:Yaj c=true) (hz:c≤z):Ya0 P 1 1 (.span c z):=⟨by simp [Pt.ok2,hc,hs.hz,hz],by simp [Pt.deep6],by simp [Pt.size6]⟩
theorem Yz6 {P:Str→Prop}:Ya0 P 1 1 .any:=⟨by simp [Pt.ok3],by simp [Pt.deep7],by simp [Pt.size7]⟩
theorem Yxr {P:Str→Prop}{c:Nat}(hc:Yaj c=true):Ya0 P 1 1 (.sign c):=⟨by simp [Pt.ok1,hc],by simp [Pt.deep5],by simp [Pt.size5]⟩
theorem Yyj {P:Str→Prop}{n:Str}(hc:P n):Ya0 P 1 1 (.rule n):=⟨by simp [Pt.ok4,hc],by simp [Pt.deep8],by simp [Pt.size8]⟩
theorem Ykm (TO:Yag (T09 w s)) {sg nm x y z f:Nat}{ns:List Str}{cell:Int}(hs:Sg x y z) (hsg:σ[sg]?=some (.list [.str (S [x]),.str (S [y]),.str (S [z])])) (hnm:σ[nm]?=some (.list (ns.map V.str))) (hn:ns.length≤1000)
   (q:∀ p,Ya0 (Yez ns f) 1 1 p→Q p.v σ):Yaa (T09 w s) (d+1) X (.glob "_law_leaf") [.int cell,.ref sg,.ref nm,.int f] Q σ:=by
 refine Yaa.go TO rfl rfl ?_
 have r3:=Yal (a:=cell.fdiv 7) (b:=3) (by decide)
 have hl:Ytq σ (.ref nm)=some ns.length:=Yd0 hnm (Zc _)
 have sign:Itm (.ref sg) (.int ((cell.fdiv 7).fmod 3)) (fun v σ'=>Q (.tup [.str "sign",v]) σ') σ:=Yhd hs hsg r3.1 r3.2 fun c hc zz=>q _ (Yxr hc)
 refine Br.mk (fun h2=>Yhd hs hsg r3.1 r3.2 fun c hc hcz=>Itm.list hsg rfl rfl ⟨by decide,by decide⟩ (q _ (Yw4 hs hc hcz))) fun h2=>Br.mk (fun h3=>q _ Yz6) fun h3=>Br.mk (fun h4=>Cal.len hl (by clear sign q hsg hnm hl r3; lia) (Br.mk (fun h5=>?_) fun zz=>sign)) fun zz=>sign
 clear sign
 have h5:=Zgb h5
 have rn:=Yal (a:=cell.fdiv 7) (b:=(ns.length:Int) - f) (by clear hl h4 h3 r3 h2 hsg hnm hn q; lia)
 refine Cal.len hl (by clear q hsg hnm hl r3; lia) (gd.of (by simp; clear hl rn h4 r3 h2 h3 hsg hnm hn q; lia) ?_)
 obtain ⟨i,hi⟩:=Int.eq_ofNat_of_zero_le rn.1
 have hlt:f+i < ns.length:=by rw [hi] at rn; clear hl h5 h2 h3 h4 hsg hnm hn q r3; lia
 exact Itm.mk (Ycj hnm (j:=f+i) (v:=.str ns[f+i]) (by rw [hi]; rfl) (by simp [hlt]) (by simp; clear hl h2 h3 h4 h5 rn hi hlt q r3 hnm hsg; lia) (q (.rule ns[f+i]) (Yyj ⟨f+i,Zy _ _,by simp [hlt]⟩)))
theorem Ym6 {P:Nat→Prop}{n:Nat}(h0:P 0) (h:∀ i,i < n→P (i+1)):∀ i,i < n+1→P i:=fun i=>i.rec (fun zz=>h0) fun i zz g=>h i (Nat.lt_of_succ_lt_succ g)
theorem Y0d {P:Hp→Prop}(q:∀ j,P (σ++j)):P σ:=Zlc σ▸q []
theorem Ypw (TO:Yag (T09 w s)) {deed:Int}{p a b:Pt}(h0:0≤deed) (h1:deed < 14) (q:∀ junk,Q (Yd9 p a b deed.toNat).v (σ++junk)):Yaa (T09 w s) (d+1) X (.glob "_law_joined") [.int deed,p.v,a.v,b.v] Q σ:=by
 refine Yaa.go TO rfl rfl ?_
 obtain ⟨n,rfl⟩:=Int.eq_ofNat_of_zero_le h0
 have h2:n < 14:=Zfb.mp h1
 have q2:∀ junk,Q (Yd9 p a b n).v (σ++junk):=q
 clear h0 h1 q
 revert q2
 revert n
 iterate 6 (refine Ym6 ?_ ?_; exact fun q=>Itm.list Yac rfl rfl ⟨by decide,by decide⟩ (q _))
 iterate 8 (refine Ym6 ?_ ?_; exact fun q=>Y0d (P:=fun s=>Q _ s) q)
 exact fun i h=>absurd h (Zlb i)
end
section
variable {w:World}{s:Shared}{d:Nat}{X:QX}{Q:QE}{σ:Hp}
inductive Y1c (ns:List Str) (f sg nm:Nat) (σ:Hp) (i:Nat) (ρ':Loc) (σ':Hp):Prop where
 | mk (p:Pt) (junk:Hp) (num:Int) (q0:Pile (Yez ns f) i p) (q1:Has ρ' [("_law_part",p.v),("_law_number",.int num),("_law_signs",.ref sg),("_law_names",.ref nm),("_law_first_here",.int f)]) (q6:σ'=σ++junk):Y1c ns f sg nm σ i ρ' σ'
theorem Ylj (TO:Yag (T09 w s)) {sg nm x y z f:Nat}{ns:List Str}{cell:Int}(hs:Sg x y z) (hsg:σ[sg]?=some (.list [.str (S [x]),.str (S [y]),.str (S [z])])) (hnm:σ[nm]?=some (.list (ns.map V.str))) (hn:ns.length≤1000)
   (q:∀ p junk,Pile (Yez ns f) 3 p→Q p.v (σ++junk)):Yaa (T09 w s) (d+2) X (.glob "_law_piled") [.int cell,.ref sg,.ref nm,.int f] Q σ:=by
 refine Yaa.go TO rfl rfl ?_
 refine Bin.mulr rfl<|Cal.mk<|Ykm TO hs hsg hnm hn fun p hp=>Cal.range ⟨_,Y1c ns f sg nm σ,⟨p,[],_,.leaf hp,⟨rfl,rfl,rfl,rfl,rfl,trivial⟩,(Zlc σ).symm⟩,fun i ρ' σ' zz=>Yeo (by decide) (by decide),fun ρ' σ' hJ=>?_,fun i y ρ' σ' hJ hy=>?_⟩
 · obtain ⟨p,junk,num,k1,k2,rfl⟩:=hJ
   obtain ⟨r,rfl⟩:=k2.use
   exact q p junk k1
 · obtain ⟨p,junk,num,k1,k2,rfl⟩:=hJ
   obtain ⟨hi,rfl⟩:=Ykz hy
   obtain ⟨r,rfl⟩:=k2.use
   refine ⟨_,rfl,Ya5 TO rfl 60 _ _ _ _ ?_⟩
   exact Bin.mulr rfl<|Cal.mk<|Ykm TO hs (Yab hsg) (Yab hnm) hn fun a ha=>Cal.mk<|Ykm TO hs (Yab hsg) (Yab hnm) hn fun b hb=>Cal.mk<|Ypw TO (Yal (by decide)).1 (Yal (by decide)).2 fun jk =>
     ⟨_,junk++jk,_,.join k1 ha hb _,⟨rfl,rfl,rfl,rfl,rfl,trivial⟩,Ze ..⟩
theorem Yq7 (k n:Nat):(k:Int)+1+(if (n:Int).fdiv 6 < 1 then (n:Int).fdiv 6 else 1)*(n:Int).fdiv 4=(k+stp n:Nat):=by
 have e6:(n:Int).fdiv 6=((n / 6:Nat):Int):=Ysm n 6
 have e4:(n:Int).fdiv 4=((n / 4:Nat):Int):=Ysm n 4
 rw [e6,e4]
 unfold stp
 by_cases h:n / 6 < 1
 · rw [if_pos h,if_pos (show ((n / 6:Nat):Int) < 1 from Zfb.mpr h)]; exact congrArg Int.ofNat (Nat.add_assoc k 1 _)
 · rw [if_neg h,if_neg fun g:((n / 6:Nat):Int) < 1=>h (Zfb.mp g)]; exact congrArg Int.ofNat (Nat.add_assoc k 1 _)
theorem Yjv (n:Nat) (hn:n≤40):Yjt (if (n:Int).fdiv 6 < 1 then (n:Int).fdiv 6 else 1):=by
 have e6:(n:Int).fdiv 6=((n / 6:Nat):Int):=Ysm n 6
 rw [e6]
 by_cases h:((n / 6:Nat):Int) < 1
 · rw [if_pos h]; exact ⟨Int.lt_of_lt_of_le (by decide) (Zvc _),Int.lt_trans h (by decide)⟩
 · rw [if_neg h]; exact ⟨by decide,by decide⟩
noncomputable def Yra (x y z:Nat) (c k:Nat):Pt:=[.sign c,.span x z].getD k .any
theorem Yq4 {x y z c:Nat}(hs:Sg x y z) (hc:Yaj c=true):∀ k,(Yra x y z c k).sure:=AllP.get (.cons (.sign hc)<|.cons (.span hs.hx hs.hz (Za hs.xy hs.yz)) .nil) .any
theorem Yc8 {a:Int}{n:Nat}(h:0≤a∧a < n):∃ k:Nat,a=k∧k < n:=by
 obtain ⟨k,rfl⟩:=Int.eq_ofNat_of_zero_le h.1
 exact ⟨k,rfl,Zfb.mp h.2⟩
theorem lt3 {P:Nat→Prop}(h0:P 0) (h1:P 1) (h2:P 2) (i:Nat) (h:i < 3):P i:=by
 rcases i with zz | zz | zz | i
 · exact h0
 · exact h1
 · exact h2
 · exact absurd h (Zo.mpr (Ztb 3 i))
theorem lt4 {P:Nat→Prop}(h0:P 0) (h1:P 1) (h2:P 2) (h3:P 3) (i:Nat) (h:i < 4):P i:=by
 rcases i with zz | i
 · exact h0
 · exact lt3 (P:=fun i=>P (i+1)) h1 h2 h3 i (Nat.lt_of_succ_lt_succ h)
theorem Ylr (TO:Yag (T09 w s)) {sg nm x y z k:Nat}{ns:List Str}{cell:Int}(hs:Sg x y z) (hsg:σ[sg]?=some (.list [.str (S [x]),.str (S [y]),.str (S [z])])) (hnm:σ[nm]?=some (.list (ns.map V.str))) (hn:ns.length≤40)
   (q:∀ p junk,Drawn ns k p→Q p.v (σ++junk)):Yaa (T09 w s) (d+3) X (.glob "_law_part_by") [.int cell,.int k,.ref sg,.ref nm] Q σ:=by
 refine Yaa.go TO rfl rfl ?_
 have r3:=Yal (a:=cell) (b:=3) (by decide)
 obtain ⟨i3,e3,h3⟩:=Yc8 (n:=3) (Yal (a:=cell.fdiv 3) (b:=3) (by decide))
 obtain ⟨i4,e4,h4⟩:=Yc8 (n:=4) (Yal (a:=(cell*16807).fmod 10007) (b:=4) (by decide))
 refine Yhd hs hsg r3.1 r3.2 fun c hc zz=>Itm.list hsg rfl rfl ⟨by decide,by decide⟩<|Itm.list hsg rfl rfl ⟨by decide,by decide⟩ ?_
 refine Itm.mk (Ycj (j:=i3) (v:=(Yra x y z c i3).v) Yac e3 ?_ (by simp) ?_)
 · exact lt3 (P:=fun i=>[(Pt.sign c).v,(Pt.span x z).v,Pt.any.v][i]?=some (Yra x y z c i).v) rfl rfl rfl i3 h3
 have hu:=Yq4 (x:=x) (y:=y) (z:=z) hs hc i3
 generalize Yra x y z c i3=u at hu ⊢
 refine Cal.mk<|Ylj (f:=0) TO hs (Yab hsg) (Yab hnm) (by clear q hsg hnm; lia) fun hd j2 hhd=>?_
 have hl:∀ {jk:Hp},Ytq (σ++jk) (.ref nm)=some ns.length:=fun {jk}=>Yd0 (Yab hnm) (Zc _)
 rw [Ze]
 refine Cal.len hl (by clear q hsg hnm hl; lia)<|Cal.mk<|Yaa.min2<|Cal.len hl (by clear q hsg hnm hl; lia)<|Bin.mk ⟨_,_,.mul _ _ (.inl (Yjv _ hn)),?_⟩
 refine Ys1.add (Yq7 k ns.length)<|Bin.mulr rfl<|Cal.mk<|Ylj (f:=k+stp ns.length) TO hs (Yab hsg) (Yab hnm) (by clear q hsg hnm hl; lia) fun tl j3 htl=>Bin.mulr rfl ?_
 refine Itm.mk (Ycj (v:=(Ygm u hd tl i4).v) (j:=i4) Yac e4 ?_ (by simp) ?_)
 · exact lt4 (P:=fun i=>[(Pt.alt [.row [u,hd],tl]).v,(Pt.alt [tl,.row [u,hd]]).v,(Pt.row [u,hd]).v,tl.v][i]?=some (Ygm u hd tl i).v) rfl rfl rfl rfl i4 h4
 simp only [Ze]
 exact Bin.mulr rfl<|Br.mk (fun zz=>q _ _ (.wr hu hhd htl i4)) fun zz=>q _ _ (.mk hu hhd htl i4)
theorem Yfw (TO:Yag (T09 w s)) {cell:Int}(q:∀ x y z o,Sg x y z→Q (.ref (σ.length+1)) (σ++[o,.list [.str (S [x]),.str (S [y]),.str (S [z])]])):Yaa (T09 w s) (d+2) X (.glob "_law_signs_by") [.int cell] Q σ:=by
 refine Yaa.go TO rfl rfl ?_
 refine Cal.mk<|Ydp TO fun a ha=>Bin.mulr rfl<|Cal.mk<|Ydp TO fun b hb=>Bin.mulr rfl<|Cal.mk<|Ydp TO fun c hc=>Cal.mk<|Yaa.sorted (bs:=[S [a],S [b],S [c]]) Yac (by decide:3 < 64) fun bs' hp hst=>?_
 obtain ⟨x,y,z,rfl,hx,hy,hz,hxy,hyz⟩:=Yjz ha hb hc hp hst
 have:=q x y z (.list [.str (S [a]),.str (S [b]),.str (S [c])]) ⟨hx,hy,hz,hxy,hyz⟩
 rw [Zf,Ze]
 exact this
end
section
variable {w:World}{s:Shared}{d:Nat}{X:QX}{Q:QE}{σ:Hp}
theorem Yuf (cell:Int):∃ n:Nat,(if (cell.fdiv 5).fmod 8 == 1 then 6+(cell.fdiv 40).fmod 35 else 1+cell.fmod 5)=n∧1≤n∧n≤40:=by
 have r:=Yal (a:=cell.fdiv 40) (b:=35) (by decide)
 have r':=Yal (a:=cell) (b:=5) (by decide)
 split
 · obtain ⟨m,e,l⟩:=Yc8 (n:=35) r
   exact ⟨6+m,by rw [e]; rfl,Za (by decide) (Zy 6 m),Zzb (Zjc l) 6⟩
 · obtain ⟨m,e,l⟩:=Yc8 (n:=5) r'
   exact ⟨1+m,by rw [e]; rfl,Zy 1 m,Za (Zzb (Zjc l) 1) (by decide)⟩
theorem Ymm (TO:Yag (T09 w s)) {cell:Int}(q:∀ n:Nat,1≤n→n≤40→Q (.int n) σ):Yaa (T09 w s) (d+1) X (.glob "_law_many_by") [.int cell] Q σ:=by
 refine Yaa.go TO rfl rfl ?_
 obtain ⟨n,e,h1,h2⟩:=Yuf cell
 have q:=q n h1 h2
 rw [← e] at q
 refine Br.mk (fun h=>?_) fun h=>?_
 · rw [if_pos h] at q; exact q
 · rw [if_neg (by rw [h]; decide)] at q; exact q
end
section
variable {w:World}{s:Shared}{d:Nat}{X:QX}{Q:QE}{σ:Hp}
theorem Yde.no {T:Tp}{sc:Scope}{ρ:Loc}{Q':Option Int→Hp→Prop}(q:Q' Option.none σ):Yde T d sc ρ X Option.none Q' σ:=q
theorem Yde.yes {T:Tp}{sc:Scope}{ρ:Loc}{e:Expr}{Q':Option Int→Hp→Prop}(h:Yai T d sc ρ X e (fun v σ'=>∃ i,v=.int i∧Q' (some i) σ') σ):Yde T d sc ρ X (some e) Q' σ:=h
theorem Yk7 (l:List Nat):(l.map fun c=>V.str (S [c]))=(l.map fun c=>S [c]).map V.str:=List.map_map.symm
theorem Yn5 (l:List Nat):((l.map fun c=>S [c]).map (·.length)).sum=l.length:=by
 induction l with
 | nil=>rfl
 | cons a r ih=>simp only [List.map_cons,List.sum_cons,ih,Ya4,List.length_cons,List.length_nil]; (clear ih; lia)
theorem Ypq {c:Int}{n i:Nat}(h:i < n):(Ya9 c n)[i]?=some (Yc1 (c+5*(i:Int))):=by
 simp [Ya9,h]
theorem Yoj:(Str.ofString "" : Str)=S []:=by decide +kernel
theorem Ywp:(Str.ofString "z" : Str)=S [122]:=by decide +kernel
theorem Ysw {a b:List Nat}{Q:QE}{σ:Hp}(ha:a.length≤500) (hb:b.length≤500) (q:Q (.str (S (a++b))) σ):Bin .Add (.str (S a)) (.str (S b)) Q σ:=.cat (by rw [Ya4,Ya4]; exact szo (Za (Zcb ha hb) (by decide))) ((Yrj a b).symm▸q)
theorem Yje {T:Tp}{c:Int}{n l:Nat}{Q:QE}{σ:Hp}(hl:σ[l]?=some (.list ((Ya9 c n).map fun c=>V.str (S [c])))) (hn:n≤20) (q:Q (.str (S (Ya9 c n))) σ):Cal T d X (.bi "str.join") [.str (Str.ofString ""),.ref l] Q σ :=
 ⟨Yaa.join (Yk7 (Ya9 c n)▸hl) (by rw [Yn5,Zc,Ybb]; clear q hl; lia) (by decide +kernel) (by rw [Yoj,Ytj]; exact q)⟩
theorem Ykb {m:Int}{n:Nat}(e:m=n) (h:n < 26) (q:Q (.str (S [97+n])) σ):Itm (.str (Str.ofString "abcdefghijklmnopqrstuvwxyz")) (.int m) Q σ:=e▸Ycz (Zvc n) (Zfb.mpr h) q
theorem Y0b {style cell:Int}{k n:Nat}(h0:style.fmod 4=0) (hn:cell.fmod 11=n):Ya6 style cell k=Ybd k++Ya9 cell n:=by unfold Ya6; rw [if_pos h0,hn]; rfl
theorem Yzs {style cell:Int}{k n i:Nat}(h0:¬ style.fmod 4=0) (h1:style.fmod 4=1) (hn:(style.fdiv 4).fmod 11=n) (hi:((style*7).fmod 1009).fmod (n+1)=i):Ya6 style cell k=(Ya9 style n).take i++Ybd k++(Ya9 style n).drop i:=by
 unfold Ya6; rw [if_neg h0,if_pos h1,hn]
 have e:((style*7).fmod 1009).fmod ((Ya9 style n).length+1)=i:=(Ybb style n).symm▸hi
 show List.take (((style*7).fmod 1009).fmod ((Ya9 style n).length+1)).toNat (Ya9 style n)++_++List.drop (((style*7).fmod 1009).fmod ((Ya9 style n).length+1)).toNat (Ya9 style n)=_
 rw [e]; rfl
theorem Yy7 {style cell:Int}{k:Nat}(h0:¬ style.fmod 4=0) (h1:¬ style.fmod 4=1) (h2:style.fmod 4=2):Ya6 style cell k=if k < 12 then List.replicate (k+1) (Yc1 (style.fdiv 4)) else Ybd k++[122]:=by unfold Ya6; rw [if_neg h0,if_neg h1,if_pos h2]
theorem Yx5 {style cell:Int}{k:Nat}(h0:¬ style.fmod 4=0) (h1:¬ style.fmod 4=1) (h2:¬ style.fmod 4=2):Ya6 style cell k=if k < 26 then [97+k] else Ybd k:=by unfold Ya6; rw [if_neg h0,if_neg h1,if_neg h2]
theorem Ym7 {c k:Nat}(h3:k < 12):MulOk (S [c]) ((k:Int)+1):=by
 refine ⟨by simp; lia,fun zz zz=>?_,fun zz zz=>?_⟩
 · rw [Ya4]
   simp only [List.length_cons,List.length_nil]
   have:(1:Int)≤(2 ^ 63 - 1) / ((k:Int)+1):=by rw [Int.le_ediv_iff_mul_le (by lia)]; lia
   lia
 · rw [Ya4]
   show decide (_ > sizeLine)=false
   exact Zrc (Zo.mpr (szo (Za (show 1*(k+1)≤12 from (Nat.one_mul (k+1)).symm▸h3) (by decide:12≤16777216))))
theorem is3 {a:Int}(r:0≤a∧a < 4) (h0:¬ a=0) (h1:¬ a=1) (h2:¬ a=2):(a == 3)=true:=by rw [beq_iff_eq]; lia
theorem Yzx {a b:Nat}(h:decide ((a:Int) < b)=true):a < b:=Zfb.mp (Zgb h)
theorem Ywk {a b:Nat}(h:decide ((a:Int) < b)=false):¬ a < b:=fun g=>of_decide_eq_false h (Zfb.mpr g)
theorem Yi3 {T:Tp}{sc scope:Scope}{ρ:Loc}{x:Str}{elt:Expr}{m c:Int}{n:Nat}(hm:m=n) (hn:n≤20) (q:Q (.ref σ.length) (σ++[.list ((Ya9 c n).map fun c=>V.str (S [c]))]))
   (h:∀ i:Nat,Yai T d (Yfa scope sc) (upd (Ybc scope ρ) x (some (.int i))) X elt (fun v σ'=>v=.str (S [97+((c+5*(i:Int)).fmod 26).toNat])∧σ'=σ) σ):Ybv T d sc ρ X scope x [] elt Q (.rng m) σ:=by
 subst hm
 refine ⟨_,fun i acc σ'=>acc=((Ya9 c n).take i).map (fun c=>V.str (S [c]))∧σ'=σ,⟨by simp,rfl⟩,fun i acc σ' hJ=>⟨Yeo (by clear hn hJ q h; lia) (by clear hJ q h; lia),?_⟩,fun acc σ' hJ=>?_,fun i y acc σ' hJ hy=>?_⟩
 · rw [hJ.1]
   simp only [Zc,List.length_take,Ybb]; exact szo (by clear hJ q h; lia)
 · obtain ⟨rfl,rfl⟩:=hJ
   rw [Zc,List.length_range,Zzc,List.take_of_length_le (by rw [Ybb]; exact Zl _)]
   exact q
 · obtain ⟨rfl,rfl⟩:=hJ
   obtain ⟨hi,rfl⟩:=Ykz hy
   refine (h i).mono (fun v σ' hv=>?_) fun zz zz h=>h
   obtain ⟨rfl,rfl⟩:=hv
   refine ⟨?_,rfl⟩
   rw [Ya3 (Ypq (by simpa using hi)),Zfc]; rfl
theorem Ymu (TO:Yag (T09 w s)) {style cell:Int}{k:Nat}(hk:k < 40) (q:∀ junk,Q (.str (S (Ya6 style cell k))) (σ++junk)):Yaa (T09 w s) (d+1) X (.glob "_law_name_by") [.int style,.int cell,.int k] Q σ:=by
 refine Yaa.go TO rfl rfl ?_
 have q:∀ {l:List Nat}(junk:Hp),Ya6 style cell k=l→Q (.str (S l)) (σ++junk):=fun j e=>e▸q j
 have q0:∀ {l:List Nat},Ya6 style cell k=l→Q (.str (S l)) σ:=fun e=>Zlc σ▸q [] e
 have le2:(Ybd k).length≤500:=(by decide:2≤500)
 refine Ykb (Ywu k 26) (Nat.mod_lt k (by decide))<|Ykb (Ysm k 26) (Zk (Nat.div_le_div_right (Zq hk)) (by decide:40 / 26 < 26))<|Ysw (by decide:1≤500) (by decide:1≤500) ?_
 refine Br.mk (fun h0=>?_) fun h0=>Br.mk (fun h1=>?_) fun h1=>?_
 · refine (Yc8 (n:=11) (Yal (a:=cell) (b:=11) (by decide))).elim fun n hn=>?_
   have hn2:=hn.2
   have hn:=hn.1
   have l20:n≤20:=Za (Zq hn2) (by decide)
   refine Yak.join<|Cal.range<|Yi3 (c:=cell) hn l20 (Yje (c:=cell) (n:=n) Yac l20 (Ysw le2 ((Ybb cell n).symm▸Za l20 (by decide)) (q _ (Y0b (eq_of_beq h0) hn)))) fun i=>Yc9 TO rfl 40 _ _ _ ?_
   have r:=Yal (a:=cell+5*(i:Int)) (b:=26) (by decide)
   exact Bin.mull rfl<|Ycz r.1 r.2 ⟨rfl,rfl⟩
 · refine (Yc8 (n:=11) (Yal (a:=style.fdiv 4) (b:=11) (by decide))).elim fun n hn=>?_
   have hn2:=hn.2
   have hn:=hn.1
   have l20:n≤20:=Za (Zq hn2) (by decide)
   refine Yak.join<|Cal.range<|Yi3 (c:=style) hn l20 (Yje (c:=style) (n:=n) Yac l20 ?_) fun i=>Yc9 TO rfl 40 _ _ _ ?_
   · refine (Yc8 (n:=n+1) (Yal (a:=(style*7).fmod 1009) (b:=(n:Int)+1) (Int.lt_add_one_of_le (Zvc n)))).elim fun i hi=>?_
     have hie:=hi.1
     have hi:=hi.2
     have q1:=q [.list ((Ya9 style n).map fun c=>V.str (S [c]))] (Yzs (ne_of_beq_false h0) (eq_of_beq h1) hn hie)
     have hal:(Ya9 style n).length≤400:=(Ybb style n).symm▸Za l20 (by decide)
     have hil:i≤(Ya9 style n).length:=(Ybb style n).symm▸Zjc hi
     rw [← Ybb style n] at hie
     generalize Ya9 style n=al at q1 hal hil hie ⊢
     have hsz:(S al).length≤sizeLine:=(Ya4 al).symm▸szo (Za hal (by decide))
     have ht:(al.take i).length≤400:=Za (Zic ..) hal
     refine Bin.mulr rfl<|Cal.len (n:=al.length) (Yc7 (Ya4 al)) (Zk hal (by decide)) ?_
     refine Evx.mk (Yai.sliceStr (fun zz zz=>rfl) (Yai.nm rfl rfl rfl (Yde.no (Yde.yes (Yai.nm rfl rfl rfl ⟨_,rfl,_,rfl,hsz,?_⟩)))))
     rw [hie,Ymq hil]
     refine Ysw (Za ht (by decide)) le2 (Evx.mk (Yai.sliceStr (fun zz zz=>rfl) (Yai.nm rfl rfl rfl (Yde.yes (Yai.nm rfl rfl rfl ⟨_,rfl,Yde.no ⟨_,rfl,hsz,?_⟩⟩)))))
     rw [Yjn hil]
     exact Ysw (Zf▸Za (Zac ht 2) (by decide)) (List.length_drop▸Za (Nat.sub_le ..) (Za hal (by decide))) q1
   · have r:=Yal (a:=style+5*(i:Int)) (b:=26) (by decide)
     exact Bin.mull rfl<|Ycz r.1 r.2 ⟨rfl,rfl⟩
 · have h0:¬ style.fmod 4=0:=ne_of_beq_false h0
   have h1:¬ style.fmod 4=1:=ne_of_beq_false h1
   refine Br.mk (fun h2=>Br.mk (fun h3=>?_) fun h3=>?_) fun h2=>?_
   · have hs26:=Yal (a:=style.fdiv 4) (b:=26) (by decide)
     have h3:k < 12:=Yzx h3
     exact Ycz hs26.1 hs26.2 (Bin.mk ⟨_,_,.rep _ _ (Ym7 h3),Y0c _ _▸q0 ((Yy7 h0 h1 (eq_of_beq h2)).trans (if_pos h3))⟩)
   · exact Br.t h2<|Bin.cat (s:=S (Ybd k)) (t:=Str.ofString "z") (by rw [Ywp,Ya4,Ya4]; exact szo (by decide:3≤16777216)) (by rw [Ywp,Yrj]; exact q0 ((Yy7 h0 h1 (eq_of_beq h2)).trans (if_neg (Ywk h3))))
   · have h2':¬ style.fmod 4=2:=ne_of_beq_false h2
     refine Br.f h2 (Br.t (is3 (Yal (by decide)) h0 h1 h2') (Br.mk (fun h4=>?_) fun h4=>?_))
     · exact Ykb rfl (Yzx h4) (q0 ((Yx5 h0 h1 h2').trans (if_pos (Yzx h4))))
     · exact q0 ((Yx5 h0 h1 h2').trans (if_neg (Ywk h4)))
end
section
variable {w:World}{s:Shared}{d:Nat}{X:QX}{Q:QE}{σ:Hp}
structure Ygo (ns:List Str) (rs:List (Str×Pt)):Prop where
 at_:∀ (j:Nat) (r:Str×Pt),rs[j]?=some r→ns[j]?=some r.1∧Drawn ns j r.2
theorem Ylt {α:Type}{rs:List α}{x r:α}{j:Nat}(h:(rs++[x])[j]?=some r):rs[j]?=some r∨(j=rs.length∧x=r):=by
 rcases Nat.lt_trichotomy j rs.length with g | g | g
 · rw [Zbb g] at h; exact .inl h
 · rw [g,List.getElem?_concat_length] at h; exact .inr ⟨g,Yad h⟩
 · rw [Ztc (Zq g),Zrb (Nat.sub_pos_of_lt g)] at h; exact (Yaf h).elim
theorem Ygo.snoc {ns:List Str}{rs:List (Str×Pt)}{n:Str}{p:Pt}(h:Ygo ns rs) (hn:ns[rs.length]?=some n) (hp:Drawn ns rs.length p):Ygo ns (rs++[(n,p)]) :=
 ⟨fun j r hj=>(Ylt hj).elim (h.at_ j r) fun e=>e.1▸e.2▸⟨hn,hp⟩⟩
theorem Ygo.wts {ns:List Str}{rs:List (Str×Pt)}(h:Ygo ns rs) (r:Str×Pt) (hr:r∈rs):r.2.wt≤20000:=Zh (List.mem_iff_getElem?.mp hr) fun j hj=>(h.at_ j r hj).2.piece.2.1
theorem Ygo.names {ns:List Str}{rs:List (Str×Pt)}(h:Ygo ns rs) (hl:rs.length=ns.length):rs.map (·.1)=ns:=by
 apply List.ext_getElem?
 intro j
 rw [Zdb]
 cases hj:rs[j]? with
 | none=>rw [Zrb (hl▸List.getElem?_eq_none_iff.mp hj)]; rfl
 | some r=>rw [(h.at_ j r hj).1]; rfl
theorem Ygo.good {ns:List Str}{rs:List (Str×Pt)}(h:Ygo ns rs) (hl:rs.length=ns.length) (h1:1≤ns.length) (h40:ns.length≤40) (hnd:ns.Nodup) (hnm:∀ n∈ns,Yel n=true):Yax rs∧Ygr rs:=by
 have e:=h.names hl
 refine ⟨⟨hl▸h1,hl▸h40,e▸hnd,fun r hr=>(List.mem_iff_getElem?.mp hr).elim fun j hj=>?_⟩,fun i r hi B y hy=>((h.at_ i r hi).2.piece.2.2 B y hy).elim fun j g=>?_⟩
 · have a:=(h.at_ j r hj).2.piece.1
   exact ⟨hnm _ (Zn (h.at_ j r hj).1),Pt.ok_good _ a.1,a.2.1,Pt.ok_few _ _ (Zl _) a.1,Zk a.2.2 (by decide),fun n hn=>(Pt.ok_asks hn a.1).elim fun i g=>e▸Zn g.2⟩
 · have hjl:j < rs.length:=hl▸(Zb.mp g.2).1
   exact ⟨j,rs[j],g.1,Zp hjl,(Zab (g.2.symm.trans (h.at_ j rs[j] (Zp hjl)).1)).symm⟩
theorem Yrm {style:Int}{f:Nat→Int}{n:Nat}(h40:n≤40):((List.range n).map fun k=>S (Ya6 style (f k) k)).Nodup∧∀ m∈(List.range n).map (fun k=>S (Ya6 style (f k) k)),Yel m=true:=by
 refine ⟨?_,fun m hm=>?_⟩
 · rw [List.nodup_iff_pairwise_ne,List.pairwise_map]
   refine List.Pairwise.imp_of_mem ?_ (List.nodup_range (n:=n))
   intro a b ha hb hab e
   rw [List.mem_range] at ha hb
   exact hab (Ymb (Zz ha h40) (Zz hb h40) (Yzo e))
 · obtain ⟨k,hk,rfl⟩:=Zsb.mp hm
   exact Ysp (Zz (List.mem_range.mp hk) h40)
theorem ix3 {n i:Nat}(hn:n≤40) (hi:i < n):0≤(3:Int)+i∧(3:Int)+i < 2 ^ 62:=⟨Zvc (3+i),Zfb.mpr (Zk (Zzb (Za (Zq hi) hn) 3) (by decide))⟩
inductive Yx0 (ns:List Str) (σ:Hp) (i:Nat) (acc:List V) (σ':Hp):Prop where
 | mk (junk:Hp) (q0:acc=(ns.take i).map V.str) (q1:σ'=σ++junk):Yx0 ns σ i acc σ'
inductive Yw9 (n:Nat) (σ:Hp) (i:Nat) (acc:List V) (σ':Hp):Prop where
 | mk (cs:List Int) (q0:cs.length=i) (q1:acc=cs.map V.int) (q2:i≤n) (q3:σ'=σ):Yw9 n σ i acc σ'
inductive Y03 (ns:List Str) (n:Nat) (σ:Hp) (i:Nat) (acc:List V) (σ':Hp):Prop where
 | mk (rs:List (Str×Pt)) (junk:Hp) (q0:i≤n) (q1:Ygo ns rs) (q2:rs.length=i) (q3:acc=rs.map Ybi) (q4:σ'=σ++junk):Y03 ns n σ i acc σ'
theorem Yjw (TO:Yag (T09 w s)) {xs:List Int}(hx:xs.length < 2 ^ 62) (q:∀ rs l junk,Yax rs→Ygr rs→(∀ r∈rs,r.2.wt≤20000)→(∀ j r,rs[j]?=some r→Drawn (rs.map (·.1)) j r.2)→rs.length≤40→σ.length≤l→(σ++junk)[l]?=some (.list (rs.map Ybi))→Q (.ref l) (σ++junk)):Yaa (T09 w s) (d+4) X (.glob "_law_rules_by") [.scr xs] Q σ:=by
 refine Yaa.go TO rfl rfl ?_
 refine Cal.mk<|Ya8 TO (by decide) (by decide) hx<|Cal.mk<|Ymm TO fun n h1 hM=>Cal.mk<|Ya8 TO (by decide) (by decide) hx<|Cal.mk<|Yfw TO fun x y z o hs=>Cal.mk<|Ya8 TO (by decide) (by decide) hx<|Cal.mk<|Ya8 TO (by decide) (by decide) hx ?_
 generalize hst:xs.getD (0:Int).toNat 0+xs.getD (2:Int).toNat 0=style
 refine Ys1.add hst ?_
 clear hst
 have h40:n≤40:=Za hM (by decide)
 have hok:=Yrm (style:=style) (f:=fun k=>xs.getD (3+k) 0) h40
 have hnl:((List.range n).map fun k=>S (Ya6 style (xs.getD (3+k) 0) k)).length=n:=(Zc _).trans List.length_range
 have hnat:∀ i,i < n→((List.range n).map fun k=>S (Ya6 style (xs.getD (3+k) 0) k))[i]?=some (S (Ya6 style (xs.getD (3+i) 0) i)):=fun i hi=>by rw [Zdb,List.getElem?_range hi]; rfl
 generalize ((List.range n).map fun k=>S (Ya6 style (xs.getD (3+k) 0) k))=ns at hok hnl hnat
 have hrng:∀ {σ:Hp},Yef σ (.rng (n:Int))=some ((List.range (n:Int).toNat).map fun (k:Nat)=>V.int k):=Yeo (Zvc n) (Zfb.mpr (Zk h40 (by decide)))
 have hrl:((List.range (n:Int).toNat).map fun (k:Nat)=>V.int k).length=n:=(Zc _).trans List.length_range
 have hri:∀ {i:Nat}{y:V},((List.range (n:Int).toNat).map fun (k:Nat)=>V.int k)[i]?=some y→i < n∧y=.int i:=fun h=>Ykz (n:=n) h
 have sz40:∀ {i:Nat},i≤40→i≤sizeLine:=fun h=>szo (Za h (by decide))
 have hsg:(σ++[o,.list [.str (S [x]),.str (S [y]),.str (S [z])]])[σ.length+1]?=some (.list [.str (S [x]),.str (S [y]),.str (S [z])]):=Yif
 have q:∀ rs l σ' (j:Hp),σ'=σ++[o,.list [.str (S [x]),.str (S [y]),.str (S [z])]]++j→Yax rs→Ygr rs→(∀ r∈rs,r.2.wt≤20000)→(∀ j r,rs[j]?=some r→Drawn (rs.map (·.1)) j r.2)→rs.length≤40→(σ++[o,.list [.str (S [x]),.str (S [y]),.str (S [z])]]).length≤l→σ'[l]?=some (.list (rs.map Ybi))→Q (.ref l) σ':=fun rs l σ' j e g1 g2 g3 g3' g4 g5 g6=>by
   rw [e,Ze] at g6 ⊢
   exact q rs l _ g1 g2 g3 g3' g4 (Za (Zf▸Zy ..) g5) g6
 generalize (σ++[o,Yaq.list [.str (S [x]),.str (S [y]),.str (S [z])]])=σ1 at hsg q ⊢
 generalize σ.length+1=sg at hsg ⊢
 refine Cal.range ⟨_,Yx0 ns σ1,⟨[],rfl,(Zlc σ1).symm⟩,fun i acc σ' hJ=>⟨hrng,hJ.rec fun zz q0 zz=>by rw [q0,Zc]; exact sz40 (Za (Zic ..) (hnl▸h40))⟩,fun acc σ' hJ=>?_,fun i v acc σ' hJ hy=>?_⟩
 rotate_left
 · refine hJ.rec fun junk q0 q1=>?_
   have hi:=(hri hy).1
   apply Yao q0
   apply Yao q1
   apply Yao (hri hy).2
   refine Yc9 TO rfl 40 _ _ _<|Cal.mk<|Ya8 TO (ix3 h40 hi).1 (ix3 h40 hi).2 hx<|Cal.mk<|Ymu TO (Zz hi h40) fun jk=>⟨junk++jk,?_,Ze ..⟩
   rw [Ya3 (hnat i hi),Zfc]; rfl
 refine hJ.rec fun j1 q0 q1=>?_
 rw [hrl,← hnl,Zgc] at q0
 apply Yao q0
 apply Yao q1
 clear hJ q0 q1
 have hns:=Yac (σ:=σ1++j1) (o:=.list (ns.map V.str))
 have hsg:(σ1++j1++[.list (ns.map V.str)])[sg]?=some (.list [.str (S [x]),.str (S [y]),.str (S [z])]):=Yab (Yab hsg)
 have q:∀ rs l σ' (j:Hp),σ'=σ1++j1++[Yaq.list (ns.map V.str)]++j→Yax rs→Ygr rs→(∀ r∈rs,r.2.wt≤20000)→(∀ j r,rs[j]?=some r→Drawn (rs.map (·.1)) j r.2)→rs.length≤40→(σ1++j1++[Yaq.list (ns.map V.str)]).length≤l→σ'[l]?=some (.list (rs.map Ybi))→Q (.ref l) σ':=fun rs l σ' j e g1 g2 g3 g3' g4 g5=>q rs l σ' (j1++[Yaq.list (ns.map V.str)]++j) (e.trans (by simp only [Ze])) g1 g2 g3 g3' g4 (Za (by rw [Ze,Zf]; exact Zy ..) g5)
 generalize (σ1++j1).length=nl at hns ⊢
 generalize (σ1++j1++[Yaq.list (ns.map V.str)])=σ2 at hsg hns q ⊢
 refine Cal.range ⟨_,Yw9 n σ2,⟨[],rfl,rfl,Zkb _,rfl⟩,fun i acc σ' hJ=>⟨hrng,hJ.rec fun cs q0 q1 q2 zz=>q1▸sz40 (by rw [Zc,q0]; exact Za q2 h40)⟩,fun acc σ' hJ=>?_,fun i v acc σ' hJ hy=>?_⟩
 rotate_left
 · refine hJ.rec fun cs hc q1 zz q3=>?_
   have hi:=(hri hy).1
   apply Yao q1
   apply Yao q3
   apply Yao (hri hy).2
   exact Yc9 TO rfl 40 _ _ _<|Cal.mk<|Ya8 TO (ix3 h40 hi).1 (ix3 h40 hi).2 hx<|Bin.mull rfl ⟨cs++[_],Zf.trans (congrArg Nat.succ hc),by rw [Zfc]; rfl,hi,rfl⟩
 refine hJ.rec fun cs hc q1 zz q3=>?_
 apply Yao q1
 apply Yao q3
 clear hJ q1 q3
 rw [hrl] at hc
 have hcs:=Yac (σ:=σ2) (o:=.list (cs.map V.int))
 refine Cal.range ⟨_,Y03 ns n (σ2++[.list (cs.map V.int)]),⟨[],[],Zkb _,⟨fun j r h=>nomatch h⟩,rfl,rfl,(Zlc _).symm⟩,fun i acc σ' hJ=>⟨hrng,hJ.rec fun rs zz q0 zz q2 q3 zz=>q3▸sz40 (by rw [Zc,q2]; exact Za q0 h40)⟩,fun acc σ' hJ=>?_,fun i v acc σ' hJ hy=>?_⟩
 · refine hJ.rec fun rs junk hi hR hc q3 q4=>?_
   apply Yao q3
   apply Yao q4
   rw [hrl] at hc
   have g:=hR.good (hc.trans hnl.symm) (hnl.symm▸h1) (hnl.symm▸h40) hok.1 hok.2
   exact q rs _ _ ([.list (cs.map V.int)]++junk++[.list (rs.map Ybi)]) (by simp only [Ze]) g.1 g.2 hR.wts (fun j r hj=>(hR.names (hc.trans hnl.symm)).symm▸(hR.at_ j r hj).2) (hc▸hM) (by rw [Ze,Zf]; exact Zy ..) Yac
 · refine hJ.rec fun rs junk hi0 hR hc' q3 q4=>?_
   have hi:=(hri hy).1
   apply Yao q3
   apply Yao q4
   apply Yao (hri hy).2
   have l62:∀ {m:Nat},m=n→m < 2 ^ 62:=fun e=>e▸Zk h40 (by decide)
   refine Yc9 TO rfl 40 _ _ _<|Itm.mk<|Ycj (Yab (Yab hns)) rfl (by rw [Zdb,hnat i hi]; rfl) (by rw [Zc]; exact l62 hnl)<|Itm.mk<|Ycj (v:=.int cs[i]) (Yab hcs) rfl (by rw [Zdb,Zp (hc.symm▸hi)]; rfl) (by rw [Zc]; exact l62 hc)<|Cal.mk <|
     Ylr TO hs (Yab (Yab hsg)) (Yab (Yab hns)) (hnl▸h40) fun p jk hp=>?_
   exact ⟨rs++[(S (Ya6 style (xs.getD (3+i) 0) i),p)],junk++jk,hi,hR.snoc (hc'.symm▸hnat i hi) (hc'.symm▸hp),Zf.trans (congrArg Nat.succ hc'),by rw [Zfc]; rfl,Ze ..⟩
end
section
variable {w:World}{s:Shared}{d:Nat}{X:QX}{Q:QE}{σ:Hp}
theorem Yb7 {σ:Hp}{x y:Yaq}:(σ++[x]).set σ.length y=σ++[y]:=by simp
theorem Yks {σ:Hp}{x y z:Yaq}:(σ++[x]++[z]).set σ.length y=σ++[y,z]:=by simp
structure Yzm (T:Tp) (C:Addr):Prop where
 cls:Ye9 T "Frame" C
 piece:Ydm T C "piece"
 place:Ydm T C "place"
 turn:Ydm T C "turn"
 here:Ydm T C "here"
 kids:Ydm T C "kids"
theorem Yb3:∃ C,Yzm (T09 w s) C:=⟨_,⟨rfl,rfl,rfl,rfl,rfl,rfl⟩,⟨rfl,rfl⟩,⟨rfl,rfl⟩,⟨rfl,rfl⟩,⟨rfl,rfl⟩,⟨rfl,rfl⟩⟩
noncomputable def frF (pv:V) (i t h:Int) (k:Nat):List (Str×V):=[("piece",pv),("place",.int i),("turn",.int t),("here",.int h),("kids",.ref k)]
theorem Yky (TO:Yag (T09 w s)) {pv:V}{i:Int}(q:Q (.ref σ.length) (σ++[.inst "Frame" (frF pv i 0 i (σ.length+1)),.list []])):Yaa (T09 w s) (d+3) X (.glob "Frame") [pv,.int i] Q σ:=by
 obtain ⟨C,hC⟩:=Yb3 (w:=w) (s:=s)
 refine Yaa.make TO rfl rfl rfl rfl<|Ycc.goM TO rfl rfl ?_
 refine Yam.to [("piece",pv)] Yac hC.cls hC.piece (by simp) rfl Yb7 ?_
 refine Yam.to [("piece",pv),("place",.int i)] Yac hC.cls hC.place (by simp) rfl Yb7 ?_
 refine Yam.to [("piece",pv),("place",.int i),("turn",.int 0)] Yac hC.cls hC.turn (by simp) rfl Yb7 ?_
 refine Yam.to [("piece",pv),("place",.int i),("turn",.int 0),("here",.int i)] Yac hC.cls hC.here (by simp) rfl Yb7 ?_
 exact Yam.to (frF pv i 0 i (σ++[Yaq.inst "Frame" [("piece",pv),("place",.int i),("turn",.int 0),("here",.int i)]]).length) (Yab Yac) hC.cls hC.kids (by simp) rfl (σ':=σ++[.inst "Frame" (frF pv i 0 i (σ.length+1)),.list []]) (by rw [Yks,Zf]; rfl) ⟨rfl,q⟩
end
section
variable {w:World}{s:Shared}{d:Nat}{X:QX}{Q:QE}{σ:Hp}
theorem Yhv {vs:List V}{j:Nat}{v:V}(hj:vs[j]?=some v) (hb:vs.length < 1000):Ywo vs (j:Int)=some v:=by
 have hl:=(Zb.mp hj).1
 show (bif Nat.ble j 1000 then vs[j]? else none)=some v
 rw [Nat.ble_eq_true_of_le (by exact Zq (Nat.lt_trans hl hb))]; exact hj
theorem Ylk {ps:List Pt}{t:Nat}{p:Pt}(h:ps[t]?=some p):(Pt.vs ps)[t]?=some p.v:=by rw [Pt.vs_map,Zdb,h]; rfl
theorem Yqs (TO:Yag (T09 w s)) {ps:List Pt}{i t h l k:Nat}(h1:σ[l]?=some (.inst "Frame" (frF (Pt.row ps).v i t h k))) (hp:ps.length < 1000)
   (q1:ps[t]?=none→Q (.tup [.none,.tup [.int h,.ref k]]) σ) (q2:∀ p,ps[t]?=some p→Q (.tup [.tup [p.v,.int h],.none]) σ) (ht:t≤ps.length)  :
   Yaa (T09 w s) (d+2) X (.glob "of_row") [.ref l,.none] Q σ:=by
 obtain ⟨C,hC⟩:=Yb3 (w:=w) (s:=s)
 refine Yaa.go TO rfl rfl ?_
 refine Cmp.notN (r:=true) rfl ?_
 refine Yae.of h1 rfl rfl hC.cls hC.piece ?_
 refine Yae.of h1 rfl rfl hC.cls hC.turn ?_
 refine Cal.len (n:=ps.length) (Yf5 (by simp [Pt.vs_map])) (by exact Za (by assumption) (by decide)) ?_
 refine Br.mk (fun h2=>?_) fun h2=>?_
 · refine Yae.of h1 rfl rfl hC.cls hC.here<|Yae.of h1 rfl rfl hC.cls hC.kids ?_
   exact q1 (Zrb (by simp at h2; lia))
 · refine Yae.of h1 rfl rfl hC.cls hC.turn ?_
   have hlt:t < ps.length:=by simp at h2; lia
   have hg:=Zp hlt
   refine Ydi.at (Yhv (Ylk hg) (by rw [Pt.vs_map,Zc]; exact hp))<|Yae.of h1 rfl rfl hC.cls hC.here ?_
   exact q2 _ hg
theorem Ywv (TO:Yag (T09 w s)) {l la:Nat}(q:Q (.tup [.none,.tup [.none,.ref σ.length]]) (σ++[.list []])):Yaa (T09 w s) (d+2) X (.glob "of_row") [.ref l,.tup [.none,.ref la]] Q σ:=by
 refine Yaa.go TO rfl rfl ?_
 exact Cmp.notN (r:=false) rfl<|Cmp.isN (r:=true) rfl q
theorem Yvq (TO:Yag (T09 w s)) {ps:List Pt}{i t h e l k la:Nat}{vs us:List V}(h1:σ[l]?=some (.inst "Frame" (frF (Pt.row ps).v i t h k))) (h2:σ[k]?=some (.list vs)) (h3:σ[la]?=some (.list us)) (hk:l≠k) (ha:la≠l) (hp:ps.length < 1000) (hz:vs.length+us.length≤sizeLine)
   (q1:∀ σ',σ'=(σ.set k (.list (vs++us))).set l (.inst "Frame" (frF (Pt.row ps).v i (t+1:Nat) e k))→ps[t+1]?=none→Q (.tup [.none,.tup [.int e,.ref k]]) σ') (q2:∀ σ',σ'=(σ.set k (.list (vs++us))).set l (.inst "Frame" (frF (Pt.row ps).v i (t+1:Nat) e k))→∀ p,ps[t+1]?=some p→Q (.tup [.tup [p.v,.int e],.none]) σ') (ht:t < ps.length) :
   Yaa (T09 w s) (d+2) X (.glob "of_row") [.ref l,.tup [.int e,.ref la]] Q σ:=by
 obtain ⟨C,hC⟩:=Yb3 (w:=w) (s:=s)
 refine Yaa.go TO rfl rfl ?_
 have hl:=(Zb.mp h1).1
 refine Cmp.notN (r:=false) rfl<|Cmp.isN (r:=false) rfl<|Yam.of (frF (Pt.row ps).v i t e k) h1 hC.cls hC.here (by simp [frF]) rfl ?_
 have g1:(σ.set l (.inst "Frame" (frF (Pt.row ps).v i t e k)))[l]?=some (.inst "Frame" (frF (Pt.row ps).v i t e k)):=Zw hl
 have g2:(σ.set l (.inst "Frame" (frF (Pt.row ps).v i t e k)))[k]?=some (.list vs):=by rw [Zi hk]; exact h2
 have g3:(σ.set l (.inst "Frame" (frF (Pt.row ps).v i t e k)))[la]?=some (.list us):=by rw [Zi (Ne.symm ha)]; exact h3
 have e3:∀ o,(((σ.set l (.inst "Frame" (frF (Pt.row ps).v i t e k))).set k (.list (vs++us))).set l o)=(σ.set k (.list (vs++us))).set l o:=fun o=>by
   rw [List.set_comm _ _ hk,List.set_set]
 generalize σ.set l (.inst "Frame" (frF (Pt.row ps).v i t e k))=σ₁ at g1 g2 g3 e3
 refine Yae.of g1 rfl rfl hC.cls hC.kids<|Yak.extend g2<|Cal.mk<|Yaa.extend g2 g3 hz ?_
 have g4:(σ₁.set k (.list (vs++us)))[l]?=some (.inst "Frame" (frF (Pt.row ps).v i t e k)):=by rw [Zi (Ne.symm hk)]; exact g1
 refine Yae.of g4 rfl rfl hC.cls hC.turn<|Yam.of (frF (Pt.row ps).v i (t+1:Nat) e k) g4 hC.cls hC.turn (by simp [frF]) rfl ?_
 have g5:((σ₁.set k (.list (vs++us))).set l (.inst "Frame" (frF (Pt.row ps).v i (t+1:Nat) e k)))[l]?=some (.inst "Frame" (frF (Pt.row ps).v i (t+1:Nat) e k)):=Zw (Zb.mp g4).1
 rw [e3] at g5 ⊢
 generalize hσ:(σ.set k (.list (vs++us))).set l (.inst "Frame" (frF (Pt.row ps).v i (t+1:Nat) e k))=σ₂ at g5
 refine Yae.of g5 rfl rfl hC.cls hC.piece<|Yae.of g5 rfl rfl hC.cls hC.turn<|Cal.len (n:=ps.length) (Yf5 (by simp [Pt.vs_map])) (by exact Za (by assumption) (by decide))<|Br.mk (fun h2=>?_) fun h2=>?_
 · refine Yae.of g5 rfl rfl hC.cls hC.here<|Yae.of g5 rfl rfl hC.cls hC.kids ?_
   exact q1 _ hσ.symm (Zrb (by simp at h2; lia))
 · have hlt:t+1 < ps.length:=by simp at h2; lia
   have hg:=Zp hlt
   refine Yae.of g5 rfl rfl hC.cls hC.turn<|Ydi.at (Yhv (Ylk hg) (by rw [Pt.vs_map,Zc]; exact hp))<|Yae.of g5 rfl rfl hC.cls hC.here ?_
   exact q2 _ hσ.symm _ hg
theorem Yrp (TO:Yag (T09 w s)) {ps:List Pt}{i t h l k:Nat}(h1:σ[l]?=some (.inst "Frame" (frF (Pt.alt ps).v i t h k))) (hp:ps.length < 1000)
   (q1:ps[t]?=none→Q (.tup [.none,.tup [.none,.ref σ.length]]) (σ++[.list []])) (q2:∀ p,ps[t]?=some p→Q (.tup [.tup [p.v,.int i],.none]) σ) (ht:t≤ps.length) :
   Yaa (T09 w s) (d+2) X (.glob "of_choice") [.ref l,.none] Q σ:=by
 obtain ⟨C,hC⟩:=Yb3 (w:=w) (s:=s)
 refine Yaa.go TO rfl rfl ?_
 refine Cmp.notN (r:=true) rfl<|Yae.of h1 rfl rfl hC.cls hC.piece<|Yae.of h1 rfl rfl hC.cls hC.turn<|Cal.len (n:=ps.length) (Yf5 (by simp [Pt.vs_map])) (by exact Za (by assumption) (by decide))<|Br.mk (fun h2=>?_) fun h2=>?_
 · exact q1 (Zrb (by simp at h2; lia))
 · have hg:=Zp (show t < ps.length by simp at h2; lia)
   exact Yae.of h1 rfl rfl hC.cls hC.turn<|Ydi.at (Yhv (Ylk hg) (by rw [Pt.vs_map,Zc]; exact hp))<|Yae.of h1 rfl rfl hC.cls hC.place<|q2 _ hg
theorem Yun (TO:Yag (T09 w s)) {l la e:Nat}(q:Q (.tup [.none,.tup [.int e,.ref la]]) σ):Yaa (T09 w s) (d+2) X (.glob "of_choice") [.ref l,.tup [.int e,.ref la]] Q σ:=by
 refine Yaa.go TO rfl rfl ?_
 exact Cmp.notN (r:=false) rfl<|Cmp.notN (r:=false) rfl q
theorem Yxt (TO:Yag (T09 w s)) {ps:List Pt}{i t h l k la:Nat}(h1:σ[l]?=some (.inst "Frame" (frF (Pt.alt ps).v i t h k))) (hp:ps.length < 1000)
   (q1:∀ σ',σ'=σ.set l (.inst "Frame" (frF (Pt.alt ps).v i (t+1:Nat) h k))→ps[t+1]?=none→Q (.tup [.none,.tup [.none,.ref σ'.length]]) (σ'++[.list []])) (q2:∀ σ',σ'=σ.set l (.inst "Frame" (frF (Pt.alt ps).v i (t+1:Nat) h k))→∀ p,ps[t+1]?=some p→Q (.tup [.tup [p.v,.int i],.none]) σ') (ht:t < ps.length) :
   Yaa (T09 w s) (d+2) X (.glob "of_choice") [.ref l,.tup [.none,.ref la]] Q σ:=by
 obtain ⟨C,hC⟩:=Yb3 (w:=w) (s:=s)
 refine Yaa.go TO rfl rfl ?_
 refine Cmp.notN (r:=false) rfl<|Cmp.notN (r:=true) rfl<|Yae.of h1 rfl rfl hC.cls hC.turn<|Yam.of (frF (Pt.alt ps).v i (t+1:Nat) h k) h1 hC.cls hC.turn (by simp [frF]) rfl ?_
 have g5:(σ.set l (.inst "Frame" (frF (Pt.alt ps).v i (t+1:Nat) h k)))[l]?=some (.inst "Frame" (frF (Pt.alt ps).v i (t+1:Nat) h k)):=Zw (Zb.mp h1).1
 generalize hσ:σ.set l (.inst "Frame" (frF (Pt.alt ps).v i (t+1:Nat) h k))=σ₂ at g5
 refine Yae.of g5 rfl rfl hC.cls hC.piece<|Yae.of g5 rfl rfl hC.cls hC.turn<|Cal.len (n:=ps.length) (Yf5 (by simp [Pt.vs_map])) (by exact Za (by assumption) (by decide))<|Br.mk (fun h2=>?_) fun h2=>?_
 · exact q1 _ hσ.symm (Zrb (by simp at h2; lia))
 · have hg:=Zp (show t+1 < ps.length by simp at h2; lia)
   exact Yae.of g5 rfl rfl hC.cls hC.turn<|Ydi.at (Yhv (Ylk hg) (by rw [Pt.vs_map,Zc]; exact hp))<|Yae.of g5 rfl rfl hC.cls hC.place<|q2 _ hσ.symm _ hg
theorem Yoh (TO:Yag (T09 w s)) {p:Pt}{i t h l k:Nat}(h1:σ[l]?=some (.inst "Frame" (frF (Pt.many p).v i t h k))) (q:Q (.tup [.tup [p.v,.int h],.none]) σ):Yaa (T09 w s) (d+2) X (.glob "of_many") [.ref l,.none] Q σ:=by
 obtain ⟨C,hC⟩:=Yb3 (w:=w) (s:=s)
 refine Yaa.go TO rfl rfl ?_
 exact Cmp.notN (r:=true) rfl<|Yae.of h1 rfl rfl hC.cls hC.piece<|Yae.of h1 rfl rfl hC.cls hC.here q
theorem Yuw (TO:Yag (T09 w s)) {p:Pt}{i t h l k la:Nat}(h1:σ[l]?=some (.inst "Frame" (frF (Pt.many p).v i t h k))) (q:Q (.tup [.none,.tup [.int h,.ref k]]) σ):Yaa (T09 w s) (d+2) X (.glob "of_many") [.ref l,.tup [.none,.ref la]] Q σ:=by
 obtain ⟨C,hC⟩:=Yb3 (w:=w) (s:=s)
 refine Yaa.go TO rfl rfl ?_
 exact Cmp.notN (r:=false) rfl<|Cmp.isN (r:=true) rfl<|Yae.of h1 rfl rfl hC.cls hC.here<|Yae.of h1 rfl rfl hC.cls hC.kids q
theorem Yne (TO:Yag (T09 w s)) {p:Pt}{i t h l k la:Nat}(h1:σ[l]?=some (.inst "Frame" (frF (Pt.many p).v i t h k))) (q:Q (.tup [.none,.tup [.int h,.ref k]]) σ):Yaa (T09 w s) (d+2) X (.glob "of_many") [.ref l,.tup [.int h,.ref la]] Q σ:=by
 obtain ⟨C,hC⟩:=Yb3 (w:=w) (s:=s)
 refine Yaa.go TO rfl rfl ?_
 exact Cmp.notN (r:=false) rfl<|Cmp.isN (r:=false) rfl<|Yae.of h1 rfl rfl hC.cls hC.here<|Br.t (by simp)<|Yae.of h1 rfl rfl hC.cls hC.here<|Yae.of h1 rfl rfl hC.cls hC.kids q
theorem Yro (TO:Yag (T09 w s)) {p:Pt}{i t h e l k la:Nat}{vs us:List V}(h1:σ[l]?=some (.inst "Frame" (frF (Pt.many p).v i t h k))) (h2:σ[k]?=some (.list vs)) (h3:σ[la]?=some (.list us)) (hk:l≠k) (ha:la≠l) (hz:vs.length+us.length≤sizeLine) (he:e≠h)
   (q:∀ σ',σ'=(σ.set k (.list (vs++us))).set l (.inst "Frame" (frF (Pt.many p).v i t e k))→Q (.tup [.tup [p.v,.int e],.none]) σ') :
   Yaa (T09 w s) (d+2) X (.glob "of_many") [.ref l,.tup [.int e,.ref la]] Q σ:=by
 obtain ⟨C,hC⟩:=Yb3 (w:=w) (s:=s)
 refine Yaa.go TO rfl rfl ?_
 have hl:=(Zb.mp h1).1
 refine Cmp.notN (r:=false) rfl<|Cmp.isN (r:=false) rfl<|Yae.of h1 rfl rfl hC.cls hC.here<|Br.f (by simp; lia)<|Yam.of (frF (Pt.many p).v i t e k) h1 hC.cls hC.here (by simp [frF]) rfl ?_
 have g1:(σ.set l (.inst "Frame" (frF (Pt.many p).v i t e k)))[l]?=some (.inst "Frame" (frF (Pt.many p).v i t e k)):=Zw hl
 have g2:(σ.set l (.inst "Frame" (frF (Pt.many p).v i t e k)))[k]?=some (.list vs):=by rw [Zi hk]; exact h2
 have g3:(σ.set l (.inst "Frame" (frF (Pt.many p).v i t e k)))[la]?=some (.list us):=by rw [Zi (Ne.symm ha)]; exact h3
 have e3:(σ.set l (.inst "Frame" (frF (Pt.many p).v i t e k))).set k (.list (vs++us))=(σ.set k (.list (vs++us))).set l (.inst "Frame" (frF (Pt.many p).v i t e k)):=List.set_comm _ _ hk
 generalize σ.set l (.inst "Frame" (frF (Pt.many p).v i t e k))=σ₁ at g1 g2 g3 e3
 refine Yae.of g1 rfl rfl hC.cls hC.kids<|Yak.extend g2<|Cal.mk<|Yaa.extend g2 g3 hz ?_
 have g4:(σ₁.set k (.list (vs++us)))[l]?=some (.inst "Frame" (frF (Pt.many p).v i t e k)):=by rw [Zi (Ne.symm hk)]; exact g1
 rw [e3] at g4 ⊢
 generalize hσ:(σ.set k (.list (vs++us))).set l (.inst "Frame" (frF (Pt.many p).v i t e k))=σ₂ at g4
 exact Yae.of g4 rfl rfl hC.cls hC.piece<|Yae.of g4 rfl rfl hC.cls hC.here<|q _ hσ.symm
theorem Yu1 (TO:Yag (T09 w s)) {p:Pt}{i t h l k:Nat}(h1:σ[l]?=some (.inst "Frame" (frF (Pt.nt p).v i t h k))) (q:Q (.tup [.tup [p.v,.int i],.none]) σ):Yaa (T09 w s) (d+2) X (.glob "of_not") [.ref l,.none] Q σ:=by
 obtain ⟨C,hC⟩:=Yb3 (w:=w) (s:=s)
 refine Yaa.go TO rfl rfl ?_
 exact Cmp.isN (r:=true) rfl<|Yae.of h1 rfl rfl hC.cls hC.piece<|Yae.of h1 rfl rfl hC.cls hC.place q
theorem Yzw (TO:Yag (T09 w s)) {p:Pt}{i t h l k la:Nat}(h1:σ[l]?=some (.inst "Frame" (frF (Pt.nt p).v i t h k))) (q:Q (.tup [.none,.tup [.int i,.ref σ.length]]) (σ++[.list []])):Yaa (T09 w s) (d+2) X (.glob "of_not") [.ref l,.tup [.none,.ref la]] Q σ:=by
 obtain ⟨C,hC⟩:=Yb3 (w:=w) (s:=s)
 refine Yaa.go TO rfl rfl ?_
 exact Cmp.isN (r:=false) rfl<|Cmp.isN (r:=true) rfl<|Yae.of h1 rfl rfl hC.cls hC.place q
theorem Yy1 (TO:Yag (T09 w s)) {l la e:Nat}(q:Q (.tup [.none,.tup [.none,.ref σ.length]]) (σ++[.list []])):Yaa (T09 w s) (d+2) X (.glob "of_not") [.ref l,.tup [.int e,.ref la]] Q σ:=by
 refine Yaa.go TO rfl rfl ?_
 exact Cmp.isN (r:=false) rfl<|Cmp.isN (r:=false) rfl q
end
section
variable {w:World}{s:Shared}{d:Nat}{X:QX}{Q:QE}{σ:Hp}
structure Y0m (T:Tp) (C:Addr):Prop where
 cls:Ye9 T "Memory" C
 kept:Ydm T C "kept"
 order:Ydm T C "order"
 look:Yex T C "look"
 known:Yex T C "known"
 begun:Yex T C "begin"
 ended:Yex T C "ended"
theorem Yd3:∃ C,Y0m (T09 w s) C:=⟨_,⟨rfl,rfl,rfl,rfl,rfl,rfl⟩,⟨rfl,rfl⟩,⟨rfl,rfl⟩,⟨_,rfl,rfl,rfl⟩,⟨_,rfl,rfl,rfl⟩,⟨_,rfl,rfl,rfl⟩,⟨_,rfl,rfl,rfl⟩⟩
noncomputable def mmF (a b:Nat):List (Str×V):=[("kept",.ref a),("order",.ref b)]
noncomputable def prV (n:Str) (i:Int):V:=.tup [.str n,.int i]
theorem Ynk (TO:Yag (T09 w s)) (q:Q (.ref σ.length) (σ++[.inst "Memory" (mmF (σ.length+1) (σ.length+2)),.tdict [],.list []])):Yaa (T09 w s) (d+3) X (.glob "Memory") [] Q σ:=by
 obtain ⟨C,hC⟩:=Yd3 (w:=w) (s:=s)
 refine Yaa.retag<|Yaa.make TO rfl rfl rfl rfl<|Ycc.goM TO rfl rfl ?_
 refine Yam.to [("kept",.ref (σ++[Yaq.inst "Memory" []]).length)] (Yab Yac) hC.cls hC.kept (by simp) rfl (σ':=σ++[.inst "Memory" [("kept",.ref (σ.length+1))],.sdict []]) (by rw [Yks,Zf]; rfl) ?_
 exact Yam.to (mmF (σ.length+1) (σ++[Yaq.inst "Memory" [("kept",.ref (σ.length+1))],.sdict []]).length) (Yab Ye0) hC.cls hC.order (by simp) rfl (σ':=σ++[.inst "Memory" (mmF (σ.length+1) (σ.length+2)),.sdict [],.list []]) (by rw [Ze,Zf]; exact Yq9) ⟨rfl,σ.length+1,Yif,by rw [Ywd]; exact q⟩
theorem Ywb (TO:Yag (T09 w s)) {v:V}(q:Q .none σ):Yaa (T09 w s) (d+1) X (.mth "Memory" "look") [v] Q σ:=by
 refine Yaa.goM TO rfl rfl ?_
 exact q
theorem Ysu (TO:Yag (T09 w s)) {m a b:Nat}{os:List V}{n:Str}{i:Int}(h1:σ[m]?=some (.inst "Memory" (mmF a b))) (h2:σ[b]?=some (.list os)) (hz:os.length≤sizeLine) (q:Q .none (σ.set b (.list (os++[prV n i])))):Yaa (T09 w s) (d+2) X (.mth "Memory" "begin") [.ref m,.str n,.int i] Q σ:=by
 obtain ⟨C,hC⟩:=Yd3 (w:=w) (s:=s)
 refine Yaa.goM TO rfl rfl ?_
 exact Yae.of h1 rfl rfl hC.cls hC.order<|Yak.append h2<|Cal.mk<|Yaa.append h2 hz q
theorem Ykr (TO:Yag (T09 w s)) {m a b:Nat}{kvs:List ((Str×Int)×V)}{n:Str}{i:Int}(h1:σ[m]?=some (.inst "Memory" (mmF a b))) (h2:σ[a]?=some (.tdict kvs))
   (q0:kvs.find? (fun kv=>kv.1=(n,i))=none→Q .none σ)
   (q1:∀ v,(kvs.find? fun kv=>kv.1=(n,i)).map (·.2)=some v→(∃ l,v=.tup [.none,.ref l]∧Q (.tup [.none,.ref σ.length]) (σ++[.list []]))∨∃ e l,v=.tup [.int e,.ref l]∧Q (.tup [.int e,.ref σ.length]) (σ++[.list [prV n i]])) :
   Yaa (T09 w s) (d+2) X (.mth "Memory" "known") [.ref m,.str n,.int i] Q σ:=by
 obtain ⟨C,hC⟩:=Yd3 (w:=w) (s:=s)
 refine Yaa.goM TO rfl rfl ?_
 refine Yae.of h1 rfl rfl hC.cls hC.kept<|Cmp.pairs (neg:=true) (k:=(n,i)) h2 ?_
 cases hf:kvs.find? (fun kv=>kv.1=(n,i)) with
 | none =>
   refine Br.t ?_ (q0 hf)
   simp only [Bool.true_bne,Bool.not_eq_true',List.any_eq_false]
   exact List.find?_eq_none.mp hf
 | some p =>
   have hm:(kvs.find? fun kv=>kv.1=(n,i)).map (·.2)=some p.2:=by rw [hf]; rfl
   refine Br.f ?_ ?_
   · simp only [Bool.true_bne,Bool.not_eq_false',List.any_eq_true]
     have:=List.find?_some hf
     exact ⟨p,List.mem_of_find?_eq_some hf,this⟩
   rcases q1 _ hm with ⟨l,e,q⟩ | ⟨x,l,e,q⟩
   · rw [e] at hm
     exact Yae.of h1 rfl rfl hC.cls hC.kept<|Itm.pair (k:=(n,i)) h2 hm<|Cmp.isN (r:=true) rfl q
   · rw [e] at hm
     exact Yae.of h1 rfl rfl hC.cls hC.kept<|Itm.pair (k:=(n,i)) h2 hm<|Cmp.isN (r:=false) rfl<|Yae.of h1 rfl rfl hC.cls hC.kept<|Itm.pair (k:=(n,i)) h2 hm q
theorem Yji {kvs:List ((Str×Int)×V)}{k:Str×Int}{v:V}:((Yb4 kvs k v).find? fun kv=>kv.1=k).map (·.2)=some v:=by
 unfold Yb4
 split
 · rename_i h
   induction kvs with
   | nil=>cases h
   | cons p r ih =>
     by_cases hp:p.1=k
     · simp [hp]
     · simp only [List.any_cons,hp,decide_false,Bool.false_or] at h
       simp only [List.map_cons,hp,if_false,List.find?_cons,decide_false]
       exact ih h
 · rename_i h
   rw [List.find?_append,List.find?_eq_none.mpr (fun x hx hk=>h (List.any_eq_true.mpr ⟨x,hx,hk⟩))]
   simp
theorem Yrb (TO:Yag (T09 w s)) {m a b la:Nat}{kvs:List ((Str×Int)×V)}{n:Str}{i:Int}{ev:V}{us:List V}(h1:σ[m]?=some (.inst "Memory" (mmF a b))) (h2:σ[a]?=some (.tdict kvs)) (h3:σ[la]?=some (.list us)) (hm:m≠a) (hz:kvs.length≤sizeLine) (hu:us.length≤sizeLine)
   (q:∀ σ₁,σ₁=(σ++[Yaq.list us]).set a (.tdict (Yb4 kvs (n,i) (.tup [ev,.ref σ.length])))→(ev=.none∧Q (.tup [.none,.ref σ₁.length]) (σ₁++[.list []]))∨∃ e,ev=.int e∧Q (.tup [.int e,.ref σ₁.length]) (σ₁++[.list [prV n i]])) :
   Yaa (T09 w s) (d+3) X (.mth "Memory" "ended") [.ref m,.str n,.int i,.tup [ev,.ref la]] Q σ:=by
 obtain ⟨C,hC⟩:=Yd3 (w:=w) (s:=s)
 refine Yaa.goM TO rfl rfl ?_
 refine Cal.list (vs:=us) (Ydw h3) hu<|Yae.of (Yab h1) rfl rfl hC.cls hC.kept<|Yas.pair (k:=(n,i)) (Yab h2) hz ?_
 have g1:((σ++[Yaq.list us]).set a (.tdict (Yb4 kvs (n,i) (.tup [ev,.ref σ.length]))))[m]?=some (.inst "Memory" (mmF a b)):=by rw [Zi (Ne.symm hm)]; exact Yab h1
 have g2:((σ++[Yaq.list us]).set a (.tdict (Yb4 kvs (n,i) (.tup [ev,.ref σ.length]))))[a]?=some (.tdict (Yb4 kvs (n,i) (.tup [ev,.ref σ.length]))):=Zw (by rw [Zf]; exact Nat.lt_add_right _ (Zb.mp h2).1)
 replace q:=q _ rfl
 generalize (σ++[Yaq.list us]).set a (.tdict (Yb4 kvs (n,i) (.tup [ev,.ref σ.length])))=σ₁ at g1 g2 q
 refine Yak.own g1 rfl hC.cls hC.known<|Cal.mk<|Ykr (d:=d) TO g1 g2 (fun h=>?_) fun v hv=>?_
 · have:=Yji (kvs:=kvs) (k:=(n,i)) (v:=.tup [ev,.ref σ.length])
   rw [h] at this; cases this
 · rw [Yji] at hv
   apply Yao (Yad hv).symm
   exact q.elim (fun g=>.inl ⟨_,congrArg (fun z=>V.tup [z,_]) g.1,g.2⟩) fun g=>g.elim fun e g=>.inr ⟨e,_,congrArg (fun z=>V.tup [z,_]) g.1,g.2⟩
end
section
variable {w:World}{s:Shared}{d:Nat}{X:QX}{Q:QE}{σ:Hp}
set_option tactic.hygienic true in
theorem Ysa (TO:Yag (T09 w s)) {p:Pt}{c:Nat}(hp:p.isLf=true) (q:Q (.bool (p.takesC c)) σ):Yaa (T09 w s) (d+2) X (.glob "takes") [p.v,.str ⟨#[c]⟩] Q σ:=by
 refine Yaa.go TO rfl rfl ?_
 cases p <;> first | cases hp | skip
 · simp only [Pt.takesC2] at q
   rw [← Yqb] at q
   exact q
 · rename_i a b
   refine Cal.ord<|Cal.ord<|Br.mk (fun h1=>Cal.ord ?_) fun h1=>?_
   · simp only [Pt.takesC3] at q
     have:a≤c:=by simpa using h1
     rw [Zmb this,Bool.true_and] at q
     show Q (.bool (decide ((c:Int)≤(b:Int)))) σ
     rw [show decide ((c:Int)≤(b:Int))=decide (c≤b) by simp]; exact q
   · simp only [Pt.takesC3] at q
     have:¬ a≤c:=by simpa using h1
     rw [Zrc this] at q
     exact q
 · exact q
theorem Itm.strN {cs:List Nat}{j c:Nat}(hj:cs[j]?=some c) (hb:cs.length < 100000) (q:Q (.str ⟨#[c]⟩) σ):Itm (.str (S cs)) (.int j) Q σ:=by
 have hl:=(Zb.mp hj).1
 refine ⟨_,.str _ _ c ?_ ⟨by exact Int.NonNeg.mk (j+Nat.succ 9223372036854775807),by lia⟩,q⟩
 have e:seqIndex? (j:Int) (S cs).length=some j:=by
   unfold seqIndex?
   simp only [show ¬ ((j:Int) < 0) by lia,if_false]
   rw [if_pos (by simp only [Zob,decide_eq_true_eq]; have:(S cs).length=cs.length:=by simp [S,Str.length]
                  lia)]
   simp
 rw [e]
 show (cs.toArray)[j]?=some c
 simpa using hj
theorem Yym (p:Pt):Yp2 p.v=true:=by cases p <;> rfl
theorem Yyg {i n:Nat}(h:decide ((i:Int) < n)=true):i < n:=Zfb.mp (Zgb h)
theorem Yyp {i n:Nat}(h:decide ((i:Int) < n)=false):n≤i:=Nat.le_of_not_lt fun g=>of_decide_eq_false h (Zfb.mpr g)
theorem Yv5 (TO:Yag (T09 w s)) {ok:Prop}{f:V}{σ₁:Hp}{p:Pt}{i t h l k m:Nat}{cs:List Nat}(hp:p.isLf=true) (hM:∀ {K:V→Prop},K f→Yak (T09 w s) (.ref m) "look" σ K) (hlook:∀ {Q':QE},(ok→Q' .none σ₁)→Yaa (T09 w s) (d+2) X f [.ref m] Q' σ) (h1:ok→σ₁[l]?=some (.inst "Frame" (frF p.v i t h k))) (hc:cs.length < 100000)
   (q1:ok→∀ c,cs[i]?=some c→p.takesC c=true→Q (.tup [.none,.tup [.int (i+1:Nat),.ref σ₁.length]]) (σ₁++[.list []]))
   (q2:ok→(∀ c,cs[i]?=some c→p.takesC c=false)→Q (.tup [.none,.tup [.none,.ref σ₁.length]]) (σ₁++[.list []])) :
   Yaa (T09 w s) (d+3) X (.glob "of_sign") [.ref l,.str (S cs),.ref m] Q σ:=by
 obtain ⟨C,hC⟩:=Yb3 (w:=w) (s:=s)
 refine Yaa.go TO rfl rfl ?_
 refine hM<|Cal.mk<|hlook fun ho=>Yae.of (h1 ho) rfl rfl hC.cls hC.place<|Cal.len (n:=cs.length) (Yc7 (Ya4 cs)) (Nat.lt_trans hc (by decide))<|Br.mk (fun h2=>?_) fun h2=>q2 ho fun c hc'=>?_
 · have hg:=Zp (Yyg h2)
   exact Yae.of (h1 ho) rfl (Yym p) hC.cls hC.piece<|Itm.strN hg hc<|Cal.mk<|Ysa TO hp<|Br.mk (fun h3=>q1 ho _ hg h3) fun h3=>q2 ho fun c hc'=>Zab (hg.symm.trans hc')▸h3
 · exact absurd (Zb.mp hc').1 (Zo.mpr (Yyp h2))
inductive GrT (rs:List (Str×Pt)) (g b:Nat) (σ:Hp):Prop where
 | mk (a c e:Nat) (h1:σ[g]?=some (.inst "Grammar" [("pairs",.ref a),("table",.ref b),("bare",.ref c),("leads",.ref e)])) (h2:σ[b]?=some (.sdict (Yb9 rs))):GrT rs g b σ
theorem Yqp.t {rs:List (Str×Pt)}{bs:List Str}{g:Nat}(h:Yqp rs bs g σ):∃ b,GrT rs g b σ:=by
 obtain ⟨a,b,c,e,kl,h1,h2,h3,h4,h5,h6,h7,h8,h9,h10⟩:=h
 exact ⟨b,a,c,e,h5,h7⟩
theorem GrT.keep {rs:List (Str×Pt)}{g b:Nat}{σ':Hp}{A A':List Nat}(h:GrT rs g b σ) (o:On σ A σ' A') (hg:g∉A) (hb:b∉A):GrT rs g b σ':=by
 obtain ⟨a,c,e,h1,h2⟩:=h
 exact ⟨a,c,e,o.keep _ _ h1 hg,o.keep _ _ h2 hb⟩
variable {rs:List (Str×Pt)}{g gb:Nat}
theorem Yq3 (TO:Yag (T09 w s)) (hG:GrT rs g gb σ) {x:Str}(q:x∈rs.map (·.1)→Q .none σ) (qx:x∉rs.map (·.1)→X "NoRule" σ):Yaa (T09 w s) (d+1) X (.mth "Grammar" "need") [.ref g,.str x] Q σ:=by
 obtain ⟨C,hC⟩:=Yg3 (w:=w) (s:=s)
 obtain ⟨a,c,e,h5,h7⟩:=hG
 refine Yaa.goM TO rfl rfl ?_
 refine Yae.of h5 rfl rfl hC.cls hC.table<|Cmp.ninD h7 Yit ?_
 refine Br.mk (fun h=>Stx.mk<|Ybe.raise TO rfl rfl rfl rfl rfl (by kernel_rfl) (qx (by simpa using h))) fun h=>q (by simpa using h)
theorem Yk1 (TO:Yag (T09 w s)) (hn:(rs.map (·.1)).Nodup) (hG:GrT rs g gb σ) {x:Str}(q:∀ r∈rs,r.1=x→Q r.2.v σ) (qx:x∉rs.map (·.1)→X "NoRule" σ):Yaa (T09 w s) (d+2) X (.mth "Grammar" "part") [.ref g,.str x] Q σ:=by
 obtain ⟨C,hC⟩:=Yg3 (w:=w) (s:=s)
 have hG':=hG
 obtain ⟨a,c,e,h5,h7⟩:=hG
 refine Yaa.goM TO rfl rfl ?_
 refine Yak.own h5 rfl hC.cls hC.need<|Cal.mk<|Yq3 TO hG' (fun hx=>?_) qx
 obtain ⟨r,hr,rfl⟩:=Zsb.mp hx
 exact Yae.of h5 rfl rfl hC.cls hC.table<|Itm.dict h7 (Yjl hn hr) (q r hr rfl)
theorem Yq5 (TO:Yag (T09 w s)) {n:Str}{i t h l k m a b la:Nat}{gv:V}{kvs:List ((Str×Int)×V)}{ev:V}{us:List V}(h0:σ[l]?=some (.inst "Frame" (frF (Pt.rule n).v i t h k))) (h1:σ[m]?=some (.inst "Memory" (mmF a b))) (h2:σ[a]?=some (.tdict kvs)) (h3:σ[la]?=some (.list us)) (hm:m≠a) (hz:kvs.length≤sizeLine) (hu:us.length≤sizeLine)
   (q:∀ σ₁,σ₁=(σ++[Yaq.list us]).set a (.tdict (Yb4 kvs (n,i) (.tup [ev,.ref σ.length])))→(ev=.none∧Q (.tup [.none,.tup [.none,.ref σ₁.length]]) (σ₁++[.list []]))∨∃ e,ev=.int e∧Q (.tup [.none,.tup [.int e,.ref σ₁.length]]) (σ₁++[.list [prV n i]])) :
   Yaa (T09 w s) (d+4) X (.glob "of_rule") [.ref l,.tup [ev,.ref la],gv,.ref m] Q σ:=by
 obtain ⟨C,hC⟩:=Yb3 (w:=w) (s:=s)
 obtain ⟨M,hM⟩:=Yd3 (w:=w) (s:=s)
 refine Yaa.go TO rfl rfl ?_
 exact Yae.of h0 rfl rfl hC.cls hC.piece<|Cmp.notN (r:=false) rfl<|Yak.own h1 rfl hM.cls hM.ended<|Yae.of h0 rfl rfl hC.cls hC.place<|Cal.mk<|Yrb (d:=d) TO h1 h2 h3 hm hz hu q
theorem Yn1 (TO:Yag (T09 w s)) (hn:(rs.map (·.1)).Nodup) {n:Str}{i t h l k m a b:Nat}{kvs:List ((Str×Int)×V)}{os:List V}(h0:σ[l]?=some (.inst "Frame" (frF (Pt.rule n).v i t h k))) (h1:σ[m]?=some (.inst "Memory" (mmF a b))) (h2:σ[a]?=some (.tdict kvs)) (h3:σ[b]?=some (.list os)) (hz:os.length≤sizeLine)
   (hG:GrT rs g gb (σ.set b (.list (os++[prV n i])))) (hb:b≠l)
   (q0:kvs.find? (fun kv=>kv.1=(n,(i:Int)))=none→∀ r∈rs,r.1=n→Q (.tup [.tup [r.2.v,.int i],.none]) (σ.set b (.list (os++[prV n i]))))
   (qx:n∈rs.map (·.1))
   (q1:∀ v,(kvs.find? fun kv=>kv.1=(n,(i:Int))).map (·.2)=some v→(∃ l,v=.tup [.none,.ref l]∧Q (.tup [.none,.tup [.none,.ref σ.length]]) (σ++[.list []]))∨∃ e l,v=.tup [.int e,.ref l]∧Q (.tup [.none,.tup [.int e,.ref σ.length]]) (σ++[.list [prV n i]])) :
   Yaa (T09 w s) (d+4) X (.glob "of_rule") [.ref l,.none,.ref g,.ref m] Q σ:=by
 obtain ⟨C,hC⟩:=Yb3 (w:=w) (s:=s)
 obtain ⟨M,hM⟩:=Yd3 (w:=w) (s:=s)
 obtain ⟨G,hGc⟩:=Yg3 (w:=w) (s:=s)
 refine Yaa.go TO rfl rfl ?_
 refine Yae.of h0 rfl rfl hC.cls hC.piece<|Cmp.notN (r:=true) rfl<|Yak.own h1 rfl hM.cls hM.known<|Yae.of h0 rfl rfl hC.cls hC.place<|Cal.mk<|Ykr (d:=d+1) TO h1 h2 (fun hf=>?_) fun v hv=>?_
 · have g0:(σ.set b (.list (os++[prV n i])))[l]?=some (.inst "Frame" (frF (Pt.rule n).v i t h k)):=by rw [Zi hb]; exact h0
   refine Cmp.notN (r:=true) rfl<|Yak.own h1 rfl hM.cls hM.begun<|Yae.of h0 rfl rfl hC.cls hC.place<|Cal.mk<|Ysu (d:=d+1) TO h1 h3 hz ?_
   have hG2:=hG
   obtain ⟨ga,gc,ge,h5,h7⟩:=hG
   refine Yak.own h5 rfl hGc.cls hGc.part<|Cal.mk<|Yk1 (d:=d+1) TO hn hG2 (fun r hr e=>?_) fun h=>absurd qx h
   exact Yae.of g0 rfl rfl hC.cls hC.place<|q0 hf r hr e
 · rcases q1 v hv with ⟨l',e,q⟩ | ⟨x,l',e,q⟩
   · exact .inl ⟨l',e,Cmp.notN (r:=false) rfl q⟩
   · exact .inr ⟨x,l',e,Cmp.notN (r:=false) rfl q⟩
end
section
variable {w:World}{s:Shared}{d:Nat}{X:QX}{Q:QE}{σ:Hp}{β κ:Type}{B:Bk β κ}{R:Ypz β κ}{G:Str→Pt}
noncomputable def Yp7 (ns:List Str) (p:Pt):Prop:=Pt.All Pt.few p∧∀ n,p.Asks n→n∈ns
theorem Yp7.kid {ns:List Str}{p q:Pt}(h:Yp7 ns p) (hq:q∈p.kids):Yp7 ns q:=by
 obtain ⟨⟨zz,h1⟩,h2⟩:=h
 exact ⟨h1 q hq,fun n hn=>h2 n (.deep hq hn)⟩
noncomputable def Yan (rs:List (Str×Pt)) (n:Str):Pt:=((rs.find? fun r=>r.1=n).map (·.2)).getD .any
theorem Ycr {rs:List (Str×Pt)}(hn:(rs.map (·.1)).Nodup) {r:Str×Pt}(hr:r∈rs):Yan rs r.1=r.2:=by
 unfold Yan
 induction rs with
 | nil=>cases hr
 | cons x xs ih =>
   rw [List.map_cons,Zxc] at hn
   rw [List.find?_cons]
   by_cases hx:x.1=r.1
   · rcases Zg.mp hr with rfl | hr
     · simp
     · exact absurd (Zsb.mpr ⟨r,hr,hx.symm⟩) hn.1
   · rcases Zg.mp hr with rfl | hr
     · exact absurd rfl hx
     · rw [Zrc hx]; exact ih hn.2 hr
noncomputable def Fr.wait (f:Fr κ):Prop:=match f.piece with
 | .row ps | .alt ps=>f.turn < ps.length
 | z1=>True
theorem On.put2 {A:List Nat}{k l:Nat}{x y:Yaq}(hk:k∈A) (hl:l∈A):On σ A ((σ.set k x).set l y) A:=(On.put hk).trans (On.put hl) (by simp)
theorem Yb8 {τ:Hp}{A:List Nat}{l k:Nat}:On τ (l::k::A) τ A:=.less fun x hx=>Zd _ (Zd _ hx)
inductive Ypn (R:Ypz β κ) (σ':Hp) (A:List Nat) (l k:Nat):Out β κ→V→Prop where
 | push {f:Fr κ}{p:Pt}{i:Nat}{b':β}(h1:Yqe R.K σ' (l::k::A) f l k) (h2:R.is σ' (l::k::A) b'):Ypn R σ' A l k (.push f p i b') (.tup [.tup [p.v,.int i],.none])
 | pop {an:An κ}{b':β}{av:V}(h1:Yhf R.K σ' A an av) (h2:R.is σ' A b'):Ypn R σ' A l k (.pop an b') (.tup [.none,av])
structure Rdy (B:Bk β κ) (R:Ypz β κ) (σ:Hp) (A:List Nat) (l k:Nat) (f:Fr κ) (b:β) (an:Option (An κ)) (av:V):Prop where
 fr:Yqe R.K σ (l::k::A) f l k
 bk:R.is σ (l::k::A) b
 ans:AnO R.K σ (l::k::A) an av
 few:Yff B f an b
 hk:k∉A
 hl:l∉A
 own:∀ x∈R.own,x∈A
 hA:∀ x∈A,x < σ.length
structure Yeg (B:Bk β κ) (R:Ypz β κ) (G:Str→Pt) (cs:List Nat) (σ:Hp) (A:List Nat) (l k:Nat) (f:Fr κ) (b:β) (an:Option (An κ)) (Q:QE) (X:QX):Prop where
 q:∀ v σ',On σ (l::k::R.own) σ' (l::k::R.own)→σ.length≤σ'.length→Ypn R σ' A l k (Yah G cs B f an b) v→Q v σ'
 x:∀ σ',On σ (l::k::R.own) σ' (l::k::R.own)→σ.length≤σ'.length→Yah G cs B f an b=.stop→X "TooLong" σ'
variable {cs:List Nat}{A:List Nat}{i t h l k:Nat}{ks:List κ}{b:β}{an:Option (An κ)}{av:V}
theorem Yeg.to {f:Fr κ}{o:Out β κ}{v:V}{σ':Hp}(q:Yeg B R G cs σ A l k f b an Q X) (e:Yah G cs B f an b=o) (on:On σ (l::k::R.own) σ' (l::k::R.own)) (hl:σ.length≤σ'.length) (h:Ypn R σ' A l k o v):Q v σ':=q.q v σ' on hl (e▸h)
theorem Rdy.fresh {f:Fr κ}(r:Rdy B R σ A l k f b an av) {e:Option Nat}:Yhf R.K (σ++[.list []]) A (e,[]) (.tup [Yqr e,.ref σ.length]):=⟨σ.length,[],rfl,fun hx=>Zub _ (r.hA _ hx),Yac,rfl⟩
theorem Rdy.lk {f:Fr κ}(r:Rdy B R σ A l k f b an av):l≠k:=by
 obtain ⟨vs,f1,f2,f3⟩:=r.fr
 exact fun e=>by rw [e,f2] at f1; cases f1
theorem Rdy.bkU {f:Fr κ}(r:Rdy B R σ A l k f b an av) {x:Yaq}:R.is (σ++[x]) A b:=(R.keep r.bk .up fun x hx=>Zbb (r.hA x (r.own x hx))) |> fun h=>R.keep h Yb8 fun zz zz=>rfl
theorem Rdy.bkA {f:Fr κ}(r:Rdy B R σ A l k f b an av):R.is σ A b:=R.keep r.bk Yb8 fun zz zz=>rfl
theorem Rdy.bkP {f:Fr κ}(r:Rdy B R σ A l k f b an av) {x y:Yaq}:R.is ((σ.set k x).set l y) (l::k::A) b:=R.keep r.bk (.put2 (by simp) (by simp)) fun z hz=>by
 have h1:=r.own z hz
 rw [Zi (fun e:l=z=>r.hl (e▸h1)),Zi (fun e:k=z=>r.hk (e▸h1))]
theorem Rdy.sz {f:Fr κ}{e:Option Nat}{us:List κ}{la:Nat}{vs us':List V}(r:Rdy B R σ A l k f b (some (e,us)) av) (h1:KRs R.K σ (l::k::A) f.kids vs) (h2:KRs R.K σ (l::k::A) us us'):vs.length+us'.length≤sizeLine:=by
 have e1:=r.few.1
 have e2:us.length≤5000000:=r.few.2.1 _ rfl
 rw [h1.length,h2.length]
 exact szo (by lia)
theorem Rdy.ways {f:Fr κ}{P:Option (An κ)→V→Prop}(r:Rdy B R σ A l k f b an av) (h0:Rdy B R σ A l k f b none .none→P none .none) (h1:∀ us la,Rdy B R σ A l k f b (some (none,us)) (.tup [.none,.ref la])→P (some (none,us)) (.tup [.none,.ref la]))
   (h2:∀ (e:Nat) us la us',Rdy B R σ A l k f b (some (some e,us)) (.tup [.int e,.ref la])→Yhf R.K σ (l::k::A) (some e,us) (.tup [.int e,.ref la])→la∉l::k::A→σ[la]?=some (.list us')→KRs R.K σ (l::k::A) us us'→P (some (some e,us)) (.tup [.int e,.ref la])):P an av:=by
 have han:=r.ans
 rcases an with zz | ⟨zz | e,us⟩
 · cases han; exact h0 r
 · obtain ⟨la,us',rfl,g1,g2,g3⟩:=han; exact h1 us la r
 · obtain ⟨la,us',rfl,g1,g2,g3⟩:=han; exact h2 e us la us' r ⟨la,us',rfl,g1,g2,g3⟩ g1 g2 g3
theorem Yyl (TO:Yag (T09 w s)) {ps:List Pt}(r:Rdy B R σ A l k ⟨.row ps,i,t,h,ks⟩ b an av) (hp:ps.length < 1000) (hw:an≠none→t < ps.length) (hw0:t≤ps.length) (q:Yeg B R G cs σ A l k ⟨.row ps,i,t,h,ks⟩ b an Q X) :
   Yaa (T09 w s) (d+2) X (.glob "of_row") [.ref l,av] Q σ:=by
 refine r.fr.rec fun vs f1 f2 f3=>?_
 revert hw q
 apply r.ways
 · intro r hw q
   refine Yqs TO f1 hp (fun hn=>?_) (fun p hp'=>?_) hw0
   · refine q.to (o:=.pop (some h,ks) b) ?_ .refl (Zl _) (.pop ⟨k,vs,rfl,r.hk,f2,f3.keep Yb8⟩ r.bkA)
     simp only [Yah,Ybp,hn]
   · refine q.to (o:=.push ⟨.row ps,i,t,h,ks⟩ p h b) ?_ .refl (Zl _) (.push r.fr r.bk)
     simp only [Yah,Ybp,hp']
 · exact fun us la r hw q=>Ywv TO (q.to (o:=.pop (none,[]) b) rfl .up (by simp) (.pop r.fresh r.bkU))
 · intro e us la us' r zz h1 h2 h3 hw q
   have on:∀ {x y:Yaq},On σ (l::k::R.own) ((σ.set k x).set l y) (l::k::R.own):=.put2 (by simp) (by simp)
   have fr:∀ {x:Nat},Yqe R.K ((σ.set k (.list (vs++us'))).set l (.inst "Frame" (frF (Pt.row ps).v i (x:Nat) e k))) (l::k::A) ⟨.row ps,i,x,e,ks++us⟩ l k:=fun {x}=>by
     refine ⟨vs++us',Zw (by simp; exact (Zb.mp f1).1),?_,(f3.append h3).keep (.put2 (by simp) (by simp))⟩
     rw [Zi r.lk,Zw (Zb.mp f2).1]
   refine Yvq TO f1 f2 h2 r.lk (fun e=>h1 (by simp [e])) hp (r.sz (la:=la) f3 h3) (fun σ' e' hn=>?_) (fun σ' e' p hp'=>?_) (hw (by simp))
   · apply Yao e'
     refine (fr (x:=t+1)).rec fun vs' g1 g2 g3=>?_
     refine q.to (o:=.pop (some e,ks++us) b) ?_ on (by simp) (.pop ⟨k,vs',rfl,r.hk,g2,g3.keep Yb8⟩ (R.keep r.bkP Yb8 fun zz zz=>rfl))
     simp only [Yah,Ybp,Fr.on,Fr.nxt,hn]
   · apply Yao e'
     refine q.to (o:=.push ⟨.row ps,i,t+1,e,ks++us⟩ p e b) ?_ on (by simp) (.push fr r.bkP)
     simp only [Yah,Ybp,Fr.on,Fr.nxt,hp']
theorem Yx7 (TO:Yag (T09 w s)) {ps:List Pt}(r:Rdy B R σ A l k ⟨.alt ps,i,t,h,ks⟩ b an av) (hp:ps.length < 1000) (hw:an≠none→t < ps.length) (hw0:t≤ps.length) (q:Yeg B R G cs σ A l k ⟨.alt ps,i,t,h,ks⟩ b an Q X) :
   Yaa (T09 w s) (d+2) X (.glob "of_choice") [.ref l,av] Q σ:=by
 refine r.fr.rec fun vs f1 f2 f3=>?_
 revert hw q
 apply r.ways
 · intro r hw q
   refine Yrp TO f1 hp (fun hn=>?_) (fun p hp'=>?_) hw0
   · refine q.to (o:=.pop (none,[]) b) ?_ .up (by simp) (.pop r.fresh r.bkU)
     simp only [Yah,Ybq,hn]
   · refine q.to (o:=.push ⟨.alt ps,i,t,h,ks⟩ p i b) ?_ .refl (Zl _) (.push r.fr r.bk)
     simp only [Yah,Ybq,hp']
 rotate_left
 · exact fun e us la us' r g h1 h2 h3 hw q=>Yun TO (q.to (o:=.pop (some e,us) b) rfl .refl (Zl _) (.pop (g.keep Yb8) r.bkA))
 · intro us la r hw q
   have e0:∀ {o:Yaq},σ.set l o=(σ.set k (.list vs)).set l o:=fun {o}=>by
     congr 1
     apply List.ext_getElem?
     intro j
     by_cases hj:k=j
     · rw [← hj,Zw (Zb.mp f2).1]; exact f2
     · rw [Zi hj]
   have on:∀ {y:Yaq},On σ (l::k::R.own) (σ.set l y) (l::k::R.own):=.put (by simp)
   have fr:Yqe R.K (σ.set l (.inst "Frame" (frF (Pt.alt ps).v i (t+1:Nat) h k))) (l::k::A) ⟨.alt ps,i,t+1,h,ks⟩ l k :=
     ⟨vs,Zw (Zb.mp f1).1,by rw [Zi r.lk]; exact f2,f3.keep (.put (by simp))⟩
   have bk2:∀ {y:Yaq},R.is (σ.set l y) (l::k::A) b:=fun {y}=>by rw [e0]; exact r.bkP
   refine Yxt TO f1 hp (fun σ' e hn=>?_) (fun σ' e p hp'=>?_) (hw (by simp))
   · apply Yao e
     refine q.to (o:=.pop (none,[]) b) ?_ (on.trans .up (by simp)) (by simp) (.pop ⟨_,[],rfl,fun hx=>by have:=r.hA _ hx; simp at this,Yac,rfl⟩ (R.keep (R.keep bk2 .up fun x hx=>Zbb (by rw [List.length_set]; exact r.hA x (r.own x hx))) Yb8 fun zz zz=>rfl))
     simp only [Yah,Ybq,Fr.nxt,hn]
   · apply Yao e
     refine q.to (o:=.push ⟨.alt ps,i,t+1,h,ks⟩ p i b) ?_ on (by simp) (.push fr bk2)
     simp only [Yah,Ybq,Fr.nxt,hp']
theorem Y0j (TO:Yag (T09 w s)) {p:Pt}(r:Rdy B R σ A l k ⟨.nt p,i,t,h,ks⟩ b an av) (q:Yeg B R G cs σ A l k ⟨.nt p,i,t,h,ks⟩ b an Q X):Yaa (T09 w s) (d+2) X (.glob "of_not") [.ref l,av] Q σ:=by
 refine r.fr.rec fun vs f1 f2 f3=>?_
 revert q
 apply r.ways
 · exact fun r q=>Yu1 TO f1 (q.to rfl .refl (Zl _) (.push r.fr r.bk))
 rotate_left
 · exact fun e us la us' r zz h1 h2 h3 q=>Yy1 TO (q.to rfl .up (by simp) (.pop r.fresh r.bkU))
 · exact fun us la r q=>Yzw TO f1 (q.to rfl .up (by simp) (.pop r.fresh r.bkU))
theorem Yum (TO:Yag (T09 w s)) {p:Pt}(r:Rdy B R σ A l k ⟨.many p,i,t,h,ks⟩ b an av) (q:Yeg B R G cs σ A l k ⟨.many p,i,t,h,ks⟩ b an Q X):Yaa (T09 w s) (d+2) X (.glob "of_many") [.ref l,av] Q σ:=by
 refine r.fr.rec fun vs f1 f2 f3=>?_
 revert q
 apply r.ways
 · exact fun r q=>Yoh TO f1 (q.to rfl .refl (Zl _) (.push r.fr r.bk))
 · exact fun us la r q=>Yuw TO f1 (q.to rfl .refl (Zl _) (.pop ⟨k,vs,rfl,r.hk,f2,f3.keep Yb8⟩ r.bkA))
 · intro e us la us' r zz h1 h2 h3 q
   by_cases he:e=h
   · rw [he] at q ⊢
     refine Yne TO f1 (q.to (o:=.pop (some h,ks) b) ?_ .refl (Zl _) (.pop ⟨k,vs,rfl,r.hk,f2,f3.keep Yb8⟩ r.bkA))
     simp only [Yah,if_true]
   · refine Yro TO f1 f2 h2 r.lk (fun e=>h1 (by simp [e])) (r.sz (la:=la) f3 h3) he fun σ' e'=>?_
     apply Yao e'
     refine q.to (o:=.push ⟨.many p,i,t,e,ks++us⟩ p e b) ?_ (.put2 (by simp) (by simp)) (by simp) (.push ⟨vs++us',Zw (by simp; exact (Zb.mp f1).1),?_,(f3.append h3).keep (.put2 (by simp) (by simp))⟩ r.bkP)
     · simp only [Yah,he,if_false,Fr.on]
     · rw [Zi r.lk,Zw (Zb.mp f2).1]
end
section
variable {w:World}{s:Shared}{d:Nat}{X:QX}{Q:QE}{σ:Hp}{rs:List (Str×Pt)}{g gb:Nat}
variable {cs:List Nat}{A:List Nat}{i t h l k m a b:Nat}{ks:List Kid}{mem:Mm}{an:Option (An Kid)}{av:V}{u0:Nat}{uo:List V}
inductive Yd4 (σ:Hp) (A:List Nat) (m a b:Nat) (mem:Mm):Prop where
 | mk (kvs:List ((Str×Int)×V)) (h1:σ[m]?=some (.inst "Memory" (mmF a b))) (h2:σ[a]?=some (.tdict kvs)) (h3:σ[b]?=some (.list (mem.order.map pV'))) (h4:Ya2 σ A mem.kept kvs):Yd4 σ A m a b mem
theorem Yd4.use {P:Prop}{σ:Hp}{A:List Nat}{m a b:Nat}{mem:Mm}(h:Yd4 σ A m a b mem) (c:∀ (kvs:List ((Str×Int)×V)),σ[m]?=some (.inst "Memory" (mmF a b))→σ[a]?=some (.tdict kvs)→σ[b]?=some (.list (mem.order.map pV'))→Ya2 σ A mem.kept kvs→P):P:=by
 obtain ⟨kvs,h1,h2,h3,h4⟩:=h
 exact c kvs h1 h2 h3 h4
theorem Ya2.got {P:Prop}{σ:Hp}{A:List Nat}{k:Kid}{e:Nat}{ks:List Kid}{xs:List (Kid×An Kid)}{kvs:List ((Str×Int)×V)}(h:Ya2 σ A xs kvs) (hk:Yap xs k=some (some e,ks)) (c:∀ la,(kvs.find? fun kv=>kv.1=(k.1,(k.2:Int))).map (·.2)=some (.tup [Yqr (some e),.ref la])→la∉A→σ[la]?=some (.list (ks.map pV'))→P):P :=
 h.case (k:=k) (fun e zz=>(Yaf (e.symm.trans hk)).elim) fun a' la e x2 x3 x4=>by
   rw [Yad (e.symm.trans hk)] at x2 x4
   exact c la x2 x3 x4
noncomputable def Ybh (m a b u0:Nat) (uo:List V):Ypz Mm Kid where
 K:=Yfx
 own:=[m,a,b,u0]
 is:=fun σ A mem=>Yd4 σ A m a b mem∧σ[u0]?=some (.list uo)
 keep:=fun h o e=>by
   obtain ⟨⟨kvs,h1,h2,h3,h4⟩,h5⟩:=h
   exact ⟨⟨kvs,(e m (by simp)).trans h1,(e a (by simp)).trans h2,(e b (by simp)).trans h3,h4.keep o⟩,(e u0 (by simp)).trans h5⟩
theorem Yxh (TO:Yag (T09 w s)) {p:Pt}(hp:p.isLf=true) (hc:cs.length < 100000) (r:Rdy Yaw (Ybh m a b u0 uo) σ A l k ⟨p,i,t,h,ks⟩ mem an av) (q:Yeg Yaw (Ybh m a b u0 uo) (Yan rs) cs σ A l k ⟨p,i,t,h,ks⟩ mem an Q X) :
   Yaa (T09 w s) (d+3) X (.glob "of_sign") [.ref l,.str (S cs),.ref m] Q σ:=by
 obtain ⟨vs,f1,f2,f3⟩:=r.fr
 refine Yd4.use r.bk.1 fun kvs h1 h2 h3 h4=>?_
 obtain ⟨M,hM⟩:=Yd3 (w:=w) (s:=s)
 exact Yv5 (ok:=True) (f:=.mth "Memory" "look") (σ₁:=σ) TO hp (fun k=>Yak.own h1 rfl hM.cls hM.look k) (fun q=>Ywb (d:=d+1) TO (q trivial)) (fun zz=>f1) hc (fun zz c hc' ht=>q.to (Yru hp rfl hc' ht) .up (Zf▸Zy ..) (.pop r.fresh r.bkU)) fun zz hn=>q.to (Yv0 hp rfl hn) .up (Zf▸Zy ..) (.pop r.fresh r.bkU)
structure MmNe (σ:Hp) (A:List Nat) (l k m a b:Nat):Prop where
 ma:m≠a
 ab:a≠b
 bm:b≠m
 bA:b∈A
 aA:a∈A
 bl:b≠l
 bk:b≠k
theorem Rdy.ne {f:Fr Kid}(r:Rdy Yaw (Ybh m a b u0 uo) σ A l k f mem an av):MmNe σ A l k m a b:=Yd4.use r.bk.1 fun kvs h1 h2 h3 h4 =>
 have bA:=r.own b (Zd _ (Zd _ (Zt ..)))
 ⟨(fun e=>by rw [e,h2] at h1; cases h1),(fun e=>by rw [e,h3] at h2; cases h2),(fun e=>by rw [e,h1] at h3; cases h3),bA,r.own a (Zd _ (Zt ..)),fun e=>r.hl (e▸bA),fun e=>r.hk (e▸bA)⟩
theorem Y0g:b∈l::k::(Ybh m a b u0 uo).own:=Zd _ (Zd _ (Zd _ (Zd _ (Zt ..))))
theorem Yzp:a∈l::k::(Ybh m a b u0 uo).own:=Zd _ (Zd _ (Zd _ (Zt ..)))
theorem Yul {n:Str}(hbu:b≠u0) (r:Rdy Yaw (Ybh m a b u0 uo) σ A l k ⟨.rule n,i,t,h,ks⟩ mem none av) (q:Yeg Yaw (Ybh m a b u0 uo) (Yan rs) cs σ A l k ⟨.rule n,i,t,h,ks⟩ mem none Q X) (hn:(rs.map (·.1)).Nodup) {x:Str×Pt}(hx:x∈rs) (hxn:x.1=n) (k0:Yap mem.kept (n,i)=none):Q (.tup [.tup [x.2.v,.int i],.none]) (σ.set b (.list (mem.order.map pV'++[prV n i]))):=by
 subst hxn
 obtain ⟨vs,f1,f2,f3⟩:=r.fr
 refine Yd4.use r.bk.1 fun kvs h1 h2 h3 h4=>?_
 have ne:=r.ne
 have o:On σ (l::k::A) (σ.set b (.list (mem.order.map pV'++[prV x.1 i]))) (l::k::A):=.put (Zd _ (Zd _ ne.bA))
 refine q.to (o:=.push ⟨.rule x.1,i,t,h,ks⟩ x.2 i ⟨mem.kept,mem.order++[(x.1,i)]⟩) ((Yr3 (Option.map_eq_none_iff.mpr k0) rfl).trans (by rw [Ycr hn hx])) (.put Y0g) (Zr List.length_set.symm) ?_
 exact .push ⟨vs,by rw [Zi ne.bl]; exact f1,by rw [Zi ne.bk]; exact f2,f3.keep o⟩ ⟨⟨kvs,by rw [Zi ne.bm]; exact h1,by rw [Zi (Ne.symm ne.ab)]; exact h2,by rw [Zw (Zb.mp h3).1,Zfc]; rfl,h4.keep o⟩,by rw [Zi hbu]; exact r.bk.2⟩
theorem Yp0 {k:Kid}{a:An Kid}(h:a.1=none):Ye1 k a=(none,[]):=by unfold Ye1; rw [h]
theorem Ykq {k:Kid}{a:An Kid}{e:Nat}(h:a.1=some e):Ye1 k a=(some e,[k]):=by unfold Ye1; rw [h]
theorem Ysq (TO:Yag (T09 w s)) (hbu:b≠u0) (hn:(rs.map (·.1)).Nodup) {n:Str}(hG:GrT rs g gb σ) (hg:g∉A) (hgb:gb∉A) (hin:n∈rs.map (·.1)) (r:Rdy Yaw (Ybh m a b u0 uo) σ A l k ⟨.rule n,i,t,h,ks⟩ mem none av) (q:Yeg Yaw (Ybh m a b u0 uo) (Yan rs) cs σ A l k ⟨.rule n,i,t,h,ks⟩ mem none Q X) :
   Yaa (T09 w s) (d+4) X (.glob "of_rule") [.ref l,av,.ref g,.ref m] Q σ:=by
 refine r.fr.rec fun vs f1 zz zz=>Yd4.use r.bk.1 fun kvs h1 h2 h3 h4=>?_
 have ne:=r.ne
 have up:σ.length≤(σ++[Yaq.list []]).length:=Zf▸Zy ..
 apply Yao (show av=.none from r.ans)
 refine Yn1 TO hn f1 h1 h2 h3 (by rw [Zc]; exact szo (Za r.few.2.2.2 (by decide))) (hG.keep (A':=A) (.put ne.bA) hg hgb) ne.bl (fun hf x hx hxn=>h4.case (k:=(n,i)) (fun k0 zz=>Yul hbu r q hn hx hxn k0) fun zz la zz k1=>?_) hin fun v hv=>h4.case (k:=(n,i)) (fun zz k0=>?_) fun x la k0 k1 k2 k3=>?_
 · rw [hf] at k1; exact (Yaf k1).elim
 · rw [k0] at hv; exact (Yaf hv).elim
 · rw [k1] at hv
   have hv:=(Yad hv).symm
   have e:Yah (Yan rs) cs Yaw ⟨.rule n,i,t,h,ks⟩ none mem=.pop (Ye1 (n,i) x) mem:=Ym0 (congrArg (Option.map (Ye1 (n,i))) k0)
   generalize hx:x.1=y at hv
   cases y with
   | none=>exact .inl ⟨la,hv,q.to (e.trans (congrArg (Out.pop · mem) (Yp0 hx))) .up up (.pop r.fresh r.bkU)⟩
   | some y=>exact .inr ⟨y,la,hv,q.to (e.trans (congrArg (Out.pop · mem) (Ykq hx))) .up (Zf▸Zy ..) (.pop ⟨σ.length,_,rfl,fun hx=>Zub _ (r.hA _ hx),Yac,Ycm⟩ r.bkU)⟩
theorem Yrs (TO:Yag (T09 w s)) {n:Str}{x:An Kid}(r:Rdy Yaw (Ybh m a b u0 uo) σ A l k ⟨.rule n,i,t,h,ks⟩ mem (some x) av) (q:Yeg Yaw (Ybh m a b u0 uo) (Yan rs) cs σ A l k ⟨.rule n,i,t,h,ks⟩ mem (some x) Q X) :
   Yaa (T09 w s) (d+4) X (.glob "of_rule") [.ref l,av,.ref g,.ref m] Q σ:=by
 refine r.fr.rec fun vs f1 zz zz=>Yd4.use r.bk.1 fun kvs h1 h2 h3 h4=>(show ∃ la us',_ from r.ans).elim fun la hh=>hh.elim fun us' hh=>?_
 have ne:=r.ne
 have k2:=hh.2.2.1
 have k3:=hh.2.2.2
 have e:Yah (Yan rs) cs Yaw ⟨.rule n,i,t,h,ks⟩ (some x) mem=.pop (Ye1 (n,i) x) ⟨Yqd mem.kept (n,i) x,mem.order⟩:=rfl
 apply Yao hh.1
 refine Yq5 TO f1 h1 h2 k2 ne.ma (by rw [h4.length]; exact szo (Za r.few.2.2.1 (by decide))) (by rw [k3.length]; exact szo (Za (r.few.2.1 _ rfl) (by decide))) fun σ₁ e1=>?_
 have Yz7:σ₁.length=σ.length+1:=by rw [e1,List.length_set,Zf]; rfl
 have l0:σ.length≤σ₁.length:=Yz7▸Nat.le_succ _
 have o0:On σ (l::k::A) σ₁ A:=(show On σ (l::k::A) σ₁ (l::k::A) by rw [e1]; exact On.trans .up (.put (Zd _ (Zd _ ne.aA))) (Zf▸Zy ..)).trans Yb8 l0
 have oq:On σ (l::k::(Ybh m a b u0 uo).own) σ₁ (l::k::(Ybh m a b u0 uo).own):=by rw [e1]; exact On.trans .up (.put Yzp) (Zf▸Zy ..)
 have la1:a≠σ.length:=fun e=>Zub _ (e▸r.hA _ ne.aA)
 have au:a≠u0:=fun e=>by have:=r.bk.2; rw [← e,h2] at this; cases this
 have mm1:Yd4 σ₁ A m a b ⟨Yqd mem.kept (n,i) x,mem.order⟩∧σ₁[u0]?=some (.list uo):=by
   refine ⟨⟨_,?_,?_,?_,(h4.keep o0).set (k:=(n,i)) (v:=.tup [Yqr x.1,.ref σ.length]) ⟨σ.length,us',rfl,fun hx=>Zub _ (r.hA _ hx),?_,k3.keep o0⟩⟩,by rw [e1,Zi au]; exact Yab r.bk.2⟩
   · rw [e1,Zi (Ne.symm ne.ma)]; exact Yab h1
   · rw [e1,Zw (by rw [Zf]; exact Nat.lt_succ_of_lt (r.hA _ ne.aA))]
   · rw [e1,Zi ne.ab]; exact Yab h3
   · rw [e1,Zi la1]; exact Yac
 have mm2:∀ {x:Yaq},(Ybh m a b u0 uo).is (σ₁++[x]) A _:=fun {x}=>(Ybh m a b u0 uo).keep (b:=⟨Yqd mem.kept _ _,mem.order⟩) mm1 .up fun y hy=>Zbb (Zz (r.hA y (r.own y hy)) l0)
 have nf:σ₁.length∉A:=fun hx=>Zo.mpr l0 (r.hA _ hx)
 have up:∀ {x:Yaq},σ.length≤(σ₁++[x]).length:=Za l0 (Zf▸Zy ..)
 generalize hx:x.1=y
 cases y with
 | none=>exact .inl ⟨rfl,q.to (e.trans (congrArg (Out.pop · _) (Yp0 hx))) (oq.trans .up l0) up (.pop ⟨σ₁.length,[],rfl,nf,Yac,rfl⟩ mm2)⟩
 | some y=>exact .inr ⟨y,rfl,q.to (e.trans (congrArg (Out.pop · _) (Ykq hx))) (oq.trans .up l0) up (.pop ⟨σ₁.length,_,rfl,nf,Yac,Ycm⟩ mm2)⟩
theorem Yy3 (TO:Yag (T09 w s)) (hbu:b≠u0) (hn:(rs.map (·.1)).Nodup) {n:Str}(hG:GrT rs g gb σ) (hg:g∉A) (hgb:gb∉A) (hin:n∈rs.map (·.1)) (r:Rdy Yaw (Ybh m a b u0 uo) σ A l k ⟨.rule n,i,t,h,ks⟩ mem an av) (q:Yeg Yaw (Ybh m a b u0 uo) (Yan rs) cs σ A l k ⟨.rule n,i,t,h,ks⟩ mem an Q X) :
   Yaa (T09 w s) (d+4) X (.glob "of_rule") [.ref l,av,.ref g,.ref m] Q σ:=by
 cases an with
 | none=>exact Ysq TO hbu hn hG hg hgb hin r q
 | some x=>exact Yrs TO r q
end
section
variable {w:World}{s:Shared}{d:Nat}{X:QX}{Q:QE}{σ:Hp}{rs:List (Str×Pt)}{g gb m:Nat}{β κ:Type}{B:Bk β κ}{R:Ypz β κ}
variable {cs:List Nat}{A:List Nat}{l k:Nat}{b:β}{an:Option (An κ)}{av:V}{f:Fr κ}
structure Yo5 (T:Tp) (B:Bk β κ) (R:Ypz β κ) (rs:List (Str×Pt)) (g gb m:Nat):Prop where
 sgn:∀ {d X Q σ cs A p i t h l k ks b an av},p.isLf=true→cs.length < 100000→Rdy B R σ A l k ⟨p,i,t,h,ks⟩ b an av→Yeg B R (Yan rs) cs σ A l k ⟨p,i,t,h,ks⟩ b an Q X→Yaa T (d+3) X (.glob "of_sign") [.ref l,.str (S cs),.ref m] Q σ
 rul:∀ {d X Q σ cs A n i t h l k ks b an av},GrT rs g gb σ→g∉A→gb∉A→n∈rs.map (·.1)→Rdy B R σ A l k ⟨.rule n,i,t,h,ks⟩ b an av→Yeg B R (Yan rs) cs σ A l k ⟨.rule n,i,t,h,ks⟩ b an Q X→Yaa T (d+4) X (.glob "of_rule") [.ref l,av,.ref g,.ref m] Q σ
theorem Yps {x:Option (An κ)}{t n:Nat}(h:x≠none→t < n) (h0:x=none→t=0):t≤n:=by
 cases x with
 | none=>exact h0 rfl▸Zkb _
 | some y=>exact Zq (h fun e=>Yaf e.symm)
theorem Yms (TO:Yag (T09 w s)) (hB:Yo5 (T09 w s) B R rs g gb m) (hG:GrT rs g gb σ) (hg:g∉A) (hgb:gb∉A) (hc:cs.length < 100000) (hpc:Yp7 (rs.map (·.1)) f.piece) (hw:an≠none→f.wait) (hw0:an=none→f.turn=0) (r:Rdy B R σ A l k f b an av) (q:Yeg B R (Yan rs) cs σ A l k f b an Q X) :
   Yaa (T09 w s) (d+5) X (.glob "stepped") [.ref l,av,.ref g,.str (S cs),.ref m] Q σ:=by
 refine (Yb3 (w:=w) (s:=s)).elim fun C hC=>?_
 obtain ⟨p,i,t,h,ks⟩:=f
 have few:=hpc.1.out.1
 have asks:=hpc.2
 have f1:∃ v,σ[l]?=some (.inst "Frame" (frF p.v i t h v)):=r.fr.rec fun vs f1 zz zz=>⟨_,f1⟩
 clear hpc
 revert hw hw0 r q few asks f1
 cases p with
 | row ps=>exact fun hw hw0 r q few asks f1=>f1.elim fun v f1=>Yaa.go TO rfl rfl<|Yae.of f1 rfl rfl hC.cls hC.piece<|Cal.mk<|Yyl (d:=d+2) TO r few hw (Yps hw hw0) q
 | alt ps=>exact fun hw hw0 r q few asks f1=>f1.elim fun v f1=>Yaa.go TO rfl rfl<|Yae.of f1 rfl rfl hC.cls hC.piece<|Cal.mk<|Yx7 (d:=d+2) TO r few hw (Yps hw hw0) q
 | many p=>exact fun hw hw0 r q few asks f1=>f1.elim fun v f1=>Yaa.go TO rfl rfl<|Yae.of f1 rfl rfl hC.cls hC.piece<|Cal.mk<|Yum (d:=d+2) TO r q
 | nt p=>exact fun hw hw0 r q few asks f1=>f1.elim fun v f1=>Yaa.go TO rfl rfl<|Yae.of f1 rfl rfl hC.cls hC.piece<|Cal.mk<|Y0j (d:=d+2) TO r q
 | rule n=>exact fun hw hw0 r q few asks f1=>f1.elim fun v f1=>Yaa.go TO rfl rfl<|Yae.of f1 rfl rfl hC.cls hC.piece<|Cal.mk<|hB.rul (d:=d) hG hg hgb (asks n .here) r q
 | sign c=>exact fun hw hw0 r q few asks f1=>f1.elim fun v f1=>Yaa.go TO rfl rfl<|Yae.of f1 rfl rfl hC.cls hC.piece<|Cal.mk<|hB.sgn (d:=d+1) rfl hc r q
 | span c e=>exact fun hw hw0 r q few asks f1=>f1.elim fun v f1=>Yaa.go TO rfl rfl<|Yae.of f1 rfl rfl hC.cls hC.piece<|Cal.mk<|hB.sgn (d:=d+1) rfl hc r q
 | any=>exact fun hw hw0 r q few asks f1=>f1.elim fun v f1=>Yaa.go TO rfl rfl<|Yae.of f1 rfl rfl hC.cls hC.piece<|Cal.mk<|hB.sgn (d:=d+1) rfl hc r q
end
section
variable {w:World}{s:Shared}{d:Nat}{X:QX}{Q:QE}{σ:Hp}{rs:List (Str×Pt)}{g gb:Nat}{β κ:Type}{B:Bk β κ}{R:Ypz β κ}
noncomputable def Yfm (K:Yvr κ) (σ:Hp) (A:List Nat):List (Nat×Nat)→List (Fr κ)→Prop
 | [],fs=>fs=[]
 | p::ls,fs=>∃ f r,fs=f::r∧Yqe K σ A f p.1 p.2∧Yfm K σ A ls r
noncomputable def Yat (ls:List (Nat×Nat)):List Nat:=ls.flatMap fun p=>[p.1,p.2]
noncomputable def Yzu (an:Option (An κ)) (fr:List (Fr κ)):Prop:=match an with
 | some z1=>∀ f∈fr,f.wait
 | none=>match fr with
   | []=>True
   | f::r=>f.turn=0∧∀ f∈r,f.wait
theorem Yfm.length {K:Yvr κ}{σ:Hp}{A:List Nat}:∀ {ls:List (Nat×Nat)}{fs:List (Fr κ)},Yfm K σ A ls fs→fs.length=ls.length
 | [],z1,h=>by cases h; rfl
 | z1::z2,z3,h=>by
   obtain ⟨f,r,rfl,zz,h2⟩:=h
   simp [Yfm.length h2]
theorem Yfm.keep {K:Yvr κ}{σ σ':Hp}{A A':List Nat}(o:On σ A σ' A'):∀ {ls:List (Nat×Nat)}{fs:List (Fr κ)},Yfm K σ A ls fs→(∀ x∈Yat ls,σ'[x]?=σ[x]?)→Yfm K σ' A' ls fs
 | [],z1,h,z2=>h
 | p::ls,z1,h,e=>by
   obtain ⟨f,r,rfl,h1,h2⟩:=h
   exact ⟨f,r,rfl,h1.keep o (e _ (by simp [Yat])) (e _ (by simp [Yat])),Yfm.keep o h2 fun x hx=>e x (by simp only [Yat,List.flatMap_cons]; exact Zyb _ hx)⟩
theorem Yfm.tl {K:Yvr κ}{σ:Hp}{A:List Nat}{p:Nat×Nat}{ls:List (Nat×Nat)}{f:Fr κ}{r:List (Fr κ)}(h:Yfm K σ A (p::ls) (f::r)):Yfm K σ A ls r:=h.elim fun f' h=>h.elim fun r' h=>(List.cons.inj h.1).2▸h.2.2
theorem Yqx {n:Nat}:seqIndex? (-1) (n+[V.none].length)=some n:=by
 unfold seqIndex?
 simp
 lia
noncomputable def Ywy (ns:List Str) (q:Pt):Out β κ→Prop
 | .push f p z1 z2=>f.wait∧f.piece=q∧Yp7 ns p
 | z1=>True
theorem Yni {cs:List Nat}{f:Fr κ}{an:Option (An κ)}{b:β}(hp:Yp7 (rs.map (·.1)) f.piece) (hr:∀ n∈rs.map (·.1),Yp7 (rs.map (·.1)) (Yan rs n)):Ywy (rs.map (·.1)) f.piece (Yah (Yan rs) cs B f an b):=by
 obtain ⟨q,j,t,e,ks⟩:=f
 have row:∀ {ps:List Pt}{F:Fr κ},F.piece=.row ps→Yp7 (rs.map (·.1)) (.row ps)→Ywy (rs.map (·.1)) (.row ps) (Ybp ps F b):=fun {ps F} hF h=>by
   unfold Ybp
   cases hg:ps[F.turn]? with
   | some p=>exact ⟨by unfold Fr.wait; rw [hF]; exact (Zb.mp hg).1,hF,h.kid (Zn hg)⟩
   | none=>exact trivial
 have alt:∀ {ps:List Pt}{F:Fr κ},F.piece=.alt ps→Yp7 (rs.map (·.1)) (.alt ps)→Ywy (rs.map (·.1)) (.alt ps) (Ybq ps F b):=fun {ps F} hF h=>by
   unfold Ybq
   cases hg:ps[F.turn]? with
   | some p=>exact ⟨by unfold Fr.wait; rw [hF]; exact (Zb.mp hg).1,hF,h.kid (Zn hg)⟩
   | none=>exact trivial
 have leaf:∀ {p q:Pt}{F:Fr κ},Ywy (rs.map (·.1)) p (Ybg cs B q F b):=fun {p q F}=>by
   unfold Ybg
   cases B.look b with
   | none=>exact trivial
   | some b' =>
     dsimp only
     cases cs[F.place]? with
     | none=>exact trivial
     | some c =>
       dsimp only
       cases q.takesC c with
       | false=>exact trivial
       | true=>exact trivial
 cases q with
 | row ps =>
   revert an
   exact @an3 κ _ (row rfl hp) (fun us=>trivial) fun e' us=>row rfl hp
 | alt ps =>
   revert an
   exact @an3 κ _ (alt rfl hp) (fun us=>alt rfl hp) fun e' us=>trivial
 | many x =>
   have hx:=hp.kid (Zj.mpr rfl)
   revert an
   refine @an3 κ _ ⟨trivial,rfl,hx⟩ (fun us=>trivial) fun e' us=>?_
   show Ywy _ _ (if e'=e then _ else _)
   by_cases he:e'=e
   · rw [if_pos he]; exact trivial
   · rw [if_neg he]; exact ⟨trivial,rfl,hx⟩
 | nt x =>
   revert an
   exact @an3 κ _ ⟨trivial,rfl,hp.kid (Zj.mpr rfl)⟩ (fun us=>trivial) fun e' us=>trivial
 | rule n =>
   cases an with
   | some x=>exact trivial
   | none =>
     simp only [Yah]
     cases B.known b n j with
     | some x=>exact trivial
     | none =>
       dsimp only
       cases B.begun b n j with
       | none=>exact trivial
       | some b'=>exact ⟨trivial,rfl,hr n (hp.2 n .here)⟩
 | sign c=>exact leaf
 | span c e=>exact leaf
 | any=>exact leaf
theorem Ycf {l k lf:Nat}{ls:List (Nat×Nat)}{o:List Nat}:Yat ((l,k)::ls)++lf::o=l::k::(Yat ls++lf::o):=by simp [Yat]
structure Wk (R:Ypz β κ) (rs:List (Str×Pt)) (lf:Nat) (σ:Hp) (st:Ms β κ) (ls:List (Nat×Nat)) (av:V) (σ':Hp):Prop where
 fl:σ'[lf]?=some (.list (ls.map fun p=>V.ref p.1).reverse)
 frs:Yfm R.K σ' (Yat ls++lf::R.own) ls st.fr
 an:AnO R.K σ' (Yat ls++lf::R.own) st.an av
 bk:R.is σ' (Yat ls++lf::R.own) st.bk
 nd:(Yat ls++lf::R.own).Nodup
 lt:∀ x∈Yat ls++lf::R.own,x < σ'.length
 pc:∀ f∈st.fr,Yp7 (rs.map (·.1)) f.piece
 wt:Yzu st.an st.fr
 on:On σ R.own σ' (Yat ls++lf::R.own)
 len:σ.length≤σ'.length
section
variable {lf l k:Nat}{f:Fr κ}{r:List (Fr κ)}{an:Option (An κ)}{b:β}{ls:List (Nat×Nat)}{av:V}{σ' σ₂:Hp}
theorem Wk.init {name:Str}{i:Nat}(hnd:R.own.Nodup) (hlt:∀ x∈R.own,x < σ.length) (hm:R.is σ R.own b) (hin:name∈rs.map (·.1)):Wk R rs (σ.length+2) σ ⟨[.new (.rule name) i],none,b⟩ [(σ.length,σ.length+1)] .none (σ++[.inst "Frame" (frF (Pt.rule name).v i 0 i (σ.length+1)),.list []]++[.list [.ref σ.length]]):=by
 have new2:∀ {k:Nat},σ.length+k∉R.own:=fun hx=>absurd (hlt _ hx) (Zo.mpr (Zy ..))
 have m3:∀ {P:Prop}{x:Nat},x∈Yat [(σ.length,σ.length+1)]++(σ.length+2)::R.own→(∀ k,k < 3→x=σ.length+k→P)→(x∈R.own→P)→P:=fun hx c1 c2=>(Zg.mp hx).elim (c1 0 (by decide)) fun hx=>(Zg.mp hx).elim (c1 1 (by decide)) fun hx=>(Zg.mp hx).elim (c1 2 (by decide)) c2
 have on0:∀ {x y z:Yaq},On σ R.own (σ++[x,y]++[z]) (Yat [(σ.length,σ.length+1)]++(σ.length+2)::R.own):=⟨fun zz zz e zz=>Yab (Yab e),fun x hx hl=>m3 hx (fun k zz e=>absurd hl (e▸Zo.mpr (Zy ..))) id⟩
 have at_:∀ (k:Nat) {a b c o:Yaq},[a,b,c][k]?=some o→(σ++[a,b]++[c])[σ.length+k]?=some o:=fun k {a b c o} h=>by rw [Ze,Ztc (Zy ..),Zuc]; exact h
 have ne:∀ {a b:Nat},a≠b→σ.length+a≠σ.length+b:=fun h e=>h (Nat.add_left_cancel e)
 have no:∀ {q:Pt},¬ q∈(Pt.rule name).kids:=fun hq=>by rw [Pt.kids8] at hq; exact absurd hq Zdc
 refine ⟨at_ 2 rfl,⟨_,_,rfl,⟨[],at_ 0 rfl,at_ 1 rfl,rfl⟩,rfl⟩,rfl,R.keep hm on0 fun x hx=>by rw [Ze]; exact Zbb (hlt x hx),?_,fun x hx=>?_,fun f hf=>?_,⟨rfl,fun f hf=>absurd hf Zdc⟩,on0,Ze σ _ _▸Zf▸Zy ..⟩
 · exact Zxc.mpr ⟨fun h=>(Zg.mp h).elim (ne (a:=0) (b:=1) (by decide)) fun h=>(Zg.mp h).elim (ne (a:=0) (b:=2) (by decide)) (new2 (k:=0)),Zxc.mpr ⟨fun h=>(Zg.mp h).elim (ne (a:=1) (b:=2) (by decide)) new2,Zxc.mpr ⟨new2,hnd⟩⟩⟩
 · rw [Ze,Zf]
   exact m3 hx (fun k hk e=>Zk (Zr e) (Nat.add_lt_add_left hk _)) fun hx=>Nat.lt_add_right _ (hlt x hx)
 · rw [Zj.mp hf]
   exact ⟨⟨show (Pt.rule name).kids.length < 1000 by rw [Pt.kids8]; decide,fun q hq=>absurd hq no⟩,fun n hn=>(Pt.asks_kids (show (Pt.rule name).Asks n from hn)).elim (fun e=>by cases e; exact hin) fun hh=>hh.elim fun q hq=>absurd hq.1 no⟩
theorem Wk.done {a:An κ}(W:Wk R rs lf σ ⟨[],some a,b⟩ [] av σ'):Yhf R.K σ' R.own a av∧R.is σ' R.own b∧On σ R.own σ' R.own:=by
 have lo:On σ' (Yat []++lf::R.own) σ' R.own:=.less fun y hy=>Zd _ hy
 exact ⟨Yhf.keep lo W.an,R.keep W.bk lo fun zz zz=>rfl,W.on.trans lo W.len⟩
variable (W:Wk R rs lf σ ⟨f::r,an,b⟩ ((l,k)::ls) av σ')
include W
theorem Wk.rdy (few:Yff B f an b):Rdy B R σ' (Yat ls++lf::R.own) l k f b an av:=by
 have nd:=W.nd
 have lt:=W.lt
 obtain ⟨zz,zz,e,hf,zz⟩:=W.frs
 cases e
 have han:=W.an
 have bk:=W.bk
 rw [Ycf] at nd lt hf han bk
 have nd2:=Zxc.mp nd
 exact ⟨hf,bk,han,few,(Zxc.mp nd2.2).1,fun h=>nd2.1 (Zd _ h),fun x hx=>Zyb _ (Zd _ hx),fun x hx=>lt x (Zd _ (Zd _ hx))⟩
theorem Wk.out {g:Nat}(hg:g∉R.own) (hl:g < σ.length):g∉Yat ls++lf::R.own:=fun h=>hg (W.on.live g (by rw [Ycf]; exact Zd _ (Zd _ h)) hl)
theorem Wk.waits:(an≠none→f.wait)∧(an=none→f.turn=0)∧∀ x∈r,x.wait:=by
 have wt:=W.wt
 cases an with
 | none=>exact ⟨fun e=>absurd rfl e,fun zz=>wt.1,wt.2⟩
 | some x=>exact ⟨fun zz=>wt f (Zt ..),(by intros; contradiction),fun y hy=>wt y (Zd _ hy)⟩
theorem Wk.kept (o:On σ' (l::k::R.own) σ₂ (l::k::R.own)):On σ' (l::k::(Yat ls++lf::R.own)) σ₂ (l::k::(Yat ls++lf::R.own))∧(∀ x∈Yat ls,σ₂[x]?=σ'[x]?)∧σ₂[lf]?=σ'[lf]?∧(∀ x∈Yat ls,lf≠x)∧(∀ x∈R.own,lf≠x)∧lf≠l∧lf≠k:=by
 have nd:=W.nd
 have lt:=W.lt
 rw [Ycf] at nd lt
 have nd2:=Zxc.mp nd
 have nd3:=Zxc.mp nd2.2
 have nd4:=List.nodup_append.mp nd3.2
 have hln:l∉Yat ls++lf::R.own:=fun h=>nd2.1 (Zd _ h)
 have same:∀ x∈Yat ls++[lf],σ₂[x]?=σ'[x]?:=fun x hx=>by
   have hA:x∈Yat ls++lf::R.own:=by
     rcases Zm.mp hx with h | h
     · exact Zxb _ h
     · exact Zyb _ (Zj.mp h▸Zt ..)
   have hx':x∉l::k::R.own:=fun h=>by
     rcases Zg.mp h with h | h
     · exact hln (h▸hA)
     · rcases Zg.mp h with h | h
       · exact nd3.1 (h▸hA)
       · rcases Zm.mp hx with q | q
         · exact nd4.2.2 x q x (Zd _ h) rfl
         · exact (Zxc.mp nd4.2.1).1 (Zj.mp q▸h)
   have hl:=lt x (Zd _ (Zd _ hA))
   rw [Zp hl]
   exact o.keep _ _ (Zp hl) hx'
 refine ⟨⟨fun x y e h=>o.keep x y e fun hq=>h ?_,fun zz h zz=>h⟩,fun x hx=>same x (Zxb _ hx),same lf (Zyb _ (Zj.mpr rfl)),fun x hx e=>nd4.2.2 x hx lf (Zt ..) e.symm,fun x hx e=>(Zxc.mp nd4.2.1).1 (e▸hx),fun e=>hln (e▸Zyb _ (Zt ..)),fun e=>nd3.1 (e▸Zyb _ (Zt ..))⟩
 rcases Zg.mp hq with rfl | hq
 · exact Zt ..
 · rcases Zg.mp hq with rfl | hq
   · exact Zd _ (Zt ..)
   · exact Zd _ (Zd _ (Zyb _ (Zd _ hq)))
theorem Wk.pop {a':An κ}{b':β}{av':V}(o:On σ' (l::k::R.own) σ₂ (l::k::R.own)) (hl:σ'.length≤σ₂.length) (h1:Yhf R.K σ₂ (Yat ls++lf::R.own) a' av') (h2:R.is σ₂ (Yat ls++lf::R.own) b'):Wk R rs lf σ ⟨r,some a',b'⟩ ls av' (σ₂.set lf (.list (ls.map fun p=>V.ref p.1).reverse)):=by
 refine Yz9 (W.kept o) fun k1 k2 k3 k4 k5 k6 k7=>?_
 have nd:=W.nd
 have lt:=W.lt
 have on:=W.on
 have hrs:=W.frs.tl
 rw [Ycf] at nd lt on hrs
 have hlA:lf∈Yat ls++lf::R.own:=Zyb _ (Zt ..)
 have o2:On σ' (l::k::(Yat ls++lf::R.own)) (σ₂.set lf (.list (ls.map fun p=>V.ref p.1).reverse)) (Yat ls++lf::R.own):=(k1.trans Yb8 hl).trans (.put hlA) hl
 refine ⟨Zw (Zz (lt lf (Zd _ (Zd _ hlA))) hl),hrs.keep o2 fun x hx=>?_,Yhf.keep (.put hlA) h1,R.keep h2 (.put hlA) fun x hx=>Zi (k5 x hx),(Zxc.mp (Zxc.mp nd).2).2,fun x hx=>?_,fun y hy=>W.pc y (Zd _ hy),W.waits.2.2,on.trans o2 W.len,by rw [List.length_set]; exact Za W.len hl⟩
 · rw [Zi (k4 x hx)]; exact k2 x hx
 · rw [List.length_set]; exact Zz (lt x (Zd _ (Zd _ hx))) hl
theorem Wk.push {f':Fr κ}{p:Pt}{i:Nat}{b':β}(o:On σ' (l::k::R.own) σ₂ (l::k::R.own)) (hl:σ'.length≤σ₂.length) (h1:Yqe R.K σ₂ (l::k::(Yat ls++lf::R.own)) f' l k) (h2:R.is σ₂ (l::k::(Yat ls++lf::R.own)) b') (sp1:f'.wait) (sp2:f'.piece=f.piece) (sp3:Yp7 (rs.map (·.1)) p) :
   Wk R rs lf σ ⟨.new p i::f'::r,none,b'⟩ ((σ₂.length,σ₂.length+1)::(l,k)::ls) .none ((σ₂++[Yaq.inst "Frame" (frF p.v i 0 i (σ₂.length+1)),.list []]).set lf (.list ((((l,k)::ls).map fun p=>V.ref p.1).reverse++[V.ref σ₂.length]))):=by
 refine Yz9 (W.kept o) fun k1 k2 k3 k4 k5 k6 k7=>?_
 have nd:=W.nd
 have lt:=W.lt
 have on:=W.on
 have hrs:=W.frs.tl
 rw [Ycf] at nd lt on hrs
 have hlA:lf∈Yat ls++lf::R.own:=Zyb _ (Zt ..)
 have lt2:∀ x∈l::k::(Yat ls++lf::R.own),x < σ₂.length:=fun x hx=>Zz (lt x hx) hl
 have hlf:=lt2 lf (Zd _ (Zd _ hlA))
 have up:∀ {u v y:Yaq} x,x < σ₂.length→lf≠x→((σ₂++[u,v]).set lf y)[x]?=σ₂[x]?:=fun {u v y} x hx hne=>by
   rw [Zi hne]; exact Zbb hx
 have o2:∀ {u v y:Yaq},On σ₂ (l::k::(Yat ls++lf::R.own)) ((σ₂++[u,v]).set lf y) (σ₂.length::(σ₂.length+1)::l::k::(Yat ls++lf::R.own)):=fun {u v y}=>⟨fun x o e hx=>by
     rw [up x (Zb.mp e).1 (fun q=>hx (q▸Zd _ (Zd _ hlA)))]; exact e,fun x hx hl=>by
     exact (Zg.mp hx).elim (fun e=>absurd hl (e▸Zub _)) fun hx=>(Zg.mp hx).elim (fun e=>absurd hl (e▸Zo.mpr (Nat.le_succ _))) id⟩
 have e2:Yat ((σ₂.length,σ₂.length+1)::(l,k)::ls)++lf::R.own=σ₂.length::(σ₂.length+1)::l::k::(Yat ls++lf::R.own):=by rw [Ycf,Ycf]
 refine ⟨?_,?_,rfl,?_,?_,?_,fun y hy=>?_,⟨rfl,fun y hy=>?_⟩,?_,?_⟩
 · rw [Zw (by rw [Zf]; exact Nat.lt_add_right _ hlf),List.map_cons (l:=(l,k)::ls),List.reverse_cons]
 · rw [e2]
   refine ⟨_,_,rfl,⟨[],?_,?_,rfl⟩,⟨_,_,rfl,h1.keep o2 (up l (lt2 l (Zt ..)) k6) (up k (lt2 k (Zd _ (Zt ..))) k7),hrs.keep (k1.trans o2 hl) fun x hx=>?_⟩⟩
   · rw [Zi (Znc hlf)]; exact Ye0
   · rw [Zi (Znc (Nat.lt_succ_of_lt hlf))]; exact Yif
   · rw [up x (lt2 x (Zd _ (Zd _ (Zxb _ hx)))) (k4 x hx)]; exact k2 x hx
 · rw [e2]
   exact R.keep h2 o2 fun x hx=>up x (lt2 x (Zd _ (Zd _ (Zyb _ (Zd _ hx))))) (k5 x hx)
 · rw [e2]
   refine Zxc.mpr ⟨fun hx=>?_,Zxc.mpr ⟨fun hx=>?_,nd⟩⟩
   · rcases Zg.mp hx with e | hx
     · exact absurd e (Znc (Zs _))
     · exact Zub _ (lt2 _ hx)
   · exact absurd (lt2 _ hx) (Zo.mpr (Nat.le_succ _))
 · rw [e2]
   intro x hx
   rw [List.length_set,Zf]
   exact (Zg.mp hx).elim (fun e=>Zk (Zr e) (Nat.lt_add_of_pos_right (show 0 < 2 by decide))) fun hx=>(Zg.mp hx).elim (fun e=>Zk (Zr e) (Nat.add_lt_add_left (show 1 < 2 by decide) _)) fun hx=>Nat.lt_add_right _ (lt2 x hx)
 · exact (Zg.mp hy).elim (fun e=>e▸sp3) fun hy=>(Zg.mp hy).elim (fun e=>e▸sp2.symm▸W.pc f (Zt ..)) fun hy=>W.pc y (Zd _ hy)
 · exact (Zg.mp hy).elim (fun e=>e▸sp1) (W.waits.2.2 y)
 · rw [e2]; exact on.trans (k1.trans o2 hl) W.len
 · rw [List.length_set,Zf]; exact Za W.len (Nat.le_add_right_of_le hl)
end
inductive Jw (B:Bk β κ) (R:Ypz β κ) (P:Option (An κ×β)→Prop) (rs:List (Str×Pt)) (cs:List Nat) (g m lf:Nat) (σ:Hp) (n:Nat) (ρ:Loc) (σ':Hp):Prop where
 | mk (st:Ms β κ) (ls:List (Nat×Nat)) (av:V) (fin:Fin (Yan rs) cs B P n st) (has:Has ρ [("grammar",.ref g),("text",.str (S cs)),("book",.ref m),("frames",.ref lf),("answer",av)]) (w:Wk R rs lf σ st ls av σ'):Jw B R P rs cs g m lf σ n ρ σ'
inductive Trn (B:Bk β κ) (R:Ypz β κ) (P:Option (An κ×β)→Prop) (rs:List (Str×Pt)) (cs:List Nat) (lf l:Nat) (σ:Hp) (n:Nat) (σ₂:Hp):V→Prop where
 | push (p:Pt) (i:Nat) (st:Ms β κ) (ls:List (Nat×Nat)) (us:List V) (m:Nat) (hm:m < n) (fin:Fin (Yan rs) cs B P m st) (hf:σ₂[lf]?=some (.list us)) (hz:us.length≤5000001) (w:Wk R rs lf σ st ls .none ((σ₂++[Yaq.inst "Frame" (frF p.v i 0 i (σ₂.length+1)),.list []]).set lf (.list (us++[V.ref σ₂.length])))):Trn B R P rs cs lf l σ n σ₂ (.tup [.tup [p.v,.int i],.none])
 | pop (st:Ms β κ) (ls:List (Nat×Nat)) (us:List V) (m:Nat) (av:V) (hm:m < n) (fin:Fin (Yan rs) cs B P m st) (hf:σ₂[lf]?=some (.list (us++[.ref l]))) (hz:us.length≤5000000) (w:Wk R rs lf σ st ls av (σ₂.set lf (.list us))):Trn B R P rs cs lf l σ n σ₂ (.tup [.none,av])
theorem Wk.turn {cs:List Nat}{P:Option (An κ×β)→Prop}{lf l k n:Nat}{f:Fr κ}{r:List (Fr κ)}{an:Option (An κ)}{b:β}{ls:List (Nat×Nat)}{av v:V}{σ' σ₂:Hp}(hg:Yax rs) (W:Wk R rs lf σ ⟨f::r,an,b⟩ ((l,k)::ls) av σ') (fin:Fin (Yan rs) cs B P n ⟨f::r,an,b⟩) (o:On σ' (l::k::R.own) σ₂ (l::k::R.own)) (hl:σ'.length≤σ₂.length) (sr:Ypn R σ₂ (Yat ls++lf::R.own) l k (Yah (Yan rs) cs B f an b) v):Trn B R P rs cs lf l σ n σ₂ v:=by
 have hr:=fin.inv.1
 have hfin:=fin.inv.2.2
 have hz:ls.length≤5000000:=W.frs.tl.length▸hr
 have fl:σ₂[lf]?=some (.list ((ls.map fun p=>V.ref p.1).reverse++[.ref l])):=by rw [(W.kept o).2.2.1,W.fl,List.map_cons,List.reverse_cons]
 have sp:=Yni (B:=B) (cs:=cs) (an:=an) (b:=b) (W.pc f (Zt ..)) fun n hn=>by
   obtain ⟨y,hy,rfl⟩:=Zsb.mp hn
   rw [Ycr hg.nodup hy]
   exact ⟨(hg.all y hy).few,(hg.all y hy).asks⟩
 have hfin:Y0x (Yan rs) cs B P n r (Yah (Yan rs) cs B f an b):=hfin
 clear fin
 generalize Yah (Yan rs) cs B f an b=out at sr sp hfin
 cases sr with
 | push h1 h2 =>
   obtain ⟨m,hm,hf⟩:=hfin
   refine .push _ _ _ _ ((((l,k)::ls).map fun p=>V.ref p.1).reverse) m hm hf (fl.trans (by rw [List.map_cons,List.reverse_cons])) (by rw [Zec,Zc]; exact Zwb hz) (W.push o hl h1 h2 sp.1 sp.2.1 sp.2.2)
 | pop h1 h2 =>
   obtain ⟨m,hm,hf⟩:=hfin
   exact .pop _ _ _ m _ hm hf fl (by rw [Zec,Zc]; exact hz) (W.pop o hl h1 h2)
theorem Wk.split {P0:Prop}{cs:List Nat}{P:Option (An κ×β)→Prop}{lf n:Nat}{st:Ms β κ}{ls:List (Nat×Nat)}{av:V}{σ':Hp}(W:Wk R rs lf σ st ls av σ') (fin:Fin (Yan rs) cs B P n st)
   (c0:∀ a b',P (some (a,b'))→Yhf R.K σ' R.own a av→R.is σ' R.own b'→On σ R.own σ' R.own→σ'[lf]?=some (.list [])→P0)
   (c1:∀ l k f r an b ls',Wk R rs lf σ ⟨f::r,an,b⟩ ((l,k)::ls') av σ'→Fin (Yan rs) cs B P n ⟨f::r,an,b⟩→ls'.length≤5000000→σ'[lf]?=some (.list ((ls'.map fun p=>V.ref p.1).reverse++[.ref l]))→P0):P0:=by
 obtain ⟨fr,an,bk⟩:=st
 cases ls with
 | nil =>
   cases W.frs
   refine fin.inv.elim fun a h=>?_
   have ha:=h.1
   cases ha
   exact c0 a bk h.2 W.done.1 W.done.2.1 W.done.2.2 W.fl
 | cons p ls =>
   refine W.frs.elim fun f h=>h.elim fun r h'=>?_
   have e:=h'.1
   cases e
   exact c1 p.1 p.2 f r an bk ls W fin (h'.2.2.length▸fin.inv.1) (by rw [W.fl,List.map_cons,List.reverse_cons])
theorem Trn.use {P0:V→Prop}{cs:List Nat}{P:Option (An κ×β)→Prop}{lf l n:Nat}{σ₂:Hp}{v:V}(h:Trn B R P rs cs lf l σ n σ₂ v)
   (c1:∀ (p:Pt) (i:Nat) (st:Ms β κ) (ls:List (Nat×Nat)) (us:List V) (m:Nat),m < n→Fin (Yan rs) cs B P m st→σ₂[lf]?=some (.list us)→us.length≤5000001→Wk R rs lf σ st ls .none ((σ₂++[Yaq.inst "Frame" (frF p.v i 0 i (σ₂.length+1)),.list []]).set lf (.list (us++[V.ref σ₂.length])))→P0 (.tup [.tup [p.v,.int i],.none]))
   (c2:∀ (st:Ms β κ) (ls:List (Nat×Nat)) (us:List V) (m:Nat) (av:V),m < n→Fin (Yan rs) cs B P m st→σ₂[lf]?=some (.list (us++[.ref l]))→us.length≤5000000→Wk R rs lf σ st ls av (σ₂.set lf (.list us))→P0 (.tup [.none,av])):P0 v :=
 h.rec (fun p i st ls us m a b c d e=>c1 p i st ls us m a b c d e) fun st ls us m av a b c d e=>c2 st ls us m av a b c d e
theorem Yoa (TO:Yag (T09 w s)) {cs:List Nat}{m i:Nat}{b:β}{name:Str}{P:Option (An κ×β)→Prop}(hB:Yo5 (T09 w s) B R rs g gb m) (hg:Yax rs) (hG:GrT rs g gb σ) (hga:g∉R.own) (hgb:gb∉R.own) (hnd:R.own.Nodup) (hlt:∀ x∈R.own,x < σ.length) (hc:cs.length < 100000) (hm:R.is σ R.own b) (hin:name∈rs.map (·.1))
   (hfin:∃ n,Fin (Yan rs) cs B P n ⟨[.new (.rule name) i],none,b⟩) (hX:∀ σ',P none→On σ R.own σ' R.own→σ.length≤σ'.length→X "TooLong" σ')
   (q:∀ an b' av σ',P (some (an,b'))→Yhf R.K σ' R.own an av→R.is σ' R.own b'→On σ R.own σ' R.own→σ.length≤σ'.length→Q av σ') :
   Yaa (T09 w s) (d+7) X (.glob "worked") [.ref g,.str (S cs),.ref m,.str name,.int i] Q σ:=by
 refine Yaa.go TO rfl rfl<|hfin.elim fun n hfin=>Cal.mk<|Yky (d:=d+3) (pv:=(Pt.rule name).v) TO ?_
 refine Stx.mk<|Ybe.while (Jw B R P rs cs g m (σ.length+2) σ) n ⟨_,_,_,hfin,⟨rfl,rfl,rfl,congrArg (fun n=>some (V.ref n)) (by rw [Zf]; rfl),rfl,trivial⟩,Wk.init hnd hlt hm hin⟩ ?_
 refine fun n ρ' σ' hJ=>hJ.rec fun st ls av fin has W=>?_
 apply Has.on has
 have gl:g < σ.length∧gb < σ.length:=hG.rec fun zz zz zz h1 h2=>⟨(Zb.mp h1).1,(Zb.mp h2).1⟩
 generalize σ.length+2=lf at W
 refine W.split fin (fun a b' hp ha hm' ho hfl=>Yd7 TO rfl 40 10 _ _ _<|tvc.of (b:=false) (Ycq hfl (by decide))<|Ykt (by decide)<|q _ _ _ _ hp ha hm' ho W.len) fun l k f r an bk ls' W fin ll fl'=>?_
 refine Yd7 TO rfl 40 10 _ _ _<|tvc.of (b:=true) (Ydx fl' (by rw [Zf,Zec,Zc]; exact Zk (Zwb ll) (by decide)) (by simp)) ?_
 refine Yh3 rfl ?_
 refine Ya5 TO rfl 60 _ _ _ _ ?_
 refine Itm.list (j:=ls'.length) (v:=.ref l) fl' (by rw [Zf,Zec,Zc]; exact Yqx) (by rw [Ztc (by rw [Zec,Zc]; exact Zl _),Zec,Zc,Nat.sub_self]; rfl) ⟨by decide,by decide⟩ ?_
 refine Cal.mk<|Yms (d:=d+1) TO hB (hG.keep W.on hga hgb) (W.out hga gl.1) (W.out hgb gl.2) hc (W.pc f (Zt ..)) W.waits.1 W.waits.2.1 (W.rdy fin.inv.2.1) ⟨fun v σ₂ o hl₂ sr=>?_,fun σ₂ o hl₂ hs=>?_⟩
 · apply Trn.use (W.turn hg fin o hl₂ sr)
   · exact fun p i st ls us mm hmm fin' hf hz w'=>Cmp.isN (r:=false) rfl<|Yak.append hf<|Cal.mk<|Yky (d:=d+3) TO<|Cal.mk<|Yaa.append (Yab hf) (szo (Za hz (by decide))) ⟨mm,hmm,⟨st,ls,.none,fin',⟨rfl,rfl,rfl,rfl,rfl,trivial⟩,w'⟩⟩
   · exact fun st ls us mm av' hmm fin' hf hz w'=>Cmp.isN (r:=true) rfl<|Yak.pop hf<|Cal.mk<|Yaa.pop hf (by rw [sizeLine_eq]; exact Zk hz (by decide)) ⟨mm,hmm,⟨st,ls,av',fin',⟨rfl,rfl,rfl,rfl,rfl,trivial⟩,w'⟩⟩
 · have on:=W.on
   rw [Ycf] at on
   have hq:=fin.inv.2.2
   rw [show Yah (Yan rs) cs B f an bk=.stop from hs] at hq
   exact hX _ hq (on.trans ((W.kept o).1.trans (.less fun x hx=>Zd _ (Zd _ (Zyb _ (Zd _ hx)))) hl₂) W.len) (Za W.len hl₂)
end
section
variable {w:World}{s:Shared}{d:Nat}{X:QX}{Q:QE}{σ:Hp}{rs:List (Str×Pt)}{g gb:Nat}
theorem Yhq (TO:Yag (T09 w s)) (hn:(rs.map (·.1)).Nodup) (hG:GrT rs g gb σ) {cs:List Nat}{x:Str}{i:Int}(hc:cs.length < 100000) (q:x∈rs.map (·.1)→0≤i→i≤cs.length→Q .none σ) (qx:x∉rs.map (·.1)→X "NoRule" σ) (qy:x∈rs.map (·.1)→(i < 0∨cs.length < i)→X "OutOfPlace" σ) :
   Yaa (T09 w s) (d+3) X (.glob "need_place") [.ref g,.str (S cs),.str x,.int i] Q σ:=by
 obtain ⟨C,hC⟩:=Yg3 (w:=w) (s:=s)
 refine Yaa.go TO rfl rfl ?_
 have hG':=hG
 obtain ⟨a,c,e,h5,h7⟩:=hG
 refine Yak.own h5 rfl hC.cls hC.part<|Cal.mk<|Yk1 TO hn hG' (fun r hr hx=>?_) qx
 have hin:x∈rs.map (·.1):=Zsb.mpr ⟨r,hr,hx⟩
 have hS:(S cs).length=cs.length:=by simp [S,Str.length]
 refine Br.mk (fun h0=>Cal.len (n:=cs.length) (Yc7 hS) (by exact Za (by assumption) (by decide))<|Br.mk (fun h1=>?_) fun h1=>?_) fun h0=>?_
 · exact Stx.mk<|Ybe.raise TO rfl rfl rfl rfl rfl (by kernel_rfl) (qy hin (.inr (by simpa using h1)))
 · exact q hin (by simpa using h0) (by simpa using h1)
 · exact Stx.mk<|Ybe.raise TO rfl rfl rfl rfl rfl (by kernel_rfl) (qy hin (.inl (by simpa using h0)))
structure Yxa (T:Tp) (C:Addr):Prop where
 cls:Ye9 T "Reading" C
 grammar:Ydm T C "grammar"
 signs:Ydm T C "signs"
 memory:Ydm T C "memory"
 read:Yex T C "read"
 tree:Yex T C "tree"
 begun:Yex T C "begun"
theorem Yjg:∃ C,Yxa (T09 w s) C:=⟨_,⟨rfl,rfl,rfl,rfl,rfl,rfl⟩,⟨rfl,rfl⟩,⟨rfl,rfl⟩,⟨rfl,rfl⟩,⟨_,rfl,rfl,rfl⟩,⟨_,rfl,rfl,rfl⟩,⟨_,rfl,rfl,rfl⟩⟩
noncomputable def rdF (g:Nat) (cs:List Nat) (m:Nat):List (Str×V):=[("grammar",.ref g),("signs",.str (S cs)),("memory",.ref m)]
theorem Ye7 (TO:Yag (T09 w s)) {cs:List Nat}(q:Q (.ref σ.length) (σ++[.inst "Reading" (rdF g cs (σ.length+1)),.inst "Memory" (mmF (σ.length+2) (σ.length+3)),.tdict [],.list []])):Yaa (T09 w s) (d+5) X (.glob "Reading") [.ref g,.str (S cs)] Q σ:=by
 obtain ⟨C,hC⟩:=Yjg (w:=w) (s:=s)
 refine Yaa.make TO rfl rfl rfl rfl<|Ycc.goM TO rfl rfl ?_
 refine Yam.to [("grammar",.ref g)] Yac hC.cls hC.grammar (by decide) rfl Yb7 ?_
 refine Yam.to [("grammar",.ref g),("signs",.str (S cs))] Yac hC.cls hC.signs (by simp) rfl Yb7 ?_
 refine Cal.mk<|Ynk TO ?_
 exact Yam.to (rdF g cs (σ.length+1)) (gs:=[("grammar",.ref g),("signs",.str (S cs))]) (Yab Yac) hC.cls hC.memory (by simp) (by simp [Yca,rdF]; decide) (σ':=σ++[.inst "Reading" (rdF g cs (σ.length+1)),.inst "Memory" (mmF (σ.length+2) (σ.length+3)),.tdict [],.list []]) (by rw [Ze,Zf]; exact Yq9) ⟨rfl,q⟩
theorem Yer (TO:Yag (T09 w s)) {l m a b:Nat}{cs:List Nat}{os:List V}(h0:σ[l]?=some (.inst "Reading" (rdF g cs m))) (h1:σ[m]?=some (.inst "Memory" (mmF a b))) (h2:σ[b]?=some (.list os)) (hz:os.length≤sizeLine) (q:Q (.ref σ.length) (σ++[.list os])):Yaa (T09 w s) (d+2) X (.mth "Reading" "begun") [.ref l] Q σ:=by
 obtain ⟨C,hC⟩:=Yjg (w:=w) (s:=s)
 obtain ⟨M,hM⟩:=Yd3 (w:=w) (s:=s)
 refine Yaa.goM TO rfl rfl ?_
 exact Yae.of h0 rfl rfl hC.cls hC.memory<|Yae.of h1 rfl rfl hM.cls hM.order<|Cal.list (vs:=os) (Ydw h2) hz q
theorem Yrd (TO:Yag (T09 w s)) (hn:(rs.map (·.1)).Nodup) {m a b u0:Nat}{uo:List V}(hbu:b≠u0):Yo5 (T09 w s) Yaw (Ybh m a b u0 uo) rs g gb m where
 sgn:=fun hp hc r q=>Yxh TO hp hc r q
 rul:=fun hG hg hgb hin r q=>Yy3 TO hbu hn hG hg hgb hin r q
theorem Yd4.nodup {A:List Nat}{m a b u0:Nat}{uo:List V}{mem:Mm}(hbu:b≠u0) (h:Yd4 σ A m a b mem) (h5:σ[u0]?=some (.list uo)):(Ybh m a b u0 uo).own.Nodup∧∀ x∈(Ybh m a b u0 uo).own,x < σ.length:=by
 obtain ⟨kvs,h1,h2,h3,h4⟩:=h
 have n1:m≠a:=fun e=>by rw [e,h2] at h1; cases h1
 have n2:a≠b:=fun e=>by rw [e,h3] at h2; cases h2
 have n3:m≠b:=fun e=>by rw [e,h3] at h1; cases h1
 have n4:m≠u0:=fun e=>by rw [e,h5] at h1; cases h1
 have n5:a≠u0:=fun e=>by rw [e,h5] at h2; cases h2
 refine ⟨by simp [Ybh,n1,n2,n3,n4,n5,hbu],fun x hx=>?_⟩
 simp only [Ybh,Zg,Zdc,or_false] at hx
 rcases hx with rfl | rfl | rfl | rfl
 · exact (Zb.mp h1).1
 · exact (Zb.mp h2).1
 · exact (Zb.mp h3).1
 · exact (Zb.mp h5).1
theorem Yjs (TO:Yag (T09 w s)) {cs:List Nat}{l m a b u0:Nat}{uo:List V}{i:Int}{mem:Mm}{name:Str}{P:Option (An Kid×Mm)→Prop}(hg:Yax rs) (hG:GrT rs g gb σ) (hga:g∉[m,a,b,u0]) (hgb:gb∉[m,a,b,u0]) (hc:cs.length < 100000) (h0:σ[l]?=some (.inst "Reading" (rdF g cs m))) (hbu:b≠u0) (hm:Yd4 σ [m,a,b,u0] m a b mem) (hu:σ[u0]?=some (.list uo))
   (qx:name∉rs.map (·.1)→X "NoRule" σ) (qy:name∈rs.map (·.1)→(i < 0∨cs.length < i)→X "OutOfPlace" σ)
   (hfin:name∈rs.map (·.1)→∀ j:Nat,i=j→j≤cs.length→∃ n,Fin (Yan rs) cs Yaw P n ⟨[.new (.rule name) j],none,mem⟩) (hP:¬ P none)
   (q:∀ an mem' σ',P (some (an,mem'))→Yd4 σ' [m,a,b,u0] m a b mem'→σ'[u0]?=some (.list uo)→On σ [m,a,b,u0] σ' [m,a,b,u0]→σ.length≤σ'.length→Q (Yqr an.1) σ') :
   Yaa (T09 w s) (d+8) X (.mth "Reading" "read") [.ref l,.str name,.int i] Q σ:=by
 obtain ⟨C,hC⟩:=Yjg (w:=w) (s:=s)
 refine Yaa.goM TO rfl rfl ?_
 refine Yae.of h0 rfl rfl hC.cls hC.grammar<|Yae.of h0 rfl rfl hC.cls hC.signs<|Cal.mk<|Yhq (d:=d+4) TO hg.nodup hG hc (fun hin hi0 hi1=>?_) qx qy
 obtain ⟨j,rfl⟩:=Int.eq_ofNat_of_zero_le hi0
 refine Yae.of h0 rfl rfl hC.cls hC.grammar<|Yae.of h0 rfl rfl hC.cls hC.signs<|Yae.of h0 rfl rfl hC.cls hC.memory<|Cal.mk<|Yoa (d:=d) (P:=P) (R:=Ybh m a b u0 uo) TO (Yrd TO hg.nodup hbu) hg hG hga hgb (hm.nodup hbu hu).1 (hm.nodup hbu hu).2 hc ⟨hm,hu⟩ hin (hfin hin j rfl (by lia)) (fun zz h=>absurd h hP) fun an mem' av σ' hp ha hm' ho hl=>?_
 obtain ⟨la,vs,rfl,zz⟩:=ha
 exact q an mem' σ' hp hm'.1 hm'.2 ho hl
end
section
variable {w:World}{s:Shared}{d:Nat}{X:QX}{Q:QE}{σ:Hp}{rs:List (Str×Pt)}{g gb:Nat}
noncomputable def Yzi (r:Row):V:=.tup [.int r.1,.str r.2.1.1,.int r.2.1.2,.int r.2.2]
noncomputable def wtV (x:Nat×Kid):V:=.tup [.int x.1,.str x.2.1,.int x.2.2]
inductive Jt (K:Kid→Option (An Kid)) (tot:List Row) (σ:Hp) (a l k:Nat) (n:Nat) (ρ:Loc) (σ':Hp):Prop where
 | mk (done t:List Row) (st:List (Nat×Kid)) (h1:Walk K st t) (h2:done++t=tot) (h3:n=t.length) (h4:Has ρ [("kept",.ref a),("rows",.ref l),("waiting",.ref k)]) (h5:σ'=σ++[.list (done.map Yzi),.list ((st.map wtV).reverse)]):Jt K tot σ a l k n ρ σ'
inductive Ju (σ:Hp) (a l k d:Nat) (ts:List V) (st:List (Nat×Kid)) (ks:List Kid) (one:V) (i:Nat) (ρ:Loc) (σ':Hp):Prop where
 | mk (h4:Has ρ [("kept",.ref a),("rows",.ref l),("waiting",.ref k),("one",one)]) (h5:σ'=σ++[.list ts,.list ((st.map wtV).reverse++(ks.reverse.take i).map fun x=>wtV (d+1,x))]):Ju σ a l k d ts st ks one i ρ σ'
theorem Walk.use {P:Prop}{K:Kid→Option (An Kid)}{st:List (Nat×Kid)}{t:List Row}(h:Walk K st t):(st=[]→t=[]→P)→(∀ d e k ks r t',st=(d,k)::r→t=(d,k,e)::t'→K k=some (some e,ks)→Walk K (ks.map (d+1,·)++r) t'→P)→P:=h.rec (fun c0 c=>c0 rfl rfl) fun hk hw z1 c0 c=>c _ _ _ _ _ _ rfl rfl hk hw
theorem Yoq {x y z:Yaq}:(σ++[x,y]).set (σ.length+1) z=σ++[x,z]:=Ywd
theorem Ysf {x y z:Yaq}:(σ++[x,y]).set σ.length z=σ++[z,y]:=Yq9
theorem Ye4 {x y:Yaq}:(σ++[x,y])[σ.length+1]?=some y:=Yif
theorem Yli {x y:Yaq}:(σ++[x,y])[σ.length]?=some x:=Ye0
theorem Cal.pop2 {T:Tp}{d:Nat}{X:QX}{Q:QE}{σ:Hp}{o:Yaq}{L vs:List V}{v:V}(e:L=vs++[v]) (hn:vs.length≤12000000) (q:Q v (σ++[o,.list vs])):Cal T d X (.bi "list.pop") [.ref (σ.length+1)] Q (σ++[o,.list L]):=by
 subst e
 exact Cal.mk (Yaa.pop Ye4 (by rw [sizeLine_eq]; exact Zk hn (by decide)) (by rw [Yoq]; exact q))
theorem Cal.app2 {T:Tp}{d:Nat}{X:QX}{Q:QE}{σ:Hp}{o:Yaq}{vs:List V}{v:V}(hn:vs.length≤12000000) (q:Q .none (σ++[o,.list (vs++[v])])):Cal T d X (.bi "list.append") [.ref (σ.length+1),v] Q (σ++[o,.list vs]) :=
 Cal.mk (Yaa.append Ye4 (szo (Za hn (by decide))) (by rw [Yoq]; exact q))
theorem Cal.app0 {T:Tp}{d:Nat}{X:QX}{Q:QE}{σ:Hp}{o:Yaq}{vs:List V}{v:V}(hn:vs.length≤12000000) (q:Q .none (σ++[.list (vs++[v]),o])):Cal T d X (.bi "list.append") [.ref σ.length,v] Q (σ++[.list vs,o]) :=
 Cal.mk (Yaa.append Yli (szo (Za hn (by decide))) (by rw [Ysf]; exact q))
theorem Yn2 {body:List Stmt}{test:Expr}{pos:Pos}{sc:Scope}{XX:XS}{QQ:QS}{ρ:Loc}{mem:Mm}{m a b:Nat}{t:List Row}{k0:Kid}{A:List Nat}(hm:Yd4 σ A m a b mem) (ht:Tr (Yap mem.kept) 0 [k0] t) (hz:t.length≤12000000)
   (h0:Has ρ [("kept",.ref a),("rows",.ref σ.length),("waiting",.ref (σ.length+1))])
   (turn:∀ n ρ σ',Jt (Yap mem.kept) t σ a σ.length (σ.length+1) n ρ σ'→Yd1 (T09 w s) d sc ρ XX test (fun b σ₁=>if b then Yda (T09 w s) d sc ρ XX body (Yu8 QQ fun ρ₂ σ₂=>∃ m,m < n∧Jt (Yap mem.kept) t σ a σ.length (σ.length+1) m ρ₂ σ₂) σ₁ else QQ .next ρ σ₁) σ') :
   Ybe (T09 w s) d sc ρ XX (.While test body [] pos) QQ (σ++[.list [],.list [wtV (0,k0)]]) :=
 Ybe.while (Jt (Yap mem.kept) t σ a σ.length (σ.length+1)) t.length ⟨[],t,[(0,k0)],by simpa using ht.walk .nil,rfl,rfl,h0,rfl⟩ turn
theorem Ypg (TO:Yag (T09 w s)) {cs:List Nat}{l m a b u0:Nat}{uo:List V}{i:Int}{mem:Mm}{name:Str}{P:Option (An Kid×Mm)→Prop}(hg:Yax rs) (hG:GrT rs g gb σ) (hga:g∉[m,a,b,u0]) (hgb:gb∉[m,a,b,u0]) (hc:cs.length < 100000) (h0:σ[l]?=some (.inst "Reading" (rdF g cs m))) (hl0:l∉[m,a,b,u0]) (hbu:b≠u0) (hm:Yd4 σ [m,a,b,u0] m a b mem) (hu:σ[u0]?=some (.list uo))
   (qx:name∉rs.map (·.1)→X "NoRule" σ) (qy:name∈rs.map (·.1)→(i < 0∨cs.length < i)→X "OutOfPlace" σ)
   (hfin:name∈rs.map (·.1)→∀ j:Nat,i=j→j≤cs.length→∃ n,Fin (Yan rs) cs Yaw P n ⟨[.new (.rule name) j],none,mem⟩) (hP:¬ P none)
   (htr:∀ an mem' e,P (some (an,mem'))→an.1=some e→∀ j:Nat,i=j→j≤cs.length→∃ t,Tr (Yap mem'.kept) 0 [(name,j)] t∧t.length≤12000000)
   (q0:∀ an mem' σ',P (some (an,mem'))→an.1=none→Yd4 σ' [m,a,b,u0] m a b mem'→σ'[u0]?=some (.list uo)→On σ [m,a,b,u0] σ' [m,a,b,u0]→σ.length≤σ'.length→Q .none σ')
   (q1:∀ an mem' e σ' t (j:Nat),P (some (an,mem'))→an.1=some e→i=j→Yd4 σ' [m,a,b,u0] m a b mem'→σ'[u0]?=some (.list uo)→On σ [m,a,b,u0] σ' [m,a,b,u0]→σ.length≤σ'.length→Tr (Yap mem'.kept) 0 [(name,j)] t→Q (.ref σ'.length) (σ'++[.list (t.map Yzi),.list []])) :
   Yaa (T09 w s) (d+9) X (.mth "Reading" "tree") [.ref l,.str name,.int i] Q σ:=by
 obtain ⟨C,hC⟩:=Yjg (w:=w) (s:=s)
 obtain ⟨M,hM⟩:=Yd3 (w:=w) (s:=s)
 refine Yaa.goM TO rfl rfl ?_
 refine Yak.own h0 rfl hC.cls hC.read<|Cal.mk<|Yjs (d:=d) (P:=fun o=>P o∧∃ j:Nat,i=j∧j≤cs.length) TO hg hG hga hgb hc h0 hbu hm hu qx qy (fun hin j hj hjl=>?_) (fun h=>hP h.1) fun an mem' σ' hp0 hm' hu' ho hl=>?_
 · obtain ⟨n,hn⟩:=hfin hin j hj hjl
   exact ⟨n,hn.mono fun o ho=>⟨ho,j,hj,hjl⟩⟩
 refine hp0.elim fun hp h=>h.elim fun j h=>h.elim fun hj hjl=>?_
 clear hp0
 subst hj
 obtain ⟨x,us⟩:=an
 cases x with
 | none=>exact Cmp.isN (r:=true) rfl<|q0 _ mem' σ' hp rfl hm' hu' ho hl
 | some e =>
   refine (htr _ mem' e hp rfl j rfl hjl).elim fun t h=>h.elim fun ht hz=>?_
   have h0':σ'[l]?=some (.inst "Reading" (rdF g cs m)):=ho.keep _ _ h0 hl0
   refine Yd4.use hm' fun kvs m1 m2 m3 m4=>?_
   refine Cmp.isN (r:=false) rfl<|Yae.of h0' rfl rfl hC.cls hC.memory<|Yae.of m1 rfl rfl hM.cls hM.kept ?_
   have e1:σ'++[Yaq.list []]++[.list [.tup [.int 0,.str name,.int j]]]=σ'++[.list [],.list [wtV (0,(name,j))]]:=by simp [wtV]
   show Stx _ _ _ _ _ _ _ (σ'++[Yaq.list []]++[.list [.tup [.int 0,.str name,.int j]]])
   rw [e1]
   refine Stx.mk<|Yn2 (t:=t) (k0:=(name,j)) hm' ht hz ⟨rfl,rfl,congrArg (fun n=>some (V.ref n)) (by simp),trivial⟩ ?_
   refine fun n ρ' σ₂ hJ=>hJ.rec fun done t' st k1 k2 k3 k4 h5=>?_
   apply Has.on k4
   have zt:t'.length≤12000000:=by rw [← k2,Zf] at hz; exact Za (Ztb _ _) hz
   have zs:st.length≤12000000:=Za k1.len zt
   have zd:done.length≤12000000:=by rw [← k2,Zf] at hz; exact Za (Zy _ _) hz
   refine k1.use (fun es et=>?_) fun dp e2 k ks r t2 es et hk hw=>?_
   · rw [es] at h5
     rw [et,Zlc] at k2
     rw [k2] at h5
     apply Yao h5
     refine Yd7 TO rfl 40 10 _ _ _<|tvc.of (b:=false) (Ycq Ye4 (by decide)) ?_
     exact Ykt (by decide)<|q1 _ mem' e σ' t j hp rfl rfl hm' hu' ho hl ht
   · rw [es] at h5 zs
     apply Yao h5
     rw [et] at k2 k3 zt
     refine Yd7 TO rfl 40 10 _ _ _<|tvc.of (b:=true) (Ydx Ye4 (by rw [Zec,Zc]; exact Zk zs (by decide)) (by simp)) ?_
     refine Yh3 rfl ?_
     refine Ya5 TO rfl 60 _ _ _ _ ?_
     have w1:(((dp,k)::r).map wtV).reverse=(r.map wtV).reverse++[wtV (dp,k)]:=by rw [List.map_cons,List.reverse_cons]
     have zr:r.length≤12000000:=Zkc zs
     refine Yak.pop Ye4<|Cal.pop2 w1 (by rw [Zec,Zc]; exact zr) ?_
     refine m4.got hk fun la x2 x3 x4=>?_
     refine Itm.pair (k:=(k.1,(k.2:Int))) (Yab m2) x2<|Yak.append Yli<|Cal.app0 (by rw [Zc]; exact zd) ?_
     have zk:ks.length+r.length≤12000000:=by have h:=hw.len; rw [Zf,Zc] at h; exact Za h (Zkc zt)
     refine gd.of (by rfl) ?_
     refine Yry.mk la (ks.map pV') rfl (Yab x4) ?_
     refine Ycb.mk (ks.map pV').reverse (Ju σ' a σ'.length (σ'.length+1) dp (done.map Yzi++[.tup [.int dp,.str k.1,.int k.2,.int e2]]) r ks (wtV (dp,k))) ⟨⟨rfl,rfl,rfl,rfl,trivial⟩,by rw [List.take_zero,List.map_nil,Zlc]; rfl⟩ (fun n ρ₂ σ₂ hJ=>hJ.rec fun zz e=>e▸Yk3 (Yab x4)) (fun ρ₂ σ₂ hJ=>hJ.rec fun h4 e5=>?_) fun n x ρ₂ σ₂ hJ hx=>hJ.rec fun h4 e5=>?_
     · apply Has.on h4
       apply Yao e5
       refine ⟨t2.length,by rw [k3]; exact Zs _,done++[(dp,k,e2)],t2,ks.map (dp+1,·)++r,hw,by rw [← k2]; simp,rfl,⟨rfl,rfl,rfl,trivial⟩,?_⟩
       simp only [Zec,Zc,Zfc,List.map_cons,List.map_nil,Yzi,List.reverse_append]
       rw [show ks.reverse.take ks.length=ks.reverse from List.take_of_length_le (by simp)]
       simp only [List.map_map,List.map_reverse]; rfl
     · apply Has.on h4
       apply Yao e5
       rw [← List.map_reverse] at hx
       refine (Ydf hx).elim fun kid hh=>?_
       have hkid:=hh.1
       apply Yao hh.2
       refine ⟨_,rfl,Ya5 TO rfl 60 _ _ _ _ ?_⟩
       refine Yak.append Ye4<|Cal.app2 (by rw [Zf,Zec,Zc,Zc,List.length_take,Zec,Nat.add_comm]; exact Za (Zac (Nat.min_le_right ..) _) zk) ?_
       refine ⟨⟨rfl,rfl,rfl,rfl,trivial⟩,?_⟩
       rw [Ya3 hkid,Zfc,← Ze]; rfl
end
section
variable {w:World}{s:Shared}{d:Nat}{X:QX}{Q:QE}{σ:Hp}{rs:List (Str×Pt)}{g gb:Nat}
theorem Yt0:∃ C,Yxa (T09 w s) C∧Yex (T09 w s) C "entries":=⟨_,⟨⟨rfl,rfl,rfl,rfl,rfl,rfl⟩,⟨rfl,rfl⟩,⟨rfl,rfl⟩,⟨rfl,rfl⟩,⟨_,rfl,rfl,rfl⟩,⟨_,rfl,rfl,rfl⟩,⟨_,rfl,rfl,rfl⟩⟩,⟨_,rfl,rfl,rfl⟩⟩
inductive Yt3 (mem:Mm) (σ:Hp) (l:Nat) (i:Nat) (ρ':Loc) (σ':Hp):Prop where
 | mk (vs:List V) (jk:Hp) (h1:EnR (σ.length+1) σ' ((tl mem).take i) vs) (h2:Has ρ' [("self",.ref l),("found",.ref σ.length)]) (h3:σ'=σ++.list vs::jk):Yt3 mem σ l i ρ' σ'
theorem Ysk {σ:Hp}{x y:Yaq}{jk jk':Hp}(l:Nat) (o:Yaq) (hl:σ.length+1≤l) (h:(σ++x::jk)[l]?=some o):(σ++y::(jk++jk'))[l]?=some o:=by
 obtain ⟨j,rfl⟩:=Nat.exists_eq_add_of_le hl
 rw [Ztc (Zkc hl),Nat.add_assoc,Zuc,Nat.add_comm 1 j,List.getElem?_cons_succ] at h ⊢
 exact Yab h
theorem Yke {x y:Yaq}{jk r:Hp}:((σ++x::jk)++r).set σ.length y=σ++y::(jk++r):=by rw [Ze,List.cons_append]; exact Yq9
theorem Yrn {x y a b:Yaq}{jk:Hp}:((σ++x::jk)++[a]++[b]).set σ.length y=σ++y::(jk++[a,b]):=by rw [Ze (σ++x::jk)]; exact Yke
theorem Ys0 {x y z:Yaq}{jk:Hp}:(σ++y::(jk++[z]))[(σ++x::jk).length]?=some z:=by
 rw [show σ++y::(jk++[z])=(σ++y::jk)++[z] by simp,show (σ++x::jk).length=(σ++y::jk).length by simp]; exact Yac
theorem Yto {x:Yaq}{jk:Hp}:σ.length+1≤(σ++x::jk).length:=by rw [Zf]; exact Zzb (Zwb (Zkb _)) _
theorem Yu9 {x y:Yaq}{jk:Hp}:σ.length+1≤(σ++x::jk++[y]).length:=Za Yto (Zf▸Zy ..)
theorem Yvn {x y z u:Yaq}{jk:Hp}:(σ++y::(jk++[z,u]))[(σ++x::jk++[z]).length]?=some u:=by
 rw [Ze,show jk++[z,u]=(jk++[z])++[u] by rw [Ze]; rfl]; exact Ys0
theorem Yyu {a:An Kid}(h:a.1=none):nrm (some a)=(none,[]):=by
 obtain ⟨x,us⟩:=a
 cases h; rfl
theorem Yub {a:An Kid}{e:Nat}(h:a.1=some e):nrm (some a)=(some e,a.2):=by
 obtain ⟨x,us⟩:=a
 cases h; rfl
theorem Ygx (TO:Yag (T09 w s)) {cs:List Nat}{l m a b:Nat}{mem:Mm}{A:List Nat}(h0:σ[l]?=some (.inst "Reading" (rdF g cs m))) (hm:Yd4 σ A m a b mem) (ho:mem.order.length≤5000000) (hd:∀ k∈mem.order,∃ a,Yap mem.kept k=some a) (hz:∀ k a,Yap mem.kept k=some a→a.2.length≤5000000)
   (q:∀ vs jk,EnR (σ.length+1) (σ++.list vs::jk) (tl mem) vs→Q (.ref σ.length) (σ++.list vs::jk)):Yaa (T09 w s) (d+2) X (.mth "Reading" "entries") [.ref l] Q σ:=by
 refine (Yt0 (w:=w) (s:=s)).elim fun C hCC=>(Yd3 (w:=w) (s:=s)).elim fun M hM=>Yaa.goM TO rfl rfl ?_
 have hC:=hCC.1
 refine Yd4.use hm fun kvs h1 h2 h3 h4=>?_
 refine Yae.of (Yab h0) rfl rfl hC.cls hC.memory<|Yae.of (Yab h1) rfl rfl hM.cls hM.order<|Ycb.mk (mem.order.map pV') (Yt3 mem σ l) ⟨[],[],.nil,⟨rfl,rfl,trivial⟩,rfl⟩ (fun i ρ' σ' hJ=>hJ.rec fun vs jk zz zz e=>e▸Yav (Yab h3)) (fun ρ' σ' hJ=>hJ.rec fun vs jk e1 e2 e3=>?_) fun i x ρ' σ' hJ hx=>hJ.rec fun vs jk e1 e2 e3=>(Ydf hx).elim fun k hh=>(hd k (Zn hh.1)).elim fun an hga=>?_
 · apply Has.on e2
   rw [Zc,List.take_of_length_le (by unfold tl; rw [Zc]; exact Zl _),e3] at e1
   apply Yao e3
   exact q vs jk e1
 · apply Has.on e2
   rw [e3] at e1
   apply Yao e3
   have hk:=hh.1
   apply Yao hh.2
   have hkm:=Zn hk
   have hnx:(tl mem)[i]?=some (k,nrm (some an)):=by unfold tl; rw [Zdb,hk,← hga]; rfl
   have hvl:vs.length≤5000000:=by rw [e1.length]; exact Za (Zic ..) (by unfold tl; rw [Zc]; exact ho)
   refine h4.has hga fun la x2 x4=>?_
   have hl5:=hz k an hga
   refine ⟨_,rfl,Ya5 TO rfl 60 _ _ _ _ ?_⟩
   refine Yae.of (Yab h0) rfl rfl hC.cls hC.memory<|Yae.of (Yab h1) rfl rfl hM.cls hM.kept<|Itm.pair (k:=(k.1,(k.2:Int))) (Yab h2) x2<|Cal.list (vs:=an.2.map pV') (Ydw (Yab x4)) (by rw [Zc]; exact szo (Za hl5 (by decide))) ?_
   have nx:∀ {a':An Kid}{jk':Hp}{l':Nat},nrm (some an)=a'→(σ++.list (vs++[Ywe k a' l'])::(jk++jk'))[l']?=some (.list (a'.2.map pV'))→σ.length+1≤l'→∀ {ρ:Loc},Has ρ [("self",.ref l),("found",.ref σ.length)]→Yt3 mem σ l (i+1) ρ (σ++.list (vs++[Ywe k a' l'])::(jk++jk')):=fun {a' jk' l'} e g gl {ρ} has =>
     ⟨_,_,by rw [Ya3 hnx,e]; exact (e1.up Ysk).snoc g gl,has,rfl⟩
   generalize hx:an.1=x
   cases x with
   | none =>
     refine Cmp.isN (r:=true) rfl<|Yak.append (vs:=vs) (Yab (Yab Ye0))<|Cal.mk<|Yaa.append (Yab (Yab Ye0)) (szo (Za hvl (by decide))) ?_
     rw [Yrn]
     exact nx (a':=(none,[])) (jk':=[Yaq.list (an.2.map pV'),.list []]) (Yyu hx) Yvn Yu9 ⟨rfl,rfl,trivial⟩
   | some e =>
     refine Cmp.isN (r:=false) rfl<|Yak.append (vs:=vs) (Yab Ye0)<|Cal.mk<|Yaa.append (Yab Ye0) (szo (Za hvl (by decide))) ?_
     rw [Yke]
     exact nx (a':=(some e,an.2)) (Yub hx) Ys0 Yto ⟨rfl,rfl,trivial⟩
end
section
variable {w:World}{s:Shared}{d:Nat}{X:QX}{Q:QE}{σ:Hp}
theorem Yfc (TO:Yag (T09 w s)) {cell:Int}{sg x y z:Nat}(hs:Sg x y z) (hsg:σ[sg]?=some (.list [.str (S [x]),.str (S [y]),.str (S [z])])) (q:∀ c,Yaj c=true→Q (.str (S [c])) σ):Yaa (T09 w s) (d+2) X (.glob "_law_text_sign") [.int cell,.ref sg] Q σ:=by
 refine Yaa.go TO rfl rfl ?_
 exact Br.mk (fun zz=>Yhd hs hsg (Yal (by decide)).1 (Yal (by decide)).2 fun c hc zz=>q c hc) fun zz=>Cal.mk<|Ydp TO q
theorem Yqv (cell:Int):∃ n:Nat,n≤149∧((cell.fdiv 13).fmod 8 == 1→20+(cell.fdiv 104).fmod 130=n)∧(¬ (cell.fdiv 13).fmod 8 == 1→cell.fmod 13=n):=by
 obtain ⟨a,ea,la⟩:=Yc8 (n:=13) (Yal (a:=cell) (b:=13) (by decide))
 obtain ⟨b,eb,lb⟩:=Yc8 (n:=130) (Yal (a:=cell.fdiv 104) (b:=130) (by decide))
 by_cases h:(cell.fdiv 13).fmod 8 == 1
 · exact ⟨20+b,by omega,fun zz=>by rw [eb]; rfl,fun g=>absurd h g⟩
 · exact ⟨a,by omega,fun g=>absurd g h,fun zz=>ea⟩
inductive Y1b (σ:Hp) (n:Nat) (i:Nat) (acc:List V) (σ':Hp):Prop where
 | mk (cs:List Nat) (q0:cs.length=i) (q1:∀ c∈cs,Yaj c=true) (q2:acc=cs.map fun c=>V.str (S [c])) (q3:i≤n) (q4:σ'=σ):Y1b σ n i acc σ'
theorem Yyy {n i:Nat}(hn:n≤40) (hi:i≤149):0≤(3:Int)+n+i∧(3:Int)+n+i < 2 ^ 62:=⟨Zvc (3+n+i),Zfb.mpr (Zk (Zcb (Zzb hn 3) hi) (by decide))⟩
theorem Yq8 {cs:List Nat}{c:Nat}(h:∀ c∈cs,Yaj c=true) (hc:Yaj c=true):∀ x∈cs++[c],Yaj x=true:=fun x hx=>(Zm.mp hx).elim (h x) fun e=>Zj.mp e▸hc
theorem Yx9 {T:Tp}{cs:List Nat}{l:Nat}(hl:σ[l]?=some (.list (cs.map fun c=>V.str (S [c])))) (hn:cs.length≤149) (q:Q (.str (S cs)) σ):Cal T d X (.bi "str.join") [.str (Str.ofString ""),.ref l] Q σ :=
 ⟨Yaa.join (Yk7 cs▸hl) (by rw [Yn5,Zc]; clear q hl; omega) (by decide +kernel) (by rw [Yoj,Ytj]; exact q)⟩
theorem Yip (TO:Yag (T09 w s)) {sc scope:Scope}{ρ:Loc}{v:Str}{elt:Expr}{m:Int}{n:Nat}(hm:m=n) (hn:n≤149) (q:∀ cs:List Nat,cs.length≤149→(∀ c∈cs,Yaj c=true)→Q (.str (S cs)) (σ++[.list (cs.map fun c=>V.str (S [c]))]))
   (h:∀ i:Nat,i < n→Yai (T09 w s) d (Yfa scope sc) (upd (Ybc scope ρ) v (some (.int i))) X elt (fun v σ'=>∃ c,Yaj c=true∧v=.str (S [c])∧σ'=σ) σ):Ybv (T09 w s) d sc ρ X scope v [] elt (fun u σ'=>Cal (T09 w s) d X (.bi "str.join") [.str (Str.ofString ""),u] Q σ') (.rng m) σ:=by
 subst hm
 have h62:(n:Int) < 2 ^ 62:=Int.lt_of_le_of_lt (Zhc.mpr hn) (show (149:Int) < 2 ^ 62 by decide)
 refine ⟨_,Y1b σ n,⟨[],rfl,fun c hc=>absurd hc Zdc,rfl,Zkb _,rfl⟩,fun i acc σ' hJ=>⟨Yeo (Zvc n) h62,?_⟩,fun acc σ' hJ=>?_,fun i y acc σ' hJ hy=>?_⟩
 · obtain ⟨cs,h1,h2,rfl,h3,zz⟩:=hJ
   rw [Zc,h1]; exact szo (Za (Za h3 hn) (by decide))
 · obtain ⟨cs,h1,h2,rfl,h3,rfl⟩:=hJ
   have l9:cs.length≤149:=h1▸Za h3 hn
   exact Yx9 Yac l9 (q cs l9 h2)
 · obtain ⟨cs,h1,h2,rfl,h3,rfl⟩:=hJ
   obtain ⟨hi,rfl⟩:=Ykz hy
   rw [Zzc] at hi
   refine (h i hi).mono (fun v σ' hv=>?_) fun zz zz h=>h
   obtain ⟨c,hc,rfl,rfl⟩:=hv
   exact ⟨cs++[c],Zf.trans (congrArg Nat.succ h1),Yq8 h2 hc,by rw [Zfc]; rfl,hi,rfl⟩
theorem Ymi (TO:Yag (T09 w s)) {xs:List Int}(hx:xs.length < 2 ^ 62) {n sg x y z:Nat}(hn:n≤40) (hs:Sg x y z) (hsg:σ[sg]?=some (.list [.str (S [x]),.str (S [y]),.str (S [z])]))
   (q:∀ cs:List Nat,cs.length≤149→(∀ c∈cs,Yaj c=true)→∀ o,Q (.str (S cs)) (σ++[o])):Yaa (T09 w s) (d+3) X (.glob "_law_text_by") [.scr xs,.int n,.ref sg] Q σ:=by
 refine Yaa.go TO rfl rfl ?_
 refine Cal.mk<|Ya8 TO (by decide) (by decide) hx ?_
 obtain ⟨m,hm,e1,e2⟩:=Yqv (xs.getD (1:Int).toNat 0)
 refine Br.mk (fun h=>?_) fun h=>?_
 · refine Yak.join<|Cal.range<|Yip TO (e1 h) hm (fun cs h1 h2=>q cs h1 h2 _) fun i hi=>Yc9 TO rfl 40 _ _ _ ?_
   have r:=Yyy hn (Za (Zq hi) hm)
   exact Cal.mk<|Ya8 TO r.1 r.2 hx<|Bin.mull rfl<|Cal.mk<|Yfc TO hs hsg fun c hc=>⟨c,hc,rfl,rfl⟩
 · refine Yak.join<|Cal.range<|Yip TO (e2 (by rw [h]; decide)) hm (fun cs h1 h2=>q cs h1 h2 _) fun i hi=>Yc9 TO rfl 40 _ _ _ ?_
   have r:=Yyy hn (Za (Zq hi) hm)
   exact Cal.mk<|Ya8 TO r.1 r.2 hx<|Bin.mull rfl<|Cal.mk<|Yfc TO hs hsg fun c hc=>⟨c,hc,rfl,rfl⟩
theorem ne0 {n:Nat}(h:1≤n):((n:Int) != 0)=true:=bne_iff_ne.mpr (by lia)
theorem Yys {c:Int}{sz:Nat}(i:Nat) (h:i < 3):∃ j:Nat,j≤sz∧[V.int 0,.int 0,.int (c.fmod ((sz:Int)+1))][i]?=some (.int j):=by
 obtain ⟨p,e,l⟩:=Yc8 (n:=sz+1) (Yal (a:=c) (b:=(sz:Int)+1) (by lia))
 rw [e]
 exact lt3 (P:=fun i=>∃ j:Nat,j≤sz∧[V.int 0,.int 0,.int p][i]?=some (.int j)) ⟨0,Zkb _,rfl⟩ ⟨0,Zkb _,rfl⟩ ⟨p,Zjc l,rfl⟩ i h
theorem Ykk (TO:Yag (T09 w s)) {xs:List Int}(hx:xs.length < 2 ^ 62) {rs:List (Str×Pt)}{l sz:Nat}{t:Int}(h1:1≤rs.length) (h40:rs.length≤40) (hl:σ[l]?=some (.list (rs.map Ybi)))
   (q:∀ n j,n∈rs.map (·.1)→j≤sz→∀ o,Q (.tup [.str n,.int (j:Nat)]) (σ++[o])):Yaa (T09 w s) (d+2) X (.glob "_law_start_by") [.scr xs,.ref l,.int sz,.int t] Q σ:=by
 refine Yaa.go TO rfl rfl ?_
 have cell:∀ {k:Int}{K:QE}{τ:Hp},decide (0≤k∧k < 2 ^ 62)=true→K (.int (xs.getD k.toNat 0)) τ→Cal (T09 w s) (d+1) X (.glob "_law_cell_at") [.scr xs,.int k] K τ:=fun hk h=>⟨Ya8 TO (Zgb hk).1 (Zgb hk).2 hx h⟩
 refine cell rfl<|Bin.mull rfl<|cell rfl<|Bin.mull rfl<|cell rfl ?_
 obtain ⟨i3,e3,h3⟩:=Yc8 (n:=3) (Yal (a:=xs.getD (0:Int).toNat 0+3*t+t) (b:=3) (by decide))
 obtain ⟨j,hj,ej⟩:=Yys (c:=xs.getD (1:Int).toNat 0+7*t+xs.getD (2:Int).toNat 0) (sz:=sz) i3 h3
 refine Itm.mk<|Ycj (j:=i3) Yac e3 ej (show 3 < 2 ^ 62 by decide) ?_
 obtain ⟨k,e1,lk⟩:=Yc8 (n:=rs.length) (Yal (a:=(xs.getD (0:Int).toNat 0+3*t).fdiv 3+(xs.getD (1:Int).toNat 0+7*t)) (b:=(rs.length:Int)) (by lia))
 have g1:(rs.map Ybi)[k]?=some (Ybi rs[k]):=by rw [Zdb,Zp lk]; rfl
 refine Cal.len (n:=rs.length) (Yd0 (Yab hl) (Zc _)) (Zk h40 (by decide))<|gd.of (ne0 h1)<|Itm.mk<|Ycj (j:=k) (Yab hl) e1 g1 (by rw [Zc]; exact Zk h40 (by decide)) ?_
 exact q _ j (Zsb.mpr ⟨_,List.getElem_mem lk,rfl⟩) hj _
end
section
variable {w:World}{s:Shared}{d:Nat}{X:QX}{Q:QE}{σ:Hp}
section
variable {st l:Nat}{a b:Yaq}{jk jk':Hp}
theorem Yxi (h:st < σ.length):(σ.set st a++jk)[st]?=some a:=by rw [Zbb (by rw [List.length_set]; exact h),Zw h]
theorem Y0p {o:Yaq}(hl:l≠st) (h:σ[l]?=some o):(σ.set st a++jk)[l]?=some o:=by rw [Zbb (by rw [List.length_set]; exact (Zb.mp h).1),Zi (Ne.symm hl)]; exact h
theorem Ywx (h:st < σ.length):(σ.set st a++jk).set st b++jk'=σ.set st b++(jk++jk'):=by rw [List.set_append_left _ _ (by rw [List.length_set]; exact h),List.set_set,Ze]
theorem Ywn (h:st < σ.length):(σ.set st a++jk).set st b=σ.set st b++jk:=by rw [List.set_append_left _ _ (by rw [List.length_set]; exact h),List.set_set]
theorem Yo4 (h:σ[st]?=some a):σ.set st a=σ:=by
 obtain ⟨h1,h2⟩:=Zb.mp h
 subst h2; exact List.set_getElem_self h1
end
theorem Cmp.isB {a:V}{c r:Bool}(h:Yf7 c a=some r) (q:Q (.bool r) σ):Cmp .Is a (.bool c) Q σ:=⟨r,.isB _ _ _ h,q⟩
theorem Cmp.notB {a:V}{c r:Bool}(h:Yf7 c a=some r) (q:Q (.bool (!r)) σ):Cmp .IsNot a (.bool c) Q σ:=⟨_,.notB _ _ _ h,q⟩
inductive CmS (xs:List (Kid×An Kid)) (lt la:Nat) (us:List V) (σ:Hp):Prop where
 | mk (kvs:List ((Str×Int)×V)) (h1:σ[la]?=some (.list us)) (h2:σ[lt]?=some (.tdict kvs)) (h3:Ya2 σ [la] xs kvs):CmS xs lt la us σ
section
variable {xs:List (Kid×An Kid)}{lt la:Nat}{us us':List V}{jk:Hp}
theorem CmS.at_ (h:CmS xs lt la us σ):σ[la]?=some (.list us):=h.rec fun zz h zz zz=>h
theorem CmS.lth (h:CmS xs lt la us σ):la < σ.length:=(Zb.mp h.at_).1
theorem Yz3 {x:Yaq}:On σ [la] (σ.set la x++jk) [la]:=On.trans (.put (Zj.mpr rfl)) .up (Zr List.length_set.symm)
theorem CmS.on (h:CmS xs lt la us σ):CmS xs lt la us' (σ.set la (.list us')++jk):=h.rec fun kvs h1 h2 h3=>⟨kvs,Yxi h.lth,Y0p (fun e=>by rw [e,h1] at h2; cases h2) h2,h3.keep Yz3⟩
theorem CmS.self (h:CmS xs lt la us σ):σ.set la (.list us)++jk=σ++jk:=by rw [Yo4 h.at_]
end
structure CmQ (la:Nat) (us:List V) (as:List Kid) (i:Nat) (o:Rs) (Q:QE) (σ:Hp):Prop where
 no:o=none→∀ l jk,(σ.set la (.list (us++as.map pV'))++jk)[l]?=some (.list [])→Q (.tup [.bool false,.int i,.ref l]) (σ.set la (.list (us++as.map pV'))++jk)
 yes:∀ e ks,o=some (e,ks)→∀ l jk,(σ.set la (.list (us++as.map pV'))++jk)[l]?=some (.list (ks.map pV'))→Q (.tup [.bool true,.int (e:Nat),.ref l]) (σ.set la (.list (us++as.map pV'))++jk)
noncomputable def Yew (w:World) (s:Shared) (xs:List (Kid×An Kid)) (cs:List Nat) (lt la d n:Nat):Prop:=∀ (p:Pt) (i:Nat) (o:Rs) (as:List Kid) (us:List V) (X:QX) (Q:QE) (σ:Hp),
 p.deep≤n→Rv cs (Yap xs) p i o as→i≤cs.length→p.wt≤20000→CmS xs lt la us σ→us.length+as.length≤16000000→CmQ la us as i o Q σ→Yaa (T09 w s) (d+2*n+3) X (.glob "_law_come") [p.v,.str (S cs),.int i,.ref lt,.ref la] Q σ
section
variable {xs:List (Kid×An Kid)}{cs:List Nat}{lt la n:Nat}{us:List V}{o:Rs}{as:List Kid}
theorem Yet (ih:Yew w s xs cs lt la d n) {p:Pt}{h:Nat}{us1:List V}{jk:Hp}(hp:p.deep≤n) (r:Rv cs (Yap xs) p h o as) (hh:h≤cs.length) (hw:p.wt≤20000) (hS:CmS xs lt la us σ) (hz:us1.length+as.length≤16000000)
   (kN:o=none→∀ l jk',(σ.set la (.list (us1++as.map pV'))++(jk++jk'))[l]?=some (.list [])→Q (.tup [.bool false,.int h,.ref l]) (σ.set la (.list (us1++as.map pV'))++(jk++jk')))
   (kY:∀ e ks,o=some (e,ks)→∀ l jk',(σ.set la (.list (us1++as.map pV'))++(jk++jk'))[l]?=some (.list (ks.map pV'))→Q (.tup [.bool true,.int (e:Nat),.ref l]) (σ.set la (.list (us1++as.map pV'))++(jk++jk'))) :
   Yaa (T09 w s) (d+2*n+3) X (.glob "_law_come") [p.v,.str (S cs),.int h,.ref lt,.ref la] Q (σ.set la (.list us1)++jk) :=
 ih p h o as us1 X Q _ hp r hh hw hS.on hz ⟨fun e l jk' hl=>by rw [Ywx hS.lth] at hl ⊢; exact kN e l jk' hl,fun e ks ho l jk' hl=>by rw [Ywx hS.lth] at hl ⊢; exact kY e ks ho l jk' hl⟩
theorem Yvd (ih:Yew w s xs cs lt la d n) {p:Pt}{h:Nat}{us1:List V}{jk:Hp}(hp:p.deep≤n) (r:Rv cs (Yap xs) p h none as) (hh:h≤cs.length) (hw:p.wt≤20000) (hS:CmS xs lt la us σ) (hz:us1.length+as.length≤16000000)
   (k:∀ l jk',(σ.set la (.list (us1++as.map pV'))++(jk++jk'))[l]?=some (.list [])→Q (.tup [.bool false,.int h,.ref l]) (σ.set la (.list (us1++as.map pV'))++(jk++jk'))) :
   Yaa (T09 w s) (d+2*n+3) X (.glob "_law_come") [p.v,.str (S cs),.int h,.ref lt,.ref la] Q (σ.set la (.list us1)++jk) :=
 Yet ih hp r hh hw hS hz (fun zz=>k) fun e ks e2=>(Yaf e2).elim
theorem Yr6 (ih:Yew w s xs cs lt la d n) {p:Pt}{h e:Nat}{ks:List Kid}{us1:List V}{jk:Hp}(hp:p.deep≤n) (r:Rv cs (Yap xs) p h (some (e,ks)) as) (hh:h≤cs.length) (hw:p.wt≤20000) (hS:CmS xs lt la us σ) (hz:us1.length+as.length≤16000000)
   (k:∀ l jk',(σ.set la (.list (us1++as.map pV'))++(jk++jk'))[l]?=some (.list (ks.map pV'))→Q (.tup [.bool true,.int (e:Nat),.ref l]) (σ.set la (.list (us1++as.map pV'))++(jk++jk'))) :
   Yaa (T09 w s) (d+2*n+3) X (.glob "_law_come") [p.v,.str (S cs),.int h,.ref lt,.ref la] Q (σ.set la (.list us1)++jk) :=
 Yet ih hp r hh hw hS hz (fun e2=>(Yaf e2.symm).elim) fun e' ks' e2=>by
   have e2:=Prod.mk.inj (Zab e2)
   rw [← e2.1,← e2.2]; exact k
theorem Yka {us1 us2:List V}{l:Nat}{vs:List V}{jk jk':Hp}(h:la < σ.length) (hn:l≠la) (hl:(σ.set la (.list us1)++jk)[l]?=some (.list vs)):(σ.set la (.list us2)++(jk++jk'))[l]?=some (.list vs):=by
 rw [← Ze]
 refine Yab ?_
 rw [← Ywn (a:=.list us1) h,Zi (Ne.symm hn)]; exact hl
inductive Jr (xs:List (Kid×An Kid)) (cs:List Nat) (lt la:Nat) (us:List V) (ps:List Pt) (i:Nat) (o:Rs) (as:List Kid) (σ:Hp) (t:Nat) (ρ':Loc) (σ':Hp):Prop where
 | mk (h lr:Nat) (ks as1 as2:List Kid) (o2:Rs) (jk:Hp) (e:σ'=σ.set la (.list (us++as1.map pV'))++jk) (r:Rv cs (Yap xs) (.row (ps.drop t)) h o2 as2) (ho:o=onO ks o2) (ha:as=as1++as2) (hh:h≤cs.length) (hr:lr≠la) (hl:σ'[lr]?=some (.list (ks.map pV'))) (hk:ks.length≤Pt.wts (ps.take t)*(cs.length+1))
     (has:Has ρ' [("_law_place",.int h),("_law_kids",.ref lr),("_law_signs",.str (S cs)),("_law_told_here",.ref lt),("_law_asked",.ref la),("_law_at",.int i)]):Jr xs cs lt la us ps i o as σ t ρ' σ'
theorem Yw5 {a m:Nat}(ha:a≤20000) (hm:m≤149):a*(m+1)≤3000000:=Za (Nat.mul_le_mul ha (Zwb hm)) (by decide)
theorem Yyv {us1:List V}{jk:Hp}{l:Nat}{vs:List V}(hlt:la < σ.length) (hs:σ.length≤l):l≠la:=fun e=>absurd hlt (Zo.mpr (e▸hs))
theorem Yl6 (TO:Yag (T09 w s)) (w0:KW cs (Yap xs)) (h149:cs.length≤149) (ih:Yew w s xs cs lt la d n) {ps:List Pt}{i:Nat}(hd:Pt.deeps ps≤n) (r:Rv cs (Yap xs) (.row ps) i o as) (hi:i≤cs.length) (hw:Pt.wts ps≤20000) (hS:CmS xs lt la us σ) (hz:us.length+as.length≤16000000) (q:CmQ la us as i o Q σ) :
   Yaa (T09 w s) (d+2*n+4) X (.glob "_law_row") [(Pt.row ps).v,.str (S cs),.int i,.ref lt,.ref la] Q σ:=by
 refine Yaa.go TO rfl rfl ?_
 have hit:∀ {σ:Hp},Yef σ (.tup (Pt.vs ps))=some (Pt.vs ps):=rfl
 have hvl:(Pt.vs ps).length=ps.length:=by rw [Pt.vs_map,Zc]
 have hlt:=hS.lth
 refine Ycb.mk (Pt.vs ps) (Jr xs cs lt la us ps i o as σ) ⟨i,σ.length,[],[],as,o,[.list []],by rw [List.map_nil,Zlc]; exact hS.self.symm,r,(Yj3 o).symm,rfl,hi,fun e=>absurd hlt (e▸Zub _),Yac,Zkb _,⟨rfl,rfl,rfl,rfl,rfl,rfl,trivial⟩⟩ (fun zz zz zz zz=>hit) (fun ρ' σ' hJ=>?_) fun t x ρ' σ' hJ hx=>?_
 · refine hJ.rec fun h lr ks as1 as2 o2 jk e r ho ha hh hr hl hk has=>?_
   rw [hvl,List.drop_eq_nil_of_le (Zl _)] at r
   apply Has.on has
   rw [r.inv.2,Zlc] at ha
   rw [← ha] at e
   rw [e] at hl
   apply Yao e
   exact q.yes h ks (by rw [ho,r.inv.1]; exact congrArg (fun x=>some (h,x)) (Zlc ks)) lr jk hl
 · refine hJ.rec fun h lr ks as1 as2 o2 jk e r ho ha hh hr hl hk has=>(Yr2 hx).elim fun p hpx=>?_
   have hpt:=hpx.1
   have hpm:=Zn hpt
   apply Yao hpx.2
   apply Has.on has
   rw [e] at hl
   apply Yao e
   clear has hpx hx e hJ
   refine ⟨_,rfl,Ya5 TO rfl 60 _ _ _ _ ?_⟩
   rw [Ye6 hpt] at r
   have hpw:p.wt≤20000:=Za (Pt.wts_mem hpm) hw
   have len:∀ {x:List Kid},(us++(as1++x).map pV')=(us++as1.map pV')++x.map pV':=fun {x}=>by rw [Zfc,Ze]
   refine r.inv.elim (fun hh2=>?_) fun hh2=>hh2.elim fun h' hh2=>hh2.elim fun ks' hh2=>hh2.elim fun o' hh2=>hh2.elim fun b1 hh2=>hh2.elim fun b2 hh2=>?_
   · have r1:=hh2.2
     rw [hh2.1] at ho
     rw [ha] at hz q
     have hz':(us++as1.map pV').length+as2.length≤16000000:=by rw [Zf,Zc,Nat.add_assoc,← Zf]; exact hz
     refine Cal.mk<|Yvd ih (Za (Pt.deeps_mem hpm) hd) r1 hh hpw hS hz' fun l jk' hl'=>Cmp.notB (r:=false) rfl ?_
     have:=q.no ho (σ.set la (.list (us++(as1++as2).map pV'))++(jk++jk')).length (jk++jk'++[.list []])
     rw [← Ze (List.set ..)] at this
     rw [← len]; exact this Yac
   · have r1:=hh2.1
     have r2:=hh2.2.1
     have e2:=hh2.2.2.1
     have e3:=hh2.2.2.2
     have hz':(us++as1.map pV').length+b1.length≤16000000:=by rw [Zf,Zc]; rw [ha,e3,Zf,Zf] at hz; lia
     have g:=r1.len w0 hh _ rfl
     have g2:=g.2.1
     have g3:=g.2.2
     have g3:ks'.length≤p.wt*(cs.length+1):=Za g3 (Znb _ (Za (Nat.sub_le ..) (Zwb g2)))
     have hk2:(ks++ks').length≤Pt.wts (ps.take (t+1))*(cs.length+1):=by rw [Pt.wts_next hpt,Nat.add_mul,Zf]; exact Zcb hk g3
     have hk3:(ks.map pV').length+(ks'.map pV').length≤sizeLine:=by rw [Zc,Zc,← Zf]; exact szo (Za hk2 (Za (Yw5 (Za (Pt.wts_take _) hw) h149) (by decide)))
     refine Cal.mk<|Yr6 ih (Za (Pt.deeps_mem hpm) hd) r1 hh hpw hS hz' fun l jk' hl'=>Cmp.notB (r:=true) rfl<|Bin.lists (Yka hlt hr hl) hl' hk3 ?_
     exact ⟨h',_,ks++ks',as1++b1,b2,o',jk++jk'++[.list (ks.map pV'++ks'.map pV')],by rw [len]; exact Ze ..,r2,by rw [ho,e2,Ylc],by rw [ha,e3,Ze],g2,Yyv (us1:=[]) (jk:=[]) (vs:=[]) hlt (by rw [Zf,List.length_set]; exact Zy ..),by rw [Zfc]; exact Yac,hk2,⟨rfl,rfl,rfl,rfl,rfl,rfl,trivial⟩⟩
end
end
section
variable {w:World}{s:Shared}{d:Nat}{X:QX}{Q:QE}{σ:Hp}
section
variable {xs:List (Kid×An Kid)}{cs:List Nat}{lt la n:Nat}{us:List V}{o:Rs}{as:List Kid}
inductive Jf (xs:List (Kid×An Kid)) (cs:List Nat) (lt la:Nat) (us:List V) (ps:List Pt) (i:Nat) (o:Rs) (as:List Kid) (σ:Hp) (t:Nat) (ρ':Loc) (σ':Hp):Prop where
 | mk (as1 as2:List Kid) (jk:Hp) (e:σ'=σ.set la (.list (us++as1.map pV'))++jk) (r:Rv cs (Yap xs) (.alt (ps.drop t)) i o as2) (ha:as=as1++as2)
     (has:Has ρ' [("_law_signs",.str (S cs)),("_law_told_here",.ref lt),("_law_asked",.ref la),("_law_at",.int i)]):Jf xs cs lt la us ps i o as σ t ρ' σ'
theorem Ylg {as1 x:List Kid}:(us++(as1++x).map pV')=(us++as1.map pV')++x.map pV':=by rw [Zfc,Ze]
theorem Yte {as1 as2:List Kid}(hz:us.length+(as1++as2).length≤16000000):(us++as1.map pV').length+as2.length≤16000000:=by rw [Zf,Zc,Nat.add_assoc,← Zf]; exact hz
theorem Ynh {as1 b1 b2:List Kid}(hz:us.length+(as1++(b1++b2)).length≤16000000):(us++as1.map pV').length+b1.length≤16000000:=Za (Zzb (Zf▸Zy b1.length b2.length) _) (Yte hz)
theorem Yii (TO:Yag (T09 w s)) (ih:Yew w s xs cs lt la d n) {ps:List Pt}{i:Nat}(hd:Pt.deeps ps≤n) (r:Rv cs (Yap xs) (.alt ps) i o as) (hi:i≤cs.length) (hw:Pt.wts ps≤20000) (hS:CmS xs lt la us σ) (hz:us.length+as.length≤16000000) (q:CmQ la us as i o Q σ) :
   Yaa (T09 w s) (d+2*n+4) X (.glob "_law_first") [(Pt.alt ps).v,.str (S cs),.int i,.ref lt,.ref la] Q σ:=by
 refine Yaa.go TO rfl rfl ?_
 have hit:∀ {σ:Hp},Yef σ (.tup (Pt.vs ps))=some (Pt.vs ps):=rfl
 have hvl:(Pt.vs ps).length=ps.length:=by rw [Pt.vs_map,Zc]
 refine Ycb.mk (Pt.vs ps) (Jf xs cs lt la us ps i o as σ) ⟨[],as,[],by rw [Zlc,List.map_nil,Zlc]; exact (Yo4 hS.at_).symm,r,rfl,⟨rfl,rfl,rfl,rfl,trivial⟩⟩ (fun zz zz zz zz=>hit) (fun ρ' σ' hJ=>?_) fun t x ρ' σ' hJ hx=>?_
 · refine hJ.rec fun as1 as2 jk e rr ha has=>?_
   rw [hvl,List.drop_eq_nil_of_le (Zl _)] at rr
   rw [rr.inv.2,Zlc] at ha
   rw [← ha] at e
   apply Has.on has
   apply Yao e
   have:=q.no rr.inv.1 (σ.set la (.list (us++as.map pV'))++jk).length (jk++[.list []])
   rw [← Ze (List.set ..)] at this
   exact this Yac
 · refine hJ.rec fun as1 as2 jk e rr ha has=>(Yr2 hx).elim fun p hpx=>?_
   have hpt:=hpx.1
   have hpm:=Zn hpt
   apply Yao hpx.2
   apply Has.on has
   apply Yao e
   refine ⟨_,rfl,Ya5 TO rfl 60 _ _ _ _ ?_⟩
   rw [Ye6 hpt] at rr
   have hpw:p.wt≤20000:=Za (Pt.wts_mem hpm) hw
   clear e has hpx hx hJ
   rw [ha] at hz q
   refine rr.inv.elim (fun hh=>hh.elim fun x hh=>?_) fun hh=>hh.elim fun b1 hh=>hh.elim fun b2 hh=>?_
   · have e2:=hh.1
     have r1:=hh.2
     refine Cal.mk<|Yet ih (Za (Pt.deeps_mem hpm) hd) r1 hi hpw hS (Yte hz) (fun e2=>((by cases e2))) fun e ks e4 l jk' hl'=>?_
     refine Cmp.notB (r:=false) rfl ?_
     rw [← Ylg] at hl' ⊢
     exact q.yes e ks (e2.trans e4) l _ hl'
   · have r1:=hh.1
     have r2:=hh.2.1
     rw [hh.2.2] at hz ha
     refine Cal.mk<|Yet ih (Za (Pt.deeps_mem hpm) hd) r1 hi hpw hS (Ynh hz) (fun zz l jk' hl'=>?_) fun e ks e2=>((by cases e2))
     refine Cmp.notB (r:=true) rfl ?_
     exact ⟨as1++b1,b2,jk++jk',by rw [Ylg],r2,ha.trans (Ze ..).symm,⟨rfl,rfl,rfl,rfl,trivial⟩⟩
inductive Mn (cs:List Nat) (xs:List (Kid×An Kid)) (p:Pt) (h:Nat):Rs→Rs→List Kid→Prop where
 | no:Mn cs xs p h none (some (h,[])) []
 | stay (ks:List Kid):Mn cs xs p h (some (h,ks)) (some (h,[])) []
 | more {e:Nat}{ks:List Kid}{o:Rs}{as:List Kid}(hne:e≠h) (r:Rv cs (Yap xs) (.many p) e o as):Mn cs xs p h (some (e,ks)) (onO ks o) as
theorem Rv.mn {p:Pt}{i:Nat}(r:Rv cs (Yap xs) (.many p) i o as):∃ o1 as1 as2,Rv cs (Yap xs) p i o1 as1∧Mn cs xs p i o1 o as2∧as=as1++as2:=by
 rcases r.inv with ⟨e,h | ⟨ks,h⟩⟩ | ⟨h,ks,o',as1,as2,h1,hne,h2,e,ha⟩
 · exact ⟨_,_,[],h,e▸.no,(Zlc _).symm⟩
 · exact ⟨_,_,[],h,e▸.stay ks,(Zlc _).symm⟩
 · exact ⟨_,_,_,h1,e▸.more hne h2,ha⟩
inductive FvR (h:Nat) (σ':Hp):Rs→V→Prop where
 | no {l:Nat}:FvR h σ' none (.tup [.bool false,.int h,.ref l])
 | yes {e l:Nat}{ks:List Kid}(hl:σ'[l]?=some (.list (ks.map pV'))):FvR h σ' (some (e,ks)) (.tup [.bool true,.int (e:Nat),.ref l])
theorem Yzj {P:V→Prop}{h:Nat}{σ':Hp}{o1 o2:Rs}{as2:List Kid}{fv:V}{p:Pt}(hf:FvR h σ' o1 fv) (m1:Mn cs xs p h o1 o2 as2) (c1:∀ l:Nat,o2=some (h,[])→as2=[]→P (.tup [.bool false,.int h,.ref l])) (c2:∀ l:Nat,o2=some (h,[])→as2=[]→P (.tup [.bool true,.int h,.ref l]))
   (c3:∀ (e l:Nat) ks' o',o1=some (e,ks')→σ'[l]?=some (.list (ks'.map pV'))→e≠h→Rv cs (Yap xs) (.many p) e o' as2→o2=onO ks' o'→P (.tup [.bool true,.int e,.ref l])):P fv:=by
 cases hf with
 | no=>cases m1 with | no=>exact c1 _ rfl rfl
 | yes hl =>
   cases m1 with
   | stay=>exact c2 _ rfl rfl
   | more hne r=>exact c3 _ _ _ _ rfl hl hne r rfl
inductive Jm (xs:List (Kid×An Kid)) (cs:List Nat) (lt la:Nat) (us:List V) (p:Pt) (i:Nat) (o:Rs) (as:List Kid) (σ:Hp) (m:Nat) (ρ':Loc) (σ':Hp):Prop where
 | mk (h lr:Nat) (ks as1 as2:List Kid) (o1 o2:Rs) (fv:V) (jk:Hp) (e:σ'=σ.set la (.list (us++as1.map pV'))++jk) (em:m=cs.length - h) (r:Mn cs xs p h o1 o2 as2) (ho:o=onO ks o2) (ha:as=as1++as2) (hi:i≤h) (hh:h≤cs.length) (hr:lr≠la) (hl:σ'[lr]?=some (.list (ks.map pV'))) (hk:ks.length≤2*p.wt*(h - i)) (h1:∀ e us,o1=some (e,us)→h≤e∧e≤cs.length∧us.length≤p.wt*(e+1 - h)) (hf:FvR h σ' o1 fv)
     (has:Has ρ' [("_law_part",(Pt.many p).v),("_law_place",.int h),("_law_kids",.ref lr),("_law_found",fv),("_law_signs",.str (S cs)),("_law_told_here",.ref lt),("_law_asked",.ref la)]):Jm xs cs lt la us p i o as σ m ρ' σ'
theorem Ypo (ih:Yew w s xs cs lt la d n) (w0:KW cs (Yap xs)) {p:Pt}{i h lr:Nat}{ks as1 as2:List Kid}{o2:Rs}{jk:Hp}(hd:p.deep≤n) (hw:p.wt≤20000) (hS:CmS xs lt la us σ) (r:Rv cs (Yap xs) (.many p) h o2 as2) (ho:o=onO ks o2) (ha:as=as1++as2) (hz:us.length+as.length≤16000000) (hi:i≤h) (hh:h≤cs.length) (hr:lr≠la) (hl:(σ.set la (.list (us++as1.map pV'))++jk)[lr]?=some (.list (ks.map pV'))) (hk:ks.length≤2*p.wt*(h - i))
   (q:∀ v σ',(∀ ρ',Has ρ' [("_law_part",(Pt.many p).v),("_law_place",.int h),("_law_kids",.ref lr),("_law_found",v),("_law_signs",.str (S cs)),("_law_told_here",.ref lt),("_law_asked",.ref la)]→Jm xs cs lt la us p i o as σ (cs.length - h) ρ' σ')→Q v σ') :
   Yaa (T09 w s) (d+2*n+3) X (.glob "_law_come") [p.v,.str (S cs),.int h,.ref lt,.ref la] Q (σ.set la (.list (us++as1.map pV'))++jk):=by
 obtain ⟨o1,b1,b2,r1,m,e3⟩:=r.mn
 subst e3
 rw [ha] at hz
 have ha2:as=(as1++b1)++b2:=ha.trans (Ze ..).symm
 have h1:∀ e us,o1=some (e,us)→h≤e∧e≤cs.length∧us.length≤p.wt*(e+1 - h):=fun e us e1=>r1.len w0 hh _ e1
 exact Yet ih hd r1 hh hw hS (Ynh hz) (fun e l jk' hl'=>q _ _ fun ρ' has=>⟨h,lr,ks,as1++b1,b2,o1,o2,_,jk++jk',by rw [Ylg],rfl,m,ho,ha2,hi,hh,hr,Yka hS.lth hr hl,hk,h1,e▸.no,has⟩)
   fun e us e1 l jk' hl'=>q _ _ fun ρ' has=>⟨h,lr,ks,as1++b1,b2,o1,o2,_,jk++jk',by rw [Ylg],rfl,m,ho,ha2,hi,hh,hr,Yka hS.lth hr hl,hk,h1,e1▸.yes hl',has⟩
theorem Ywg {T:Tp}{d m:Nat}{sc:Scope}{X:QX}{ρ:Loc}{σ:Hp}{A B:Hp→Prop}(q:A σ):gw T d sc X (tsQ fun b σ=>if b then A σ else B σ) (m+2) (.al .And [] [] ρ σ):=q
theorem Y0h {a i h e:Nat}(g:i≤h) (g2:h < e) {x y:Nat}(hx:x≤2*a*(h - i)) (hy:y≤a*(e+1 - h)):x+y≤2*a*(e - i):=by
 have h1:a*(e+1 - h)≤2*a*(e - h):=by rw [Nat.mul_comm 2 a,Nat.mul_assoc]; exact Znb a (Ynn g2)
 rw [Yhu g (Zq g2),Nat.mul_add]
 exact Zcb hx (Za hy h1)
theorem Yi8 (TO:Yag (T09 w s)) (w0:KW cs (Yap xs)) (h149:cs.length≤149) (ih:Yew w s xs cs lt la d n) {p:Pt}{i:Nat}(hd:p.deep≤n) (r:Rv cs (Yap xs) (.many p) i o as) (hi:i≤cs.length) (hw:2*p.wt≤20000) (hS:CmS xs lt la us σ) (hz:us.length+as.length≤16000000) (q:CmQ la us as i o Q σ) :
   Yaa (T09 w s) (d+2*n+4) X (.glob "_law_turns") [(Pt.many p).v,.str (S cs),.int i,.ref lt,.ref la] Q σ:=by
 refine Yaa.go TO rfl rfl ?_
 have hlt:=hS.lth
 have hpw:p.wt≤20000:=Za (Nat.le_mul_of_pos_left _ (by decide)) hw
 have e0:σ++[Yaq.list []]=σ.set la (.list (us++([]:List Kid).map pV'))++[.list []]:=by rw [List.map_nil,Zlc]; exact hS.self.symm
 refine Cal.mk ?_
 rw [e0]
 refine Ypo (i:=i) (ks:=[]) (as1:=[]) (lr:=σ.length) ih w0 hd hpw hS r (Yj3 o).symm rfl hz (Zl _) hi (fun e=>absurd hlt (e▸Zub _)) (e0▸Yac) (Zkb _) fun v σ' hJ=>?_
 refine Stx.mk<|Ybe.while (Jm xs cs lt la us p i o as σ) _ (hJ _ ⟨rfl,rfl,rfl,rfl,rfl,rfl,rfl,trivial⟩) fun m ρ' σ' hJ=>?_
 obtain ⟨h,lr,ks,as1,as2,o1,o2,fv,jk,e,em,m1,ho,ha,hih,hh,hr,hl,hk,h1,hf,has⟩:=hJ
 obtain ⟨r₀,rfl⟩:=has.use
 subst e
 clear has
 have fin:o2=some (h,[])→as2=[]→Q (.tup [.bool true,.int h,.ref lr]) (σ.set la (.list (us++as1.map pV'))++jk):=fun e1 e2=>by
   rw [e2,Zlc] at ha
   rw [← ha] at hl ⊢
   exact q.yes h ks (by rw [ho,e1]; exact congrArg (fun x=>some (h,x)) (Zlc ks)) lr jk hl
 apply Yzj hf m1
 · exact fun l e1 e2=>Yd7 TO rfl 40 10 _ _ _<|Cmp.isB (r:=false) rfl<|Cmp.isN (r:=false) rfl (fin e1 e2)
 · exact fun l e1 e2=>Yd7 TO rfl 40 10 _ _ _<|Cmp.isB (r:=true) rfl<|Br.f (Zrc (Int.lt_irrefl _))<|Cmp.isN (r:=false) rfl (fin e1 e2)
 intro e' l ks' o' eo hl' hne r2 e2
 refine Yd7 TO rfl 40 10 _ _ _<|Cmp.isB (r:=true) rfl ?_
 have g:=h1 _ _ eo
 have hlt2:h < e':=Nat.lt_of_le_of_ne g.1 (Ne.symm hne)
 have hk2:(ks++ks').length≤2*p.wt*(e' - i):=by rw [Zf]; exact Y0h hih hlt2 hk g.2.2
 have hk3:(ks.map pV').length+(ks'.map pV').length≤sizeLine:=by rw [Zc,Zc,← Zf]; exact szo (Za hk2 (Za (Nat.mul_le_mul hw (Za (Nat.sub_le ..) (Za g.2.1 h149))) (by decide)))
 refine Br.t (Zmb (Zfb.mpr hlt2))<|Ywg (Ya5 TO rfl 60 _ _ _ _<|Bin.lists hl hl' hk3 ?_)
 refine Cal.mk ?_
 rw [Ze]
 refine Ypo (i:=i) (ks:=ks++ks') (lr:=(σ.set la (.list (us++as1.map pV'))++jk).length) ih w0 hd hpw hS r2 (ho.trans ((congrArg (onO ks) e2).trans (Ylc ..))) ha hz (Za hih (Zq hlt2)) g.2.1 (Yyv (us1:=[]) (jk:=[]) (vs:=[]) hlt (by rw [Zf,List.length_set]; exact Zy ..)) (by rw [← Ze,Zfc]; exact Yac) hk2 fun v σ'' hJ=>?_
 exact ⟨_,by rw [em]; exact Zqc (Zz hlt2 g.2.1) hlt2,hJ _ ⟨rfl,rfl,rfl,rfl,rfl,rfl,rfl,trivial⟩⟩
end
end
section
variable {w:World}{s:Shared}{d:Nat}{X:QX}{Q:QE}{σ:Hp}
set_option tactic.hygienic true in
theorem Yi9 (TO:Yag (T09 w s)) {p:Pt}{c:Nat}(hp:p.isLf=true) (q:Q (.bool (p.takesC c)) σ):Yaa (T09 w s) (d+1) X (.glob "_law_takes") [p.v,.str ⟨#[c]⟩] Q σ:=by
 refine Yaa.go TO rfl rfl ?_
 cases p <;> first | cases hp | skip
 · rename_i a
   simp only [Pt.takesC2] at q
   refine Cal.ord<|Cal.ord ?_
   show Q (.bool ((c:Int) == (a:Int))) σ
   rw [show ((c:Int) == (a:Int))=(a == c) by rw [Bool.eq_iff_iff,beq_iff_eq,beq_iff_eq,Int.ofNat_inj]; exact eq_comm]
   exact q
 · rename_i a b
   refine Cal.ord<|Cal.ord<|Br.mk (fun h1=>Cal.ord<|Cal.ord ?_) fun h1=>?_
   · simp only [Pt.takesC3] at q
     have:a≤c:=by simpa using h1
     rw [Zmb this,Bool.true_and] at q
     show Q (.bool (decide ((c:Int)≤(b:Int)))) σ
     rw [show decide ((c:Int)≤(b:Int))=decide (c≤b) by simp]; exact q
   · simp only [Pt.takesC3] at q
     have:¬ a≤c:=by simpa using h1
     rw [Zrc this] at q
     show Q (.bool (decide ((a:Int)≤(c:Int)))) σ
     rw [h1]
     exact q
 · exact q
section
variable {xs:List (Kid×An Kid)}{cs:List Nat}{lt la n:Nat}{us:List V}{o:Rs}{as:List Kid}
theorem Ygc (TO:Yag (T09 w s)) {p:Pt}{i:Nat}(hlf:p.isLf=true) (h149:cs.length≤149) (r:Rv cs (Yap xs) p i o as) (hS:CmS xs lt la us σ) (q:CmQ la us as i o Q σ) :
   Yaa (T09 w s) (d+2) X (.glob "_law_come") [p.v,.str (S cs),.int i,.ref lt,.ref la] Q σ:=by
 have hr:o=Ygl cs p i∧as=[]:=by
   have h:=r.inv
   cases p <;> first | exact h | exact (Zv hlf).elim
 obtain ⟨ho,ha⟩:=hr
 subst ha
 have e0:∀ {jk:Hp},σ.set la (.list (us++([]:List Kid).map pV'))++jk=σ++jk:=by rw [List.map_nil,Zlc]; exact hS.self
 have no:(∀ c,cs[i]?=some c→p.takesC c=false)→Q (.tup [.bool false,.int i,.ref σ.length]) (σ++[.list []]):=fun hn=>by
   have hq:o=none:=by
     rw [ho]; unfold Ygl
     cases hc:cs[i]? with
     | none=>rfl
     | some c=>exact if_neg (by rw [hn c hc]; exact Zv)
   have:=q.no hq σ.length [.list []]
   rw [e0] at this
   exact this Yac
 have yes:∀ c,cs[i]?=some c→p.takesC c=true→Q (.tup [.bool true,.int (i+1:Nat),.ref σ.length]) (σ++[.list []]):=fun c hc ht=>by
   have hq:o=some (i+1,[]):=by rw [ho]; unfold Ygl; rw [hc]; exact if_pos ht
   have:=q.yes _ _ hq σ.length [.list []]
   rw [e0] at this
   exact this Yac
 clear q r ho
 have fin:∀ b:Bool,(b=true→∃ c,cs[i]?=some c∧p.takesC c=true)→(b=false→∀ c,cs[i]?=some c→p.takesC c=false)→Q (.tup [.bool b,.int ((i:Int)+if b=true then 1 else 0),.ref σ.length]) (σ++[.list []]):=fun b h1 h2=>by
   cases b with
   | true=>exact (h1 rfl).elim fun c h=>yes c h.1 h.2
   | false=>exact (Int.add_zero (i:Int)).symm▸no (h2 rfl)
 clear yes no
 refine Yaa.go TO rfl rfl ?_
 have hl:cs.length < 2 ^ 62:=Zk h149 (by decide)
 cases p <;> first | exact (Zv hlf).elim | skip
 all_goals
   refine Cal.len (n:=cs.length) (Yc7 (Ya4 cs)) hl<|Br.mk (fun h=>?_) fun h=>?_
   · have hg:=Zp (Yyg h)
     refine Itm.strN hg (Zk h149 (by decide))<|Cal.mk<|Yi9 TO rfl ?_
     exact Cal.intB<|fin _ (fun hb=>⟨_,hg,hb⟩) fun hb c hc=>Zab (hg.symm.trans hc)▸hb
   · exact Cal.intB<|fin _ (fun e=>(Zv (h.symm.trans e)).elim) fun zz c hc=>absurd (Zb.mp hc).1 (Zo.mpr (Yyp h))
theorem Yr1 {k:Kid}{a:An Kid}(h:a.1=none):anO (Ye1 k a)=none:=by
 obtain ⟨x,us⟩:=a
 cases h; rfl
theorem Yns {k:Kid}{a:An Kid}{e:Nat}(h:a.1=some e):anO (Ye1 k a)=some (e,[k]):=by
 obtain ⟨x,us⟩:=a
 cases h; rfl
theorem CmS.use {P:Prop}(h:CmS xs lt la us σ) (c:∀ kvs,σ[la]?=some (.list us)→σ[lt]?=some (.tdict kvs)→Ya2 σ [la] xs kvs→P):P:=by
 obtain ⟨kvs,k1,k2,k3⟩:=h
 exact c kvs k1 k2 k3
theorem Cmp.ninP {k:Str×Int}{l:Nat}{kvs:List ((Str×Int)×V)}(h:σ[l]?=some (.tdict kvs)) (e:(kvs.any fun kv=>kv.1=k)=true) (q:Q (.bool false) σ):Cmp .NotIn (.tup [.str k.1,.int k.2]) (.ref l) Q σ:=Cmp.pairs (neg:=true) h (by rw [e]; exact q)
theorem Yo9 (TO:Yag (T09 w s)) {m:Str}{i:Nat}(r:Rv cs (Yap xs) (.rule m) i o as) (hS:CmS xs lt la us σ) (hz:us.length+as.length≤16000000) (q:CmQ la us as i o Q σ) :
   Yaa (T09 w s) (d+1) X (.glob "_law_come") [(Pt.rule m).v,.str (S cs),.int i,.ref lt,.ref la] Q σ:=by
 obtain ⟨a,hk,ho,ha⟩:=r.inv
 refine Yaa.go TO rfl rfl ?_
 refine Yak.append hS.at_<|Cal.mk<|Yaa.append hS.at_ (szo (Za (Zy ..) (Za hz (by decide)))) ?_
 have hS':CmS xs lt la (us++[pV' (m,i)]) (σ.set la (.list (us++[pV' (m,i)]))):=by have:=hS.on (us':=us++[pV' (m,i)]) (jk:=[]); rw [Zlc] at this; exact this
 subst ha
 refine hS'.use fun kvs k1 k2 k3=>k3.has (k:=(m,i)) hk fun l2 x2 x4=>?_
 refine Cmp.ninP (k:=(m,(i:Int))) k2 (Yxf x2)<|Itm.pair (k:=(m,(i:Int))) k2 x2 ?_
 generalize hx:a.1=x
 cases x with
 | none=>exact Cmp.isN (r:=true) rfl<|q.no (ho.trans (Yr1 hx)) _ [.list []] Yac
 | some e =>
   rw [hx] at x2
   exact Cmp.isN (r:=false) rfl<|Itm.pair (k:=(m,(i:Int))) k2 x2<|q.yes e [(m,i)] (ho.trans (Yns hx)) _ [.list [pV' (m,i)]] Yac
theorem Yt4 (TO:Yag (T09 w s)) (ih:Yew w s xs cs lt la d n) {p:Pt}{i:Nat}(hd:p.deep≤n) (r:Rv cs (Yap xs) (.nt p) i o as) (hi:i≤cs.length) (hw:p.wt≤20000) (hS:CmS xs lt la us σ) (hz:us.length+as.length≤16000000) (q:CmQ la us as i o Q σ) :
   Yaa (T09 w s) (d+2*n+4) X (.glob "_law_come") [(Pt.nt p).v,.str (S cs),.int i,.ref lt,.ref la] Q σ:=by
 refine Yaa.go TO rfl rfl ?_
 have up:∀ {jk:Hp},(σ.set la (.list (us++as.map pV'))++jk)++[Yaq.list []]=σ.set la (.list (us++as.map pV'))++(jk++[.list []]):=Ze ..
 rcases r.inv with ⟨ho,r1⟩ | ⟨x,ho,r1⟩
 · refine Cal.mk<|ih p i _ as us X _ σ hd r1 hi hw hS hz ⟨fun zz l jk hl=>?_,fun e ks e1=>((by cases e1))⟩
   have:=q.yes i [] ho _ (jk++[.list []]) (up▸Yac)
   rw [← up] at this
   exact Cmp.isN (r:=false) rfl this
 · refine Cal.mk<|ih p i _ as us X _ σ hd r1 hi hw hS hz ⟨fun e1=>((by cases e1)),fun e ks e1 l jk hl=>?_⟩
   have:=q.no ho _ (jk++[.list []]) (up▸Yac)
   rw [← up] at this
   exact Cmp.isN (r:=false) rfl this
theorem Yqz (TO:Yag (T09 w s)) (w0:KW cs (Yap xs)) (h149:cs.length≤149):∀ n,Yew w s xs cs lt la d n:=by
 intro n
 induction n with
 | zero=>exact fun p i o as us X Q σ hd=>absurd hd (Nat.not_le.mpr (Pt.deep_pos p))
 | succ n ih =>
   intro p i o as us X Q σ hd r hi hw hS hz q
   cases p with
   | sign c=>exact (Ygc (d:=d) TO rfl h149 r hS q).le (by lia)
   | span c e=>exact (Ygc (d:=d) TO rfl h149 r hS q).le (by lia)
   | any=>exact (Ygc (d:=d) TO rfl h149 r hS q).le (by lia)
   | rule m=>exact (Yo9 (d:=d) TO r hS hz q).le (by lia)
   | nt p=>exact (Yt4 TO ih (by rw [Pt.deep4] at hd; exact Zcc hd) r hi (by rw [Pt.wt5] at hw; exact hw) hS hz q).le (by lia)
   | row ps =>
     refine Yaa.go TO rfl rfl ?_
     exact Cal.mk<|Yl6 TO w0 h149 ih (by rw [Pt.deep1] at hd; exact Zcc hd) r hi (by rw [Pt.wt2] at hw; exact hw) hS hz q
   | alt ps =>
     refine Yaa.go TO rfl rfl ?_
     exact Cal.mk<|Yii TO ih (by rw [Pt.deep2] at hd; exact Zcc hd) r hi (by rw [Pt.wt3] at hw; exact hw) hS hz q
   | many p =>
     refine Yaa.go TO rfl rfl ?_
     exact Cal.mk<|Yi8 TO w0 h149 ih (by rw [Pt.deep3] at hd; exact Zcc hd) r hi (by rw [Pt.wt4] at hw; exact hw) hS hz q
end
end
section
variable {w:World}{s:Shared}{d:Nat}{X:QX}{Q:QE}{σ:Hp}
theorem Yhb {T:Tp}{sc scope:Scope}{ρ:Loc}{x:Str}{elt:Expr}{v:V}{vs:List V}(hl:∀ jk:Hp,Yef (σ++jk) v=some vs) (hn:vs.length≤5000000) (q:∀ jk,Q (.ref (σ++jk).length) (σ++jk++[.list ((List.replicate vs.length true).map V.bool)]))
   (he:∀ v∈vs,∀ jk:Hp,Yai T d (Yfa scope sc) (upd (Ybc scope ρ) x (some v)) X elt (fun u σ'=>u=.bool true∧∃ jk',σ'=σ++(jk++jk')) (σ++jk)):Ybv T d sc ρ X scope x [] elt Q v σ:=by
 refine ⟨vs,fun i acc σ'=>acc=(List.replicate i true).map V.bool∧i≤vs.length∧∃ jk,σ'=σ++jk,⟨rfl,Zkb _,[],(Zlc σ).symm⟩,fun i acc σ' hJ=>⟨hJ.2.2.elim fun jk e=>e▸hl jk,?_⟩,fun acc σ' hJ=>hJ.2.2.elim fun jk e=>by rw [hJ.1,e]; exact q jk,fun i y acc σ' hJ hy=>hJ.2.2.elim fun jk e=>?_⟩
 · rw [hJ.1,Zc,List.length_replicate]; exact szo (Za hJ.2.1 (Za hn (by decide)))
 · rw [e]
   exact (he y (Zn hy) jk).mon fun u σ' h=>⟨by rw [hJ.1,h.1,List.replicate_succ',Zfc]; rfl,(Zb.mp hy).1,h.2.elim fun jk' e=>⟨_,e⟩⟩
theorem Yoi {T:Tp}{sc scope:Scope}{ρ:Loc}{x:Str}{elt:Expr}{l:Nat}{vs:List V}(hl:σ[l]?=some (.list vs)) (hn:vs.length≤5000000) (q:∀ jk,Q (.ref (σ++jk).length) (σ++jk++[.list ((List.replicate vs.length true).map V.bool)]))
 (he:∀ v∈vs,∀ jk:Hp,Yai T d (Yfa scope sc) (upd (Ybc scope ρ) x (some v)) X elt (fun u σ'=>u=.bool true∧∃ jk',σ'=σ++(jk++jk')) (σ++jk)):Ybv T d sc ρ X scope x [] elt Q (.ref l) σ:=Yhb (fun jk=>Yav (Yab hl)) hn q he
theorem Ykv (n:Nat):(List.replicate n true).all id=true:=List.all_eq_true.mpr fun x hx=>(List.mem_replicate.mp hx).2
theorem Yld (TO:Yag (T09 w s)) {i:Int}(q:Q (.bool true) σ):Yaa (T09 w s) (d+1) X (.glob "_law_whole") [.int i] Q σ:=by
 refine Yaa.go TO rfl rfl ?_
 exact Cal.isiInt<|Cal.isiNo q
theorem Yor (TO:Yag (T09 w s)) {k:Kid}{m:Nat}(hk:k.2≤m) (q:Q (.bool true) σ):Yaa (T09 w s) (d+2) X (.glob "_law_pair") [pV' k,.int m] Q σ:=by
 refine Yaa.go TO rfl rfl ?_
 refine Cal.isi (b:=true) rfl<|Cal.lenT rfl<|Cal.isi (b:=true) rfl<|Cal.mk<|Yld TO ?_
 show Q (.bool (decide ((k.2:Int)≤m))) σ
 rw [Zmb (Zhc.mpr hk)]; exact q
structure Yza (m:Nat) (k:Kid) (a:An Kid):Prop where
 at_:k.2≤m
 en:∀ e,a.1=some e→k.2≤e∧e≤m
 kids:∀ x∈a.2,x.2≤m
 few:a.2.length≤5000000
theorem Yq6 (TO:Yag (T09 w s)) {k:Kid}{a:An Kid}{l m:Nat}(ok:Yza m k a) (hl:σ[l]?=some (.list (a.2.map pV'))) (q:∀ jk,Q (.bool true) (σ++jk)):Yaa (T09 w s) (d+3) X (.glob "_law_entry") [Ywe k a l,.int m] Q σ:=by
 refine Yaa.go TO rfl rfl ?_
 refine Cal.isi (b:=true) rfl<|Cal.lenT rfl<|Evx.mk<|Yai.tupTo (Yai.nm rfl rfl rfl (Yai.int ⟨_,2,rfl,rfl,by decide,(show 2 < 4 by decide),sz 4 rfl,?_⟩))
 refine Cal.mk<|Yor (k:=k) TO ok.at_ ?_
 have kids:∀ {sc scope:Scope}{ρ:Loc}{x:Str}{elt:Expr},(∀ {v:V}{Z:QE}{σ':Hp},Cal (T09 w s) (d+2) X (.glob "_law_pair") [v,.int m] Z σ'→Yai (T09 w s) (d+2) (Yfa scope sc) (upd (Ybc scope ρ) x (some v)) X elt Z σ')→Ybv (T09 w s) (d+2) sc ρ X scope x [] elt (fun v σ'=>Cal (T09 w s) (d+2) X (.bi "all") [v] Q σ') (.ref l) σ:=fun {sc scope ρ x elt} he =>
   Yoi hl (by rw [Zc]; exact ok.few) (fun jk=>Cal.mk<|Yaa.all (bs:=List.replicate (a.2.map pV').length true) Yac (by rw [Ykv,Ze]; exact q _)) fun v hv jk=>he<|by
     obtain ⟨x,hx,rfl⟩:=Zsb.mp hv
     exact Cal.mk<|Yor TO (ok.kids x hx) ⟨rfl,[],by rw [Zlc]⟩
 have hi:Yww σ (.ref l) "list" = some true:=Yfo hl
 clear hl q
 obtain ⟨x,us⟩:=a
 cases x with
 | none=>exact Cmp.notN (r:=true) rfl<|Cmp.notN (r:=true) rfl<|Cal.isi (b:=true) hi<|kids fun h=>Yc9 TO rfl 40 _ _ _ h
 | some e =>
   obtain ⟨g1,g2⟩:=ok.en e rfl
   exact Cmp.notN (r:=false) rfl<|Cal.mk<|Yld TO<|Cmp.notN (r:=false) rfl<|Br.f (Zrc (Int.not_lt.mpr (Zhc.mpr g1)))<|Br.f (Zrc (Int.not_lt.mpr (Zhc.mpr g2)))<|Cal.isi (b:=true) hi<|kids fun h=>Yc9 TO rfl 40 _ _ _ h
inductive Yws (xs:List (Kid×An Kid)) (σ:Hp) (m:Nat) (i:Nat) (ρ':Loc) (σ':Hp):Prop where
 | mk (kvs:List ((Str×Int)×V)) (jk:Hp) (e:σ'=σ++.tdict kvs::jk) (hk:Ya2 σ' [] (xs.take i) kvs) (has:Has ρ' [("_law_size",.int m),("_law_told_here",.ref σ.length)]):Yws xs σ m i ρ' σ'
theorem Yhk {a b:List ((Str×Int)×V)}{r:Hp}{l:Nat}{vs:List V}(h:(σ++.tdict a::r)[l]?=some (.list vs)):(σ++.tdict b::r)[l]?=some (.list vs):=by
 by_cases e:l=σ.length
 · subst e; rw [Ye0] at h; cases h
 · rw [← Yq9 (σ:=σ) (a:=.tdict a) (a':=.tdict b),Zi (Ne.symm e)]; exact h
theorem Ya2.up {jk:Hp}{xs:List (Kid×An Kid)}{kvs:List ((Str×Int)×V)}(h:Ya2 σ [] xs kvs):Ya2 (σ++jk) [] xs kvs:=h.keep .up
theorem Yu2 (TO:Yag (T09 w s)) {xs:List (Kid×An Kid)}{vs:List V}{le lo m:Nat}(hl:σ[le]?=some (.list vs)) (hE:EnR lo σ xs vs) (hz:xs.length≤5000000) (ok:∀ x∈xs,Yza m x.1 x.2) (hn:∀ i k a,xs[i]?=some (k,a)→Yap (xs.take i) k=none)
   (q:∀ kvs jk,Ya2 (σ++.tdict kvs::jk) [] xs kvs→Q (.ref σ.length) (σ++.tdict kvs::jk)):Yaa (T09 w s) (d+4) X (.glob "_law_told") [.ref le,.int m] Q σ:=by
 refine Yaa.goX TO rfl rfl ?_
 refine Yda.cutAt 2 (fun ρ' σ'=>Has ρ' [("_law_entries",.ref le),("_law_size",.int m),("_law_told_here",.ref σ.length)]∧σ'=σ++[.sdict []]) (Ya5 TO rfl 60 _ _ _ _ ?_) fun ρ₁ σ₁ hJ=>?_
 · exact Cal.isi (b:=true) (Yfo hl) ⟨⟨rfl,rfl,rfl,trivial⟩,rfl⟩
 · apply Has.on hJ.1
   apply Yao hJ.2
   refine Yda.retag (k:=σ.length) Yac ?_
   rw [Yb7]
   refine Ya5 TO rfl 60 _ _ _ _<|Ycb.mk vs (Yws xs σ m) ⟨[],[],rfl,rfl,⟨rfl,rfl,trivial⟩⟩ (fun i ρ' σ' hJ=>hJ.rec fun kvs jk e zz zz=>e▸Yav (Yab hl)) (fun ρ' σ' hJ=>hJ.rec fun kvs jk e hk has=>?_) fun i y ρ' σ' hJ hy=>hJ.rec fun kvs jk e hk has=>(hE.at hy).elim fun ky hh=>hh.elim fun ay hh=>hh.elim fun ly hh=>?_
   · apply Has.on has
     rw [List.take_of_length_le (Zr hE.length.symm),e] at hk
     apply Yao e
     exact q kvs jk hk
   · apply Has.on has
     rw [e] at hk
     apply Yao e
     have y1:=hh.1
     have y3:=hh.2.2.1
     apply Yao hh.2.1
     clear hh e hJ hy has
     have hfew:kvs.length≤sizeLine:=by rw [hk.length]; exact szo (Za (Zic ..) (Za hz (by decide)))
     refine ⟨_,rfl,Ya5 TO rfl 60 _ _ _ _ ?_⟩
     refine Cal.mk<|Yq6 TO (ok _ (Zn y1)) (Yab y3) fun jk2=>?_
     rw [Ze,List.cons_append]
     refine Evx.mk<|Yai.tupTo (Yai.nm rfl rfl rfl (Yai.int ⟨_,2,rfl,rfl,by decide,(show 2 < 4 by decide),sz 4 rfl,?_⟩))
     have no:(kvs.any fun kv=>kv.1=(ky.1,(ky.2:Int)))=false:=by
       rw [hk.any (k:=ky)]
       have:=Yfv.mp (hn i ky ay y1)
       rw [List.any_eq_false]
       exact fun p hp=>by simp only [decide_eq_true_eq]; exact fun e=>this (Zsb.mpr ⟨p,hp,e⟩)
     refine Cmp.pairs (neg:=false) (k:=(ky.1,(ky.2:Int))) Ye0 ?_
     rw [no]
     refine Evx.mk<|Yai.tupFrom (Yai.nm rfl rfl rfl (Yai.int ⟨_,2,rfl,rfl,by decide,(show 2 < 4 by decide),sz 4 rfl,?_⟩))
     refine Evx.mk<|Yai.tupTo (Yai.nm rfl rfl rfl (Yai.int ⟨_,2,rfl,rfl,by decide,(show 2 < 4 by decide),sz 4 rfl,?_⟩))
     refine Yas.pair (k:=(ky.1,(ky.2:Int))) Ye0 hfew ?_
     rw [Yq9]
     refine ⟨_,_,rfl,?_,⟨rfl,rfl,trivial⟩⟩
     rw [Ya3 y1]
     have hk2:Ya2 (σ++.tdict kvs::(jk++jk2)) [] (xs.take i) kvs:=by have:=hk.up (jk:=jk2); rw [Ze,List.cons_append] at this; exact this
     exact (hk2.all fun l vs h=>Yhk h).snoc (Yhf.of (Yhk (a:=kvs) (Yab y3))) (hn i ky ay y1)
end
section
variable {w:World}{s:Shared}{d:Nat}{X:QX}{Q:QE}{σ:Hp}
set_option genSizeOf false in
set_option genInjectivity false in
structure Ps where
 g:Nat
 gb:Nat
 m:Nat
 a:Nat
 b:Nat
 u:Nat
 lr:Nat
noncomputable abbrev Ps.own (p:Ps):List Nat:=[p.m,p.a,p.b,p.u]
structure Ap (p:Ps):Prop where
 lr:p.lr∉p.own
 g:p.g∉p.own
 gb:p.gb∉p.own
 bu:p.b≠p.u
structure Gv (rs:List (Str×Pt)) (cs:List Nat):Prop where
 hg:Yax rs
 hl:Ygr rs
 hw:∀ r∈rs,r.2.wt≤20000
 hd:∀ j r,rs[j]?=some r→Drawn (rs.map (·.1)) j r.2
 h40:rs.length≤40
 hc:cs.length≤149
structure Rr (rs:List (Str×Pt)) (cs:List Nat) (p:Ps) (mem:Mm) (σ:Hp):Prop where
 hr:σ[p.lr]?=some (.inst "Reading" (rdF p.g cs p.m))
 hG:GrT rs p.g p.gb σ
 hm:Yd4 σ p.own p.m p.a p.b mem
 mc:Mc (rs.map (·.1)) (inB (Yba rs rs.length)) 20000 cs.length [] mem
 mi:MI (Yan rs) cs [] mem
section
variable {rs:List (Str×Pt)}{cs:List Nat}{p:Ps}{mem mem':Mm}{σ':Hp}
theorem Rr.on (h:Rr rs cs p mem σ) (ap:Ap p) (o:On σ p.own σ' p.own) (hm:Yd4 σ' p.own p.m p.a p.b mem') (mc:Mc (rs.map (·.1)) (inB (Yba rs rs.length)) 20000 cs.length [] mem') (mi:MI (Yan rs) cs [] mem'):Rr rs cs p mem' σ' :=
 ⟨o.keep _ _ h.hr ap.lr,h.hG.keep o ap.g ap.gb,hm,mc,mi⟩
theorem Ya2.onL {A:List Nat}(k:∀ (l:Nat) (vs:List V),σ[l]?=some (.list vs)→l∉A→σ'[l]?=some (.list vs)):∀ {xs:List (Kid×An Kid)}{kvs:List ((Str×Int)×V)},Ya2 σ A xs kvs→Ya2 σ' A xs kvs:=by
 intro xx
 induction xx with
 | nil=>exact fun {z} h=>h
 | cons z1 z2 ih =>
   intro z3 h
   refine h.elim fun v h=>h.elim fun q h=>⟨v,q,h.1,?_,ih h.2.2⟩
   obtain ⟨l,vs,h1,h2,h3,h4⟩:=h.2.1
   exact ⟨l,vs,h1,h2,k _ _ h3 h2,(Yf2 h4)▸Ycm⟩
noncomputable abbrev Ps.fx (p:Ps):List Nat:=[p.lr,p.g,p.gb,p.m,p.a]
theorem Rr.keep (h:Rr rs cs p mem σ) (k:∀ x∈p.fx,∀ o,σ[x]?=some o→σ'[x]?=some o) (kb:∀ o,σ[p.b]?=some o→σ'[p.b]?=some o) (kl:∀ (x:Nat) (vs:List V),σ[x]?=some (.list vs)→x∉p.own→σ'[x]?=some (.list vs)):Rr rs cs p mem σ' :=
 ⟨k _ (.head _) _ h.hr,h.hG.rec fun a c e g1 g2=>⟨a,c,e,k _ (.tail _ (.head _)) _ g1,k _ (.tail _ (.tail _ (.head _))) _ g2⟩,Yd4.use h.hm fun kvs m1 m2 m3 m4=>⟨kvs,k _ (.tail _ (.tail _ (.tail _ (.head _)))) _ m1,k _ (.tail _ (.tail _ (.tail _ (.tail _ (.head _))))) _ m2,kb _ m3,m4.onL kl⟩,h.mc,h.mi⟩
theorem Rr.up {jk:Hp}(h:Rr rs cs p mem σ):Rr rs cs p mem (σ++jk):=h.keep (fun x zz o g=>Yab g) (fun o g=>Yab g) fun x vs g zz=>Yab g
theorem grr (v:Gv rs cs):Yvb (Yan rs) (rs.map (·.1)) (inB (Yba rs rs.length)) (Yo7 rs) rs.length 20000:=Yur (fun zz hr=>Ycr v.hg.nodup hr) v.hg v.hl v.hw
theorem sor (hg:Yax rs):∀ n∈rs.map (·.1),sOk n:=fun n hn=>by
 obtain ⟨r,hr,rfl⟩:=Zsb.mp hn
 exact Yrr (hg.all r hr).name
inductive Rd9 (rs:List (Str×Pt)) (cs:List Nat) (mem:Mm) (k:Kid) (o:Option (An Kid×Mm)):Prop where
 | mk (x:An Kid) (b':Mm) (e:o=some (Ye1 k x,b')) (h1:Yap b'.kept k=some x) (h2:Mc (rs.map (·.1)) (inB (Yba rs rs.length)) 20000 cs.length [] b') (h3:MI (Yan rs) cs [] b') (h4:Dfs (AkR cs (Yan rs) (Yap b'.kept)) [k] mem.order b'.order):Rd9 rs cs mem k o
theorem rdr (v:Gv rs cs) (h:Rr rs cs p mem σ) {n:Str}{j:Nat}(hn:n∈rs.map (·.1)) (hj:j≤cs.length):∃ m,Fin (Yan rs) cs Yaw (Rd9 rs cs mem (n,j)) m ⟨[.new (.rule n) j],none,mem⟩:=by
 have l1:cs.length+1≤150:=Zwb v.hc
 obtain ⟨m,x,b',h1,h2,h3,h4,zz,h5⟩:=Ysx (grr v) (Za (Znb _ l1) (by decide)) (by rw [Zc]; exact Za (Nat.mul_le_mul v.h40 l1) (by decide)) (Za (Zvb 14 (Nat.mul_le_mul l1 v.h40)) (by decide)) h.mc h.mi hn hj
 exact ⟨m,h1.mono fun o e=>⟨x,b',e,h2,h3,h4,h5.mono Ak.rv⟩⟩
theorem Yo3 {k:Kid}{x:An Kid}{e:Nat}(h:(Ye1 k x).1=some e):x=(some e,x.2):=by
 obtain ⟨x,us⟩:=x
 cases x with
 | none=>cases h
 | some e=>cases h; rfl
theorem Rr.kp (v:Gv rs cs) (h:Rr rs cs p mem σ):Kp (Yan rs) cs rs mem where
 hD:=v.hd
 nd:=v.hg.nodup
 h40:=by rw [Zc]; exact v.h40
 hG:=fun r hr=>Ycr v.hg.nodup hr
 rng:=h.mc.rng
 kw:=fun k e us hk=>⟨(h.mc.fit k _ hk).1,(h.mc.fit k _ hk).2.1⟩
 hi:=h.mi
 hl:=v.hc
theorem Ybx {mem:Mm}(h:Rr rs cs p mem σ) (v:Gv rs cs):mem.order.length≤5000000∧(∀ k∈mem.order,∃ a,Yap mem.kept k=some a)∧∀ k a,Yap mem.kept k=some a→a.2.length≤5000000:=by
 have l1:cs.length+1≤150:=Zwb v.hc
 refine ⟨Za h.mc.few.2 (by rw [Zc]; exact Za (Nat.mul_le_mul v.h40 l1) (by decide)),fun k hk=>(h.mc.done k hk).resolve_left nofun,fun k a hk=>?_⟩
 exact (h.mc.fit k a hk).few (Zl _) (Za (Znb _ l1) (by decide))
structure Af (rs:List (Str×Pt)) (cs:List Nat) (p:Ps) (uo:List V) (mem:Mm) (k:Kid) (σ:Hp) (mem':Mm) (σ':Hp):Prop where
 h:Rr rs cs p mem' σ'
 hu:σ'[p.u]?=some (.list uo)
 on:On σ p.own σ' p.own
 len:σ.length≤σ'.length
 has:∃ x,Yap mem'.kept k=some x
 dfs:Dfs (AkR cs (Yan rs) (Yap mem'.kept)) [k] mem.order mem'.order
theorem Af.up {uo:List V}{k:Kid}{jk:Hp}(h:Af rs cs p uo mem k σ mem' σ'):Af rs cs p uo mem k σ mem' (σ'++jk) :=
 ⟨h.h.up,Yab h.hu,h.on.trans .up h.len,Za h.len (Zf▸Zy ..),h.has,h.dfs⟩
theorem Rd9.af {uo:List V}{k:Kid}{an:An Kid}(ap:Ap p) (h:Rr rs cs p mem σ) (r:Rd9 rs cs mem k (some (an,mem'))) (hm:Yd4 σ' p.own p.m p.a p.b mem') (hu:σ'[p.u]?=some (.list uo)) (o:On σ p.own σ' p.own) (hl:σ.length≤σ'.length):Af rs cs p uo mem k σ mem' σ':=by
 obtain ⟨x,b',e,h1,h2,h3,h4⟩:=r
 cases e
 exact ⟨h.on ap o hm h2 h3,hu,o,hl,⟨x,h1⟩,h4⟩
theorem Rd9.no {k:Kid}(h:Rd9 rs cs mem k none):False:=by
 obtain ⟨x,b',e,zz⟩:=h; cases e
theorem Yhw (TO:Yag (T09 w s)) (v:Gv rs cs) (ap:Ap p) (h:Rr rs cs p mem σ) {uo:List V}(hu:σ[p.u]?=some (.list uo)) {n:Str}{j:Nat}(hn:n∈rs.map (·.1)) (hj:j≤cs.length)
   (q:∀ x σ' mem',Af rs cs p uo mem (n,j) σ mem' σ'→Q x σ'):Yaa (T09 w s) (d+8) X (.mth "Reading" "read") [.ref p.lr,.str n,.int j] Q σ:=by
 refine Yjs (P:=Rd9 rs cs mem (n,j)) TO v.hg h.hG ap.g ap.gb (Zk v.hc (by decide)) h.hr ap.bu h.hm hu (fun g=>absurd hn g) (fun zz g=>absurd g (by omega)) (fun zz j' e zz=>Int.ofNat_inj.mp e▸rdr v h hn hj) Rd9.no fun an mem' σ' g1 hm' hu' ho hl=>?_
 exact q _ σ' mem' (g1.af ap h hm' hu' ho hl)
theorem Yqu (TO:Yag (T09 w s)) (v:Gv rs cs) (ap:Ap p) (h:Rr rs cs p mem σ) {uo:List V}(hu:σ[p.u]?=some (.list uo)) {n:Str}{j:Nat}(hn:n∈rs.map (·.1)) (hj:j≤cs.length)
   (q:∀ x σ' mem',Af rs cs p uo mem (n,j) σ mem' σ'→Q x σ'):Yaa (T09 w s) (d+9) X (.mth "Reading" "tree") [.ref p.lr,.str n,.int j] Q σ:=by
 refine Ypg (P:=Rd9 rs cs mem (n,j)) TO v.hg h.hG ap.g ap.gb (Zk v.hc (by decide)) h.hr ap.lr ap.bu h.hm hu (fun g=>absurd hn g) (fun zz g=>absurd g (by omega)) (fun zz j' e zz=>Int.ofNat_inj.mp e▸rdr v h hn hj) Rd9.no (fun an mem' e g1 g2 j' e' zz=>?_) (fun an mem' σ' g1 g2 hm' hu' ho hl=>q _ σ' mem' (g1.af ap h hm' hu' ho hl)) fun an mem' e σ' t j' g1 g2 e' hm' hu' ho hl ht=>q _ _ mem' (g1.af ap h hm' hu' ho hl).up
 obtain ⟨x,b',eo,k1,k2,k3,k4⟩:=g1
 cases eo
 rw [Yo3 g2] at k1
 obtain ⟨t,ht⟩:=Yr8 (grr v) k2 k3 k1
 exact Int.ofNat_inj.mp e'▸⟨t,ht,Ync v.hd rfl v.hg.nodup (by rw [Zc]; exact v.h40) (fun r hr=>Ycr v.hg.nodup hr) k2 k3 v.hc ht⟩
theorem Yg4 (TO:Yag (T09 w s)) (v:Gv rs cs) (ap:Ap p) (h:Rr rs cs p mem σ) {uo:List V}(hu:σ[p.u]?=some (.list uo)) {n:Str}{i:Int}{t:Bool}(hn:n∉rs.map (·.1)∨(cs.length:Int) < i) (q:Q (.bool true) σ):Yaa (T09 w s) (d+10) X (.glob "_law_refused") [.ref p.lr,.str n,.int i,.bool t] Q σ:=by
 obtain ⟨C,hC⟩:=Yjg (w:=w) (s:=s)
 refine Yaa.go TO rfl rfl ?_
 have no:∀ {P:Prop}(hin:n∈rs.map (·.1)) (j:Nat),i=j→j≤cs.length→P:=fun hin j e hj=>by
   rcases hn with g | g
   · exact absurd hin g
   · rw [e] at g; exact absurd (Zfb.mp g) (Zo.mpr hj)
 cases t with
 | false =>
   refine Stx.mk<|Ybe.try<|Ya5 TO rfl 60 _ _ _ _<|Yak.own h.hr rfl hC.cls hC.read<|Cal.mk<|Yjs (d:=d+1) (P:=fun zz=>False) TO v.hg h.hG ap.g ap.gb (Zk v.hc (by decide)) h.hr ap.bu h.hm hu (fun g=>?_) (fun zz g=>?_) (fun hin j e hj=>no hin j e hj) (fun g=>g) fun an mem' σ' g1=>g1.elim
   · exact Ycw.plain TO rfl rfl rfl rfl rfl rfl fun ρ=>Ya5 TO.at rfl 60 _ _ _ _ fun ρ'=>q
   · exact Ycw.miss TO rfl rfl rfl rfl rfl rfl<|Ycw.plain TO rfl rfl rfl rfl rfl rfl fun ρ=>Ya5 TO.at rfl 60 _ _ _ _ fun ρ'=>q
 | true =>
   refine Stx.mk<|Ybe.try<|Ya5 TO rfl 60 _ _ _ _<|Yak.own h.hr rfl hC.cls hC.tree<|Cal.mk<|Ypg (d:=d) (P:=fun zz=>False) TO v.hg h.hG ap.g ap.gb (Zk v.hc (by decide)) h.hr ap.lr ap.bu h.hm hu (fun g=>?_) (fun zz g=>?_) (fun hin j e hj=>no hin j e hj) (fun g=>g) (fun an mem' e g1=>g1.elim) (fun an mem' σ' g1=>g1.elim) fun an mem' e σ' t j' g1=>g1.elim
   · exact Ycw.plain TO rfl rfl rfl rfl rfl rfl fun ρ=>Ya5 TO.at rfl 60 _ _ _ _ fun ρ'=>q
   · exact Ycw.miss TO rfl rfl rfl rfl rfl rfl<|Ycw.plain TO rfl rfl rfl rfl rfl rfl fun ρ=>Ya5 TO.at rfl 60 _ _ _ _ fun ρ'=>q
end
end
section
variable {w:World}{s:Shared}{d:Nat}{X:QX}{Q:QE}{σ:Hp}
theorem Yvk {x:Yaq}{jk jk2:Hp}{l:Nat}{o:Yaq}(h:(σ++x::jk)[l]?=some o):(σ++x::(jk++jk2))[l]?=some o:=by
 rw [show σ++x::(jk++jk2)=(σ++x::jk)++jk2 by simp]; exact Yab h
theorem Yuo {x y:Yaq}{jk jk2:Hp}:(σ++x::(jk++(y::jk2)))[(σ++x::jk).length]?=some y:=by
 rw [show σ++x::(jk++(y::jk2))=(σ++x::jk)++(y::jk2) by simp]; exact Ye0
noncomputable def tKV (L:List (Kid×V)):List ((Str×Int)×V):=L.map fun x=>((x.1.1,(x.1.2:Int)),x.2)
theorem Yh2 (L:List (Kid×V)) (k:Kid):((tKV L).any fun kv=>kv.1=(k.1,(k.2:Int)))=decide (k∈L.map (·.1)):=by
 induction L with
 | nil=>rfl
 | cons x r ih =>
   show (decide ((x.1.1,(x.1.2:Int))=(k.1,(k.2:Int))) || (tKV r).any fun kv=>kv.1=(k.1,(k.2:Int)))=_
   rw [ih,Bool.eq_iff_iff,Bool.or_eq_true,decide_eq_true_iff,decide_eq_true_iff,decide_eq_true_iff,Yfh,List.map_cons,Zg]
   exact or_congr_left eq_comm
theorem Ypb {L:List (Kid×V)}{k:Kid}{v:V}(h:k∉L.map (·.1)):Yb4 (tKV L) (k.1,(k.2:Int)) v=tKV (L++[(k,v)]):=by
 unfold Yb4
 rw [Yh2,Zrc h,if_neg Zv]
 unfold tKV
 rw [Zfc]; rfl
theorem Yvj {P:Prop}{L:List (Kid×V)}{k:Kid}(h:k∈L.map (·.1)) (c:∀ v,(k,v)∈L→((tKV L).find? fun kv=>kv.1=(k.1,(k.2:Int))).map (·.2)=some v→P):P:=by
 induction L with
 | nil=>exact absurd h Zdc
 | cons x r ih =>
   by_cases e:x.1=k
   · refine c x.2 (e▸Zt ..) ?_
     show (List.find? _ (((x.1.1,(x.1.2:Int)),x.2)::tKV r)).map _=_
     rw [List.find?_cons,Zmb (Yfh.mpr e)]; rfl
   · refine ih ((Zg.mp h).resolve_left fun q=>e q.symm) fun v h1 h2=>c v (Zd _ h1) ?_
     show (List.find? _ (((x.1.1,(x.1.2:Int)),x.2)::tKV r)).map _=_
     rw [List.find?_cons,Zrc fun q=>e (Yfh.mp q)]; exact h2
theorem Yf6 (L:List (Kid×V)):(tKV L).length=(L.map (·.1)).length:=by unfold tKV; rw [Zc,Zc]
noncomputable def AsR (Ak:Kid→List Kid→Prop) (σ:Hp) (L:List (Kid×V)):Prop:=∀ x∈L,∃ la as,x.2=.ref la∧σ[la]?=some (.list (as.map pV'))∧Ak x.1 as
theorem AsR.keep {Ak:Kid→List Kid→Prop}{σ':Hp}{L:List (Kid×V)}(h:AsR Ak σ L) (k:∀ (l:Nat) (vs:List V),σ[l]?=some (.list vs)→σ'[l]?=some (.list vs)):AsR Ak σ' L:=fun x hx=>by
 obtain ⟨la,as,h1,h2,h3⟩:=h x hx
 exact ⟨la,as,h1,k _ _ h2,h3⟩
theorem AsR.snoc {Ak:Kid→List Kid→Prop}{L:List (Kid×V)}{k:Kid}{la:Nat}{as:List Kid}(h:AsR Ak σ L) (hl:σ[la]?=some (.list (as.map pV'))) (ak:Ak k as):AsR Ak σ (L++[(k,.ref la)]):=fun x hx=>(Zm.mp hx).elim (h x) fun hx=>by rw [Zj.mp hx]; exact ⟨la,as,rfl,hl,ak⟩
theorem Ya2.fresh {xs:List (Kid×An Kid)}{kvs:List ((Str×Int)×V)}{x:Yaq}(h:Ya2 σ [] xs kvs):Ya2 (σ++[x]) [σ.length] xs kvs:=h.keep ⟨fun l o e zz=>Yab e,fun l hl hlt=>absurd hlt (by rw [Zj.mp hl]; exact Zub _)⟩
section
variable {rs:List (Str×Pt)}{cs:List Nat}{p:Ps}{mem:Mm}{xs:List Int}{l:Nat}
theorem Yud {a:An Kid}{e:Nat}{us:List Kid}(h:nrm (some a)=(some e,us)):a=(some e,us):=by
 obtain ⟨x,ks⟩:=a
 cases x with
 | none=>cases h
 | some e'=>exact h
theorem Yvx (a:An Kid):anO (nrm (some a))=anO a:=by
 obtain ⟨x,us⟩:=a
 cases x <;> rfl
theorem Ytt {x:Kid×An Kid}(v:Gv rs cs) (h:Rr rs cs p mem σ) (hx:x∈tl mem):∃ a,Yap mem.kept x.1=some a∧x.2=nrm (some a):=by
 obtain ⟨k,hk,rfl⟩:=Zsb.mp hx
 obtain ⟨a,ha⟩:=(Ybx h v).2.1 k hk
 exact ⟨a,ha,congrArg nrm ha⟩
theorem Y0o (v:Gv rs cs) (h:Rr rs cs p mem σ):KW cs (Yap (tl mem)):=fun k e us hk=>by
 obtain ⟨a,ha,e2⟩:=Ytt v h (Yre hk)
 have:=Yud (show nrm (some a)=(some e,us) from e2.symm)
 rw [this] at ha
 have hf:=h.mc.fit k _ ha
 exact ⟨hf.1,hf.2.1⟩
theorem Yz0 (v:Gv rs cs) (h:Rr rs cs p mem σ):∀ x∈tl mem,Yza cs.length x.1 x.2:=fun x hx=>by
 obtain ⟨k,hk,rfl⟩:=Zsb.mp hx
 have hr:=(h.mc.rng k hk).2
 obtain ⟨a,ha⟩:=(Ybx h v).2.1 k hk
 show Yza cs.length k (nrm (Yap mem.kept k))
 rw [ha]
 obtain ⟨x,us⟩:=a
 cases x with
 | none=>exact ⟨hr,(fun e he=>by cases he),fun x hx=>absurd hx Zdc,Zkb _⟩
 | some e =>
   have hf:=h.mc.fit k _ ha
   refine ⟨hr,(fun e' he=>by cases he; exact ⟨hf.1,hf.2.1⟩),fun x hx=>?_,(Ybx h v).2.2 k _ ha⟩
   obtain ⟨zz,e1,us',zz,g1,g2⟩:=(Ypu h.mc h.mi ha).1.at x hx
   exact Za g1 (Za g2 hf.2.1)
theorem Yri (TO:Yag (T09 w s)) (v:Gv rs cs) (h:Rr rs cs p mem σ) {lo le:Nat}{vs:List V}{jk:Hp}(hE:EnR lo (σ++.list vs::jk) (tl mem) vs) (he:le=σ.length)
   (q:∀ kvs jk2 τ lt,τ=(σ++.list vs::jk)++.tdict kvs::jk2→lt=(σ++.list vs::jk).length→τ[lt]?=some (.tdict kvs)→Ya2 τ [] (tl mem) kvs→Q (.ref lt) τ):Yaa (T09 w s) (d+4) X (.glob "_law_told") [.ref le,.int cs.length] Q (σ++.list vs::jk):=by
 subst he
 refine Yu2 TO Ye0 hE (by unfold tl; rw [Zc]; exact (Ybx h v).1) (Yz0 v h) (fun i k a hi=>Yvs h.mc.nodup hi) fun kvs jk2 hk=>?_
 exact q kvs jk2 _ _ rfl rfl Ye0 hk
theorem Ynw {P:Prop}{k:Kid}{a:An Kid}(v:Gv rs cs) (h:Rr rs cs p mem σ) (hm:(k,a)∈tl mem) (c:∀ (pr:Str×Pt) (as:List Kid),pr∈rs→pr.1=k.1→k.2≤cs.length→Rv cs (Yap (tl mem)) pr.2 k.2 (anO a) as→AkR cs (Yan rs) (Yap mem.kept) k as→as.length≤8000000→P):P:=by
 obtain ⟨a0,g1,e0⟩:=Ytt v h hm
 have g1:Yap mem.kept k=some a0:=g1
 have e0:a=nrm (some a0):=e0
 obtain ⟨hkn,hkl⟩:=h.mc.rng k (h.mi.kin k _ g1)
 obtain ⟨pr,hpr,hpe⟩:=Zsb.mp hkn
 obtain ⟨as,rv,zz⟩:=h.mi.rv g1
 have ak:AkR cs (Yan rs) (Yap mem.kept) k as:=⟨a0,g1,rv⟩
 have hpo:Yan rs k.1=pr.2:=by rw [← hpe]; exact Ycr v.hg.nodup hpr
 rw [hpo] at rv
 have rv2:=rv.told (K':=Yap (tl mem)) fun k a h'=>Yw8 h.mi h'
 rw [← Yvx,← e0] at rv2
 refine c pr as hpr hpe hkl rv2 ak (Za ((h.kp v).asks ak).1 ?_)
 have:=Yxj _ 149 (Za (Nat.sub_le cs.length k.2) v.hc)
 exact Za (Zcb this this) (by decide)
inductive Ypa (Ak:Kid→List Kid→Prop) (mem:Mm) (σ:Hp) (cs:List Nat) (pd lt:Nat) (i:Nat) (ρ':Loc) (σ':Hp):Prop where
 | mk (L:List (Kid×V)) (jk:Hp) (e:σ'=σ++.tdict (tKV L)::jk) (hk:L.map (·.1)=mem.order.take i) (hA:AsR Ak σ' L) (has:Has ρ' [("_law_parts",.ref pd),("_law_signs",.str (S cs)),("_law_told_here",.ref lt),("_law_asks_here",.ref σ.length)]):Ypa Ak mem σ cs pd lt i ρ' σ'
theorem Ypa.use {P:Prop}{Ak:Kid→List Kid→Prop}{pd lt i:Nat}{ρ':Loc}{σ':Hp}(h:Ypa Ak mem σ cs pd lt i ρ' σ') (c:∀ (L:List (Kid×V)) (jk:Hp),σ'=σ++.tdict (tKV L)::jk→L.map (·.1)=mem.order.take i→AsR Ak σ' L→Has ρ' [("_law_parts",.ref pd),("_law_signs",.str (S cs)),("_law_told_here",.ref lt),("_law_asks_here",.ref σ.length)]→P):P:=h.rec fun L jk e hk hA has=>c L jk e hk hA has
theorem Yx6 {i:Nat}{k:Kid}{a:An Kid}(h:(tl mem)[i]?=some (k,a)):mem.order[i]?=some k:=by
 unfold tl at h
 rw [Zdb] at h
 exact (Zpb.mp h).elim fun x q=>q.1.trans (congrArg some (congrArg Prod.fst q.2))
theorem Yy0 {o:List Kid}(hn:o.Nodup) {i:Nat}{k:Kid}(h:o[i]?=some k):k∉o.take i:=by
 have e:o=o.take i++k::o.drop (i+1):=by
   have:=Zb.mp h
   exact this.elim fun hi e=>by rw [← e,List.getElem_cons_drop,List.take_append_drop]
 rw [e] at hn
 exact fun hm=>(List.nodup_append.mp hn).2.2 k hm k (Zt ..) rfl
theorem Ypm (TO:Yag (T09 w s)) (v:Gv rs cs) {τ:Hp}(h:Rr rs cs p mem τ) {le lo pd lt:Nat}{vs:List V}{kvs:List ((Str×Int)×V)}(hl:σ[le]?=some (.list vs)) (hE:EnR lo σ (tl mem) vs) (hpd:σ[pd]?=some (.sdict (Yb9 rs))) (ht:σ[lt]?=some (.tdict kvs)) (hk:Ya2 σ [] (tl mem) kvs)
   (q:∀ L jk,L.map (·.1)=mem.order→AsR (AkR cs (Yan rs) (Yap mem.kept)) (σ++.tdict (tKV L)::jk) L→Q (.ref σ.length) (σ++.tdict (tKV L)::jk)):Yaa (T09 w s) (d+28) X (.glob "_law_asks") [.ref le,.ref pd,.str (S cs),.ref lt] Q σ:=by
 refine Yaa.goX TO rfl rfl ?_
 refine Yda.cutAt 1 (fun ρ' σ'=>Has ρ' [("_law_entries",.ref le),("_law_parts",.ref pd),("_law_signs",.str (S cs)),("_law_told_here",.ref lt),("_law_asks_here",.ref σ.length)]∧σ'=σ++[.sdict []]) (Ya5 TO rfl 60 _ _ _ _ ⟨⟨rfl,rfl,rfl,rfl,rfl,trivial⟩,rfl⟩) fun ρ₁ σ₁ hJ=>?_
 apply Has.on hJ.1
 apply Yao hJ.2
 refine Yda.retag (k:=σ.length) Yac ?_
 rw [Yb7]
 refine Ya5 TO rfl 60 _ _ _ _<|Ycb.mk vs (Ypa (AkR cs (Yan rs) (Yap mem.kept)) mem σ cs pd lt) ⟨[],[],rfl,rfl,fun x hx=>absurd hx Zdc,⟨rfl,rfl,rfl,rfl,trivial⟩⟩ (fun i ρ' σ' hJ=>hJ.use fun L jk e zz zz zz=>e▸Yav (Yab hl)) (fun ρ' σ' hJ=>hJ.use fun L jk e hL hA has=>?_) fun i y ρ' σ' hJ hy=>hJ.use fun L jk e hL hA has=>(hE.at hy).elim fun ky hh=>hh.elim fun ay hh=>hh.elim fun ly hh=>?_
 · apply Has.on has
   rw [List.take_of_length_le (by rw [hE.length]; unfold tl; rw [Zc]; exact Zl _)] at hL
   rw [e] at hA ⊢
   exact q L jk hL hA
 · apply Has.on has
   apply Yao hh.2.1
   rw [e] at hA
   apply Yao e
   have y1:=hh.1
   clear hh e hy hJ
   have hko:=Yx6 y1
   have hnew:ky∉L.map (·.1):=hL▸Yy0 h.mc.nodup hko
   refine Ynw v h (Zn y1) fun pr as hpr hpe hkl rv ak few=>?_
   refine ⟨_,rfl,Ya5 TO rfl 60 _ _ _ _ ?_⟩
   refine Cmp.inD (r:=true) (Yab (Yab hpd)) (hpe▸List.any_eq_true.mpr ⟨(pr.1,pr.2.v),Zsb.mpr ⟨pr,hpr,rfl⟩,Zmb rfl⟩) ?_
   refine Itm.dict (Yab (Yab hpd)) (hpe▸Yjl v.hg.nodup hpr) ?_
   have hk2:Ya2 (σ++.tdict (tKV L)::jk) [] (tl mem) kvs:=hk.up
   have e1:(σ++Yaq.tdict (tKV L)::jk++[Yaq.list []]).set (σ++Yaq.tdict (tKV L)::jk).length (.list ([]++as.map pV'))=σ++.tdict (tKV L)::(jk++[.list (as.map pV')]):=by rw [Yb7,List.nil_append,Ze]; rfl
   have fw:(tKV L).length≤sizeLine:=by rw [Yf6,hL]; exact szo (Za (Zic ..) (Za (Ybx h v).1 (by decide)))
   have fin:∀ {ρ:Loc}(jk2:Hp),Has ρ [("_law_parts",.ref pd),("_law_signs",.str (S cs)),("_law_told_here",.ref lt),("_law_asks_here",.ref σ.length)]→Ypa (AkR cs (Yan rs) (Yap mem.kept)) mem σ cs pd lt (i+1) ρ ((σ++Yaq.tdict (tKV L)::(jk++[.list (as.map pV')])++jk2).set σ.length (.tdict (Yb4 (tKV L) (ky.1,(ky.2:Int)) (.ref (σ++Yaq.tdict (tKV L)::jk).length)))):=fun {ρ} jk2 has=>by
     rw [Ypb hnew,Yke]
     rw [Ze]
     exact ⟨_,_,rfl,by rw [Zfc,hL,Ya3 hko]; rfl,(hA.keep fun l vs g=>Yhk (Yvk g)).snoc (Yhk (a:=tKV L) Yuo) ak,has⟩
   have go:∀ {K:QS}{ρ:Loc}(jk2:Hp),(∀ τ,(σ++Yaq.tdict (tKV L)::(jk++[.list (as.map pV')])++jk2).set σ.length (.tdict (Yb4 (tKV L) (ky.1,(ky.2:Int)) (.ref (σ++Yaq.tdict (tKV L)::jk).length)))=τ→K .next ρ τ)→Yas ρ K (.ref (σ++Yaq.tdict (tKV L)::jk).length) (.ref σ.length) (.tup [.str ky.1,.int ky.2]) (σ++Yaq.tdict (tKV L)::(jk++[.list (as.map pV')])++jk2):=fun {K ρ} jk2 h=>Yas.pair (k:=(ky.1,(ky.2:Int))) (Yab Ye0) fw (h _ rfl)
   refine Cal.mk<|Yqz (d:=d) TO (Y0o v h) v.hc 12 pr.2 ky.2 (anO ay) as [] _ _ _ (v.hg.all pr hpr).deep rv hkl (v.hw pr hpr) ⟨kvs,Yac,Yab (Yab ht),hk2.fresh⟩ (by rw [List.length_nil,Nat.zero_add]; exact Za few (by decide)) ⟨fun ho l' jk2 hl'=>?_,fun e ks ho l' jk2 hl'=>?_⟩
   · rw [e1]
     exact Evx.mk<|Yai.tupTo (Yai.nm rfl rfl rfl (Yai.int ⟨_,2,rfl,rfl,by decide,(show 2 < 4 by decide),sz 4 rfl,go jk2 fun τ e=>e▸fin jk2 ⟨rfl,rfl,rfl,rfl,trivial⟩⟩))
   · rw [e1]
     exact Evx.mk<|Yai.tupTo (Yai.nm rfl rfl rfl (Yai.int ⟨_,2,rfl,rfl,by decide,(show 2 < 4 by decide),sz 4 rfl,go jk2 fun τ e=>e▸fin jk2 ⟨rfl,rfl,rfl,rfl,trivial⟩⟩))
end
end
section
variable {w:World}{s:Shared}{d:Nat}{X:QX}{Q:QE}{σ:Hp}
noncomputable def Yj4 (o:List Kid):List (Kid×V):=o.map fun k=>(k,.bool true)
theorem Yb0 (o:List Kid):(Yj4 o).map (·.1)=o:=by
 unfold Yj4
 rw [List.map_map]; exact (List.map_congr_left fun z1 z2=>rfl).trans (List.map_id o)
theorem DfsN.le {Ak:Kid→List Kid→Prop}{n:Nat}{r o o':List Kid}(h:DfsN Ak n r o o'):o.length≤o'.length:=by
 induction h with
 | nil=>exact Zl _
 | old z1 z2 ih=>exact ih
 | new z1 z2 z3 ih=>exact Za (Zf▸Zy ..) ih
theorem Yz1 {b:Bool}{A B:Prop}(h:b=true) (q:A):if b=true then A else B:=by rw [if_pos h]; exact q
theorem Ysg {k:Kid}{st:List Kid}:((k::st).map pV').reverse=(st.map pV').reverse++[pV' k]:=by rw [List.map_cons,List.reverse_cons]
theorem Cmp.ninN {k:Str×Int}{l:Nat}{kvs:List ((Str×Int)×V)}(h:σ[l]?=some (.tdict kvs)) (e:(kvs.any fun kv=>kv.1=k)=false) (q:Q (.bool true) σ):Cmp .NotIn (.tup [.str k.1,.int k.2]) (.ref l) Q σ:=Cmp.pairs (neg:=true) h (by rw [e]; exact q)
theorem Cmp.inP {k:Str×Int}{l:Nat}{kvs:List ((Str×Int)×V)}(h:σ[l]?=some (.tdict kvs)) (e:(kvs.any fun kv=>kv.1=k)=true) (q:Q (.bool true) σ):Cmp .In (.tup [.str k.1,.int k.2]) (.ref l) Q σ:=Cmp.pairs (neg:=false) h (by rw [e]; exact q)
theorem Yil {T:Tp}{sc scope:Scope}{ρ:Loc}{x:Str}{elt:Expr}{v:V}{items us:List V}(hI:Yef σ v=some items) (hl:us.length=items.length) (hn:us.length≤sizeLine) (he:∀ (i:Nat) (y:V),items[i]?=some y→∃ u,us[i]?=some u∧Yai T d (Yfa scope sc) (upd (Ybc scope ρ) x (some y)) X elt (fun z σ'=>z=u∧σ'=σ) σ) (q:Q (.ref σ.length) (σ++[.list us])):Ybv T d sc ρ X scope x [] elt Q v σ:=by
 refine ⟨items,fun i acc σ'=>acc=us.take i∧σ'=σ,⟨rfl,rfl⟩,fun i acc σ' hJ=>⟨by rw [hJ.2]; exact hI,by rw [hJ.1]; exact Za (Zic ..) hn⟩,fun acc σ' hJ=>by rw [hJ.1,hJ.2,← hl,Zgc]; exact q,fun i y acc σ' hJ hy=>?_⟩
 rw [hJ.2]
 exact (he i y hy).elim fun u h=>h.2.mon fun z σ'' g=>⟨by rw [hJ.1,g.1]; exact (Ya3 h.1).symm,g.2⟩
theorem DfsN.use {P:Prop}{Ak:Kid→List Kid→Prop}{n:Nat}{st o o':List Kid}(h:DfsN Ak n st o o'):(st=[]→o=o'→P)→(∀ m k r,n=m+1→st=k::r→(k∈o→DfsN Ak m r o o')→(k∉o→∃ as,Ak k as∧DfsN Ak m (as++r) (o++[k]) o')→P)→P :=
 h.rec (fun c0 c=>c0 rfl rfl) (fun hk hw z1 c0 c=>c _ _ _ rfl rfl (fun zz=>hw) fun g=>absurd hk g) fun hk ha hw z1 c0 c=>c _ _ _ rfl rfl (fun g=>absurd g hk) fun zz=>⟨_,ha,hw⟩
structure Wq (σ:Hp) (lo lw:Nat) (o st:List Kid) (σ':Hp):Prop where
 keep:∀ x ob,σ[x]?=some ob→x≠lo→σ'[x]?=some ob
 ord:σ'[lo]?=some (.tdict (tKV (Yj4 o)))
 wt:σ'[lw]?=some (.list (st.map pV').reverse)
 len:σ.length≤lw
section
variable {σ':Hp}{lo lw:Nat}{o st as:List Kid}{k:Kid}
theorem Wq.ne (h:Wq σ lo lw o st σ'):lw≠lo:=fun e=>by have:=h.wt; rw [e,h.ord] at this; cases this
theorem Wq.pop (h:Wq σ lo lw o (k::st) σ'):Wq σ lo lw o st (σ'.set lw (.list (st.map pV').reverse)) :=
 ⟨fun x ob g hx=>by rw [Zi fun (e:lw=x)=>Zub _ (Zz (Zb.mp g).1 (e▸h.len))]; exact h.keep x ob g hx,by rw [Zi h.ne]; exact h.ord,Zw (Zb.mp h.wt).1,h.len⟩
theorem Wq.add (h:Wq σ lo lw o st σ') (hk:k∉o):Wq σ lo lw (o++[k]) st (σ'.set lo (.tdict (Yb4 (tKV (Yj4 o)) (k.1,(k.2:Int)) (.bool true)))) :=
 ⟨fun x ob g hx=>by rw [Zi (Ne.symm hx)]; exact h.keep x ob g hx,by rw [Zw (Zb.mp h.ord).1,Ypb (by rw [Yb0]; exact hk)]; unfold Yj4; rw [Zfc]; rfl,by rw [Zi h.ne.symm]; exact h.wt,h.len⟩
theorem Wq.push (h:Wq σ lo lw o st σ'):Wq σ lo (σ'++[Yaq.list (as.map pV').reverse]).length o (as++st) (σ'++[.list (as.map pV').reverse]++[.list ((st.map pV').reverse++(as.map pV').reverse)]) :=
 ⟨fun x ob g hx=>Yab (Yab (h.keep x ob g hx)),Yab (Yab h.ord),by rw [Zfc,List.reverse_append]; exact Yac,Za h.len (Za (Zq (Zb.mp h.wt).1) (Zf▸Zy ..))⟩
end
inductive Yxl (Ak:Kid→List Kid→Prop) (ph:Kid→Nat) (ks o':List Kid) (σ:Hp) (la lo:Nat) (n:Nat) (ρ':Loc) (σ':Hp):Prop where
 | mk (st o:List Kid) (lw:Nat) (h1:DfsN Ak n st o o') (h2:Fit ph 12000000 st) (h3:∀ k∈st,k∈ks) (h4:Wq σ lo lw o st σ') (has:Has ρ' [("_law_asks_here",.ref la),("_law_order_here",.ref lo),("_law_waiting",.ref lw)]):Yxl Ak ph ks o' σ la lo n ρ' σ'
theorem szW {st:List Kid}{m:Nat}(h:m+st.length≤12000001):(st.map pV').reverse.length+m≤sizeLine:=by rw [Zec,Zc,Nat.add_comm]; exact szo (Za h (by decide))
section
variable {rs:List (Str×Pt)}{cs:List Nat}{mem:Mm}
theorem Yle (TO:Yag (T09 w s)) (kp:Kp (Yan rs) cs rs mem) {k0:Kid}{o o':List Kid}{L:List (Kid×V)}{la lo:Nat}(hd:Dfs (AkR cs (Yan rs) (Yap mem.kept)) [k0] o o') (hk0:k0∈mem.order) (hL:L.map (·.1)=mem.order) (hA:AsR (AkR cs (Yan rs) (Yap mem.kept)) σ L) (hla:σ[la]?=some (.tdict (tKV L))) (hlo:σ[lo]?=some (.tdict (tKV (Yj4 o)))) (hne:la≠lo) (hz:o'.length≤5000000)
   (q:∀ σ',(∀ x ob,σ[x]?=some ob→x≠lo→σ'[x]?=some ob)→σ'[lo]?=some (.tdict (tKV (Yj4 o')))→Q (.ref lo) σ'):Yaa (T09 w s) (d+1) X (.glob "_law_order") [pV' k0,.ref la,.ref lo] Q σ:=by
 refine hd.cnt.elim fun n0 hn0=>Yaa.go TO rfl rfl ?_
 refine Stx.mk<|Ybe.while (Yxl (AkR cs (Yan rs) (Yap mem.kept)) (phi cs.length (lvR rs)) mem.order o' σ la lo) n0 ⟨[k0],o,σ.length,hn0,.cons (by rw [List.length_nil,Nat.zero_add]; exact Ywa (kp.l5 _) kp.hl) .nil,fun k hk=>Zj.mp hk▸hk0,⟨fun x ob g zz=>Yab g,Yab hlo,Yac,Zl _⟩,⟨rfl,rfl,rfl,trivial⟩⟩ ?_
 rintro n ρ' σ₂ ⟨st,oc,lw,h1,h2,h3,h4,has⟩
 rw [← has.eq]
 refine h1.use (fun e1 e2=>?_) fun m k st' en es hold hnew=>?_
 · rw [e1] at h4
   rw [e2] at h4
   exact Yd7 TO rfl 40 10 _ _ _<|Cal.len (n:=0) (Yd0 h4.wt rfl) (by decide)<|q σ₂ h4.keep h4.ord
 · have hoc:=h1.le
   rw [es] at h2 h3 h4
   refine Yd7 TO rfl 40 10 _ _ _<|Cal.len (n:=st'.length+1) (Yd0 h4.wt (by rw [Zec,Zc]; rfl)) (Zk h2.len (by decide)) ?_
   refine Yz1 (b:=decide (((st'.length+1:Nat):Int) > 0)) (Zmb (Zfb.mpr (Nat.succ_pos _))) ?_
   refine Ya5 TO rfl 60 _ _ _ _ ?_
   have h6:=h4.wt
   rw [Ysg] at h6
   refine Yak.pop h6<|Cal.mk<|Yaa.pop h6 (by rw [sizeLine_eq,Zec,Zc]; exact Zz h2.len (by decide)) ?_
   have h5:=h4.pop
   clear h6 h4
   generalize σ₂.set lw (.list (st'.map pV').reverse)=σ₃ at h5
   by_cases hk:k∈oc
   · refine Cmp.ninP (k:=(k.1,(k.2:Int))) h5.ord (by rw [Yh2,Yb0]; exact Zmb hk) ?_
     exact ⟨m,en▸Zs m,st',oc,lw,hold hk,h2.out.2,fun x hx=>h3 x (Zd _ hx),h5,⟨rfl,rfl,rfl,trivial⟩⟩
   · refine (hnew hk).elim fun as hw=>hw.elim fun ha hw=>?_
     have kin:k∈L.map (·.1):=hL▸h3 k (Zt ..)
     refine Cmp.ninN (k:=(k.1,(k.2:Int))) h5.ord (by rw [Yh2,Yb0]; exact Zrc hk) ?_
     refine Cmp.inP (k:=(k.1,(k.2:Int))) (h5.keep _ _ hla hne) (by rw [Yh2]; exact Zmb kin) ?_
     refine Yas.pair (k:=(k.1,(k.2:Int))) h5.ord (by rw [Yf6,Yb0]; exact szo (Za hoc (Za hz (by decide)))) ?_
     refine Yvj kin fun u hu1 hu2=>?_
     refine (hA _ hu1).elim fun lu hh=>hh.elim fun as2 hh=>?_
     have ft:Fit (phi cs.length (lvR rs)) 12000000 (as++st'):=h2.push (kp.phi ha)
     have fl:as.length+st'.length≤12000001:=Zf▸ft.len
     have g7:=hh.2.1
     rw [AkR.det (Agr.refl _) hh.2.2 ha] at g7
     have h7:=h5.add hk
     have g9:=h7.keep _ _ g7 fun e=>by rw [e,hlo] at g7; cases g7
     have g10:=h7.keep _ _ hla hne
     clear h5 g7
     generalize σ₃.set lo (.tdict (Yb4 (tKV (Yj4 oc)) (k.1,(k.2:Int)) (.bool true)))=σ₄ at h7 g9 g10
     refine Evx.mk<|Yai.compI rfl rfl rfl (Yko.reversed TO (Yai.glob TO ⟨rfl,rfl⟩ rfl rfl rfl) rfl ?_)
     refine Yc9 TO rfl 40 _ _ _<|Itm.pair (k:=(k.1,(k.2:Int))) g10 hu2 ?_
     refine ⟨lu,_,hh.1,g9,.inl rfl,Yil (us:=(as.map pV').reverse) (Yk3 g9) rfl (szW (m:=0) (by rw [Nat.zero_add]; exact Za (Zy ..) fl)) (fun i y hy=>⟨y,hy,Yc9 TO rfl 40 _ _ _ ⟨rfl,rfl⟩⟩) ?_⟩
     refine Bin.lists (Yab h7.wt) Yac (by rw [Zec (as:=as.map pV'),Zc (as:=as)]; exact szW fl) ?_
     exact ⟨m,en▸Zs m,as++st',oc++[k],_,hw,ft,fun x hx=>(Zm.mp hx).elim (fun m=>((kp.asks ha).2 x m).1.elim fun a hka=>kp.hi.kin x a hka) fun m=>h3 x (Zd _ m),h7.push,⟨rfl,rfl,rfl,trivial⟩⟩
end
end
section
variable {w:World}{s:Shared}{d:Nat}{X:QX}{Q:QE}{σ σ':Hp}
inductive Yeu (lo:Nat) (o:List Kid) (σ:Hp):Prop where
 | t (h:σ[lo]?=some (.tdict (tKV (Yj4 o)))):Yeu lo o σ
 | s (h:σ[lo]?=some (.sdict [])) (e:o=[]):Yeu lo o σ
theorem Yeu.elim {P:Prop}{lo:Nat}{o:List Kid}(h:Yeu lo o σ) (c1:σ[lo]?=some (.tdict (tKV (Yj4 o)))→P) (c2:σ[lo]?=some (.sdict [])→o=[]→P):P:=by
 cases h with
 | t g=>exact c1 g
 | s g e=>exact c2 g e
structure W9 (p p2:Ps) (os:List (Nat×Yaq)) (lo:Nat):Prop where
 ap:Ap p
 ap2:Ap p2
 u:p.u=p2.b
 u2:p2.u=p.b
 d:∀ x∈lo::(p2.fx++os.map (·.1)),x∉p.own
 d2:∀ x∈lo::(p.fx++os.map (·.1)),x∉p2.own
 n:∀ x∈p.b::p.fx,x≠lo
 n2:∀ x∈p2.b::p2.fx,x≠lo
 no:∀ x∈os.map (·.1),x≠lo
structure S9 (rs:List (Str×Pt)) (cs:List Nat) (p p2:Ps) (os:List (Nat×Yaq)) (lo:Nat) (o:List Kid) (mem mem2:Mm) (σ:Hp):Prop where
 h:Rr rs cs p mem σ
 h2:Rr rs cs.reverse p2 mem2 σ
 ob:∀ x∈os,σ[x.1]?=some x.2
 ord:Yeu lo o σ
section
variable {rs:List (Str×Pt)}{cs cs':List Nat}{p p2:Ps}{os:List (Nat×Yaq)}{lo:Nat}{o o':List Kid}{mem mem2 mem':Mm}{k:Kid}
theorem Rr.b (h:Rr rs cs p mem σ):σ[p.b]?=some (.list (mem.order.map pV')):=Yd4.use h.hm fun kvs h1 h2 h3 h4=>h3
theorem mem4 {P:Prop}{a b c d x:Nat}(h:x∈[a,b,c,d]) (h1:x=a→P) (h2:x=b→P) (h3:x=c→P) (h4:x=d→P):P:=(Zg.mp h).elim h1 fun h=>(Zg.mp h).elim h2 fun h=>(Zg.mp h).elim h3 fun h=>h4 (Zj.mp h)
theorem Rr.beside (h:Rr rs cs p mem σ) (h2:Rr rs cs' p2 mem2 σ) (u:p.u=p2.b) (u2:p2.u=p.b) (dd:∀ x∈p2.fx,x∉p.own) (af:Af rs cs p (mem2.order.map pV') mem k σ mem' σ'):Rr rs cs' p2 mem2 σ':=by
 refine h2.keep (fun x hx o g=>af.on.keep _ _ g (dd x hx)) (fun o g=>((u▸af.hu:σ'[p2.b]?=_).trans h2.b.symm).trans g) fun x vs g hx=>af.on.keep _ _ g fun hm=>?_
 refine Yd4.use h.hm fun kvs h1 h2' h3 h4=>mem4 hm (fun e=>?_) (fun e=>?_) (fun e=>hx ?_) fun e=>hx ?_
 · rw [e,h1] at g; cases g
 · rw [e,h2'] at g; cases g
 · exact e.trans u2.symm▸.tail _ (.tail _ (.tail _ (.head _)))
 · exact e.trans u▸.tail _ (.tail _ (.head _))
theorem S9.up {jk:Hp}(h:S9 rs cs p p2 os lo o mem mem2 σ):S9 rs cs p p2 os lo o mem mem2 (σ++jk) :=
 ⟨h.h.up,h.h2.up,fun x hx=>Yab (h.ob x hx),h.ord.elim (fun g=>.t (Yab g)) fun g e=>.s (Yab g) e⟩
theorem S9.hu (h:S9 rs cs p p2 os lo o mem mem2 σ) (W:W9 p p2 os lo):σ[p.u]?=some (.list (mem2.order.map pV')):=W.u▸h.h2.b
theorem S9.hu2 (h:S9 rs cs p p2 os lo o mem mem2 σ) (W:W9 p p2 os lo):σ[p2.u]?=some (.list (mem.order.map pV')):=W.u2▸h.h.b
theorem Yeu.on {τ:Hp}(h:Yeu lo o σ) (k:∀ ob,σ[lo]?=some ob→τ[lo]?=some ob):Yeu lo o τ:=h.elim (fun g=>.t (k _ g)) fun g e=>.s (k _ g) e
theorem S9.read (W:W9 p p2 os lo) (h:S9 rs cs p p2 os lo o mem mem2 σ) (af:Af rs cs p (mem2.order.map pV') mem k σ mem' σ'):S9 rs cs p p2 os lo o mem' mem2 σ' :=
 ⟨af.h,h.h.beside h.h2 W.u W.u2 (fun x hx=>W.d x (Zd _ (Zxb _ hx))) af,fun x hx=>af.on.keep _ _ (h.ob x hx) (W.d _ (Zd _ (Zyb _ (Zsb.mpr ⟨x,hx,rfl⟩)))),h.ord.on fun ob g=>af.on.keep _ _ g (W.d _ (Zt ..))⟩
theorem S9.read2 (W:W9 p p2 os lo) (h:S9 rs cs p p2 os lo o mem mem2 σ) (af:Af rs cs.reverse p2 (mem.order.map pV') mem2 k σ mem' σ'):S9 rs cs p p2 os lo o mem mem' σ' :=
 ⟨h.h2.beside h.h W.u2 W.u (fun x hx=>W.d2 x (Zd _ (Zxb _ hx))) af,af.h,fun x hx=>af.on.keep _ _ (h.ob x hx) (W.d2 _ (Zd _ (Zyb _ (Zsb.mpr ⟨x,hx,rfl⟩)))),h.ord.on fun ob g=>af.on.keep _ _ g (W.d2 _ (Zt ..))⟩
theorem Yeu.noL {vs:List V}(h:Yeu lo o σ) (g:σ[lo]?=some (.list vs)):False:=h.elim (fun e=>by rw [e] at g; cases g) fun e zz=>by rw [e] at g; cases g
theorem S9.set (W:W9 p p2 os lo) (h:S9 rs cs p p2 os lo o mem mem2 σ) (k:∀ x ob,σ[x]?=some ob→x≠lo→σ'[x]?=some ob) (ho:σ'[lo]?=some (.tdict (tKV (Yj4 o')))):S9 rs cs p p2 os lo o' mem mem2 σ' :=
 have kl:∀ (x:Nat) (vs:List V),σ[x]?=some (.list vs)→σ'[x]?=some (.list vs):=fun x vs g=>k _ _ g fun e=>h.ord.noL (e▸g)
 ⟨h.h.keep (fun x hx o g=>k _ _ g (W.n x (.tail _ hx))) (fun o g=>k _ _ g (W.n _ (.head _))) fun x vs g zz=>kl x vs g,h.h2.keep (fun x hx o g=>k _ _ g (W.n2 x (.tail _ hx))) (fun o g=>k _ _ g (W.n2 _ (.head _))) fun x vs g zz=>kl x vs g,fun x hx=>k _ _ (h.ob x hx) (W.no _ (Zsb.mpr ⟨x,hx,rfl⟩)),.t ho⟩
theorem Yjk (TO:Yag (T09 w s)) (kp:Kp (Yan rs) cs rs mem) {k0:Kid}{L:List (Kid×V)}{la:Nat}(hd:Dfs (AkR cs (Yan rs) (Yap mem.kept)) [k0] o o') (hk0:k0∈mem.order) (hL:L.map (·.1)=mem.order) (hA:AsR (AkR cs (Yan rs) (Yap mem.kept)) σ L) (hla:σ[la]?=some (.tdict (tKV L))) (hlo:Yeu lo o σ) (hne:la≠lo) (hz:o'.length≤5000000)
   (q:∀ σ',(∀ x ob,σ[x]?=some ob→x≠lo→σ'[x]?=some ob)→σ'[lo]?=some (.tdict (tKV (Yj4 o')))→Q (.ref lo) σ'):Yaa (T09 w s) (d+1) X (.glob "_law_order") [pV' k0,.ref la,.ref lo] Q σ:=by
 refine hlo.elim (fun g=>Yle TO kp hd hk0 hL hA hla g hne hz q) fun g e=>Yaa.retagI g ?_
 have kp1:∀ x ob,σ[x]?=some ob→x≠lo→(σ.set lo (.tdict []))[x]?=some ob:=fun x ob h hx=>by rw [Zi (Ne.symm hx)]; exact h
 subst e
 exact Yle TO kp hd hk0 hL (hA.keep fun l vs h=>kp1 _ _ h fun e=>by rw [e,g] at h; cases h) (kp1 _ _ hla hne) (Zw (Zb.mp g).1) hne hz fun σ' k ho=>q σ' (fun x ob h hx=>k x ob (kp1 x ob h hx) hx) ho
theorem Yhi (o:List Kid):(tKV (Yj4 o)).map (fun kv=>kvT kv.1)=o.map pV':=by
 unfold tKV Yj4
 rw [List.map_map,List.map_map]; rfl
end
end
section
variable {w:World}{s:Shared}{d:Nat}{X:QX}{Q:QE}{σ σ':Hp}
noncomputable def Ywf (k:Kid):PyData:=.tuple [.str k.1,.int k.2]
theorem Yk4 {k:Kid}(h:sOk k.1):Yep σ (Ywf k) (pV' k):=.tup (.cons (.str h)<|.cons (.int _) .nil)
theorem Ymg {ks:List Kid}(h:∀ k∈ks,sOk k.1):Deeps σ (ks.map Ywf) (ks.map pV'):=by
 induction ks with
 | nil=>exact .nil
 | cons k r ih=>exact .cons (Yk4 (h k (Zt ..))) (ih fun x hx=>h x (Zd _ hx))
theorem kids_deep {ks:List Kid}{l:Nat}(h:∀ k∈ks,sOk k.1) (hl:σ[l]?=some (.list (ks.map pV'))):Yep σ (.list (ks.map Ywf)) (.ref l):=.list hl (Ymg h)
theorem dC {x:PyData}{xs:List PyData}{n:Nat}(h:x.depth≤n) (t:PyData.depthAll xs≤n):PyData.depthAll (x::xs)≤n:=Nat.max_le.mpr ⟨h,t⟩
theorem dN {n:Nat}:PyData.depthAll []≤n:=Zkb _
theorem dT {xs:List PyData}{n:Nat}(h:PyData.depthAll xs≤n):(PyData.tuple xs).depth≤n+1:=Zwb h
theorem dL {xs:List PyData}{n:Nat}(h:PyData.depthAll xs≤n):(PyData.list xs).depth≤n+1:=Zwb h
theorem Yn0 (k:Kid):(Ywf k).depth≤1:=dT (dC (Zkb _) (dC (Zkb _) dN))
theorem Ysy (ks:List Kid):PyData.depthAll (ks.map Ywf)≤1:=by
 induction ks with
 | nil=>exact dN
 | cons k r ih=>exact dC (Yn0 k) ih
theorem Ydr (ks:List Kid):(PyData.list (ks.map Ywf)).depth≤40:=Za (dL (Ysy ks)) (by decide)
theorem Yp4 (TO:Yag (T09 w s)) {o:List Kid}{lf ld:Nat}(hf:σ[lf]?=some (.list (o.map pV'))) (hd:σ[ld]?=some (.list (o.map pV'))) (hz:o.length≤5000000) (hs:∀ k∈o,sOk k.1) (q:∀ jk,Q (.bool true) (σ++jk)):Yaa (T09 w s) (d+1) X (.glob "_law_same") [.ref lf,.ref ld] Q σ:=by
 have h62:o.length < 2 ^ 62:=Zk hz (by decide)
 refine Yaa.go TO rfl rfl ?_
 refine Cal.isi (b:=true) (Yfo hf)<|Cal.len (n:=o.length) (Yd0 hf (Zc _)) h62<|Cal.len (n:=o.length) (Yd0 hd (Zc _)) h62<|?_
 refine Br.f (by simp) ?_
 have rl:((List.range (o.length:Int).toNat).map fun (k:Nat)=>V.int k).length=o.length:=by rw [Zc,List.length_range,Zzc]
 have h63:(o.length:Int) < 2 ^ 62:=Zfb.mpr h62
 have hz2:(o.map pV').length < 2 ^ 62:=by rw [Zc]; exact h62
 refine Cal.len (n:=o.length) (Yd0 hd (Zc _)) h62<|Cal.range<|Yhb (fun jk=>Yeo (Zvc _) h63) (Za (Zr rl) hz) (fun jk=>Cal.mk<|Yaa.all (bs:=List.replicate _ true) Yac (by rw [Ykv,Ze]; exact q _)) fun y hy jk=>(Zsb.mp hy).elim fun i hh=>?_
 apply Yao hh.2.symm
 refine Yc9 TO rfl 40 _ _ _ ?_
 have hi:i < o.length:=by have:=List.mem_range.mp hh.1; rw [Zzc] at this; exact this
 have hk:(o.map pV')[i]?=some (pV' o[i]):=by rw [Zdb,Zp hi]; rfl
 have D:=Yk4 (σ:=σ++jk) (hs o[i] (List.getElem_mem hi))
 refine Itm.mk<|Ycj (j:=i) (Yab hf) rfl hk hz2<|Cal.isi (b:=true) rfl<|Itm.mk<|Ycj (j:=i) (Yab hf) rfl hk hz2<|Itm.mk<|Ycj (j:=i) (Yab hd) rfl hk hz2<|Cmp.eqR D D (Za (Yn0 _) (by decide)) (PySem.SeqAt.eqv_refl _ D.lay) ⟨rfl,[],by rw [Zlc]⟩
end
section
variable {w:World}{s:Shared}{d:Nat}{X:QX}{Q:QE}{σ σ':Hp}
noncomputable abbrev nm9 (xs:List Int) (l pd:Nat) (cs:List Nat) (p p2:Ps) (lo:Nat):List (Str×V):=[("_law_script",.scr xs),("_law_rules",.ref l),("_law_parts",.ref pd),("_law_signs",.str (S cs)),("_law_grammar",.ref p.g),("_law_reading",.ref p.lr),("_law_beside",.ref p2.lr),("_law_order_here",.ref lo)]
section
variable {rs:List (Str×Pt)}{cs:List Nat}{p p2:Ps}{os:List (Nat×Yaq)}{lo l pd:Nat}{o:List Kid}{mem mem2:Mm}{xs:List Int}
theorem S9.lt (W:W9 p p2 os lo) (h:S9 rs cs p p2 os lo o mem mem2 σ):(∀ x∈p.own,x < σ.length)∧(∀ x∈p2.own,x < σ.length)∧lo < σ.length:=by
 refine ⟨(h.h.hm.nodup W.ap.bu (h.hu W)).2,(h.h2.hm.nodup W.ap2.bu (h.hu2 W)).2,?_⟩
 exact h.ord.elim (fun g=>(Zb.mp g).1) fun g zz=>(Zb.mp g).1
theorem W9.more {x:Nat×Yaq}(W:W9 p p2 os lo) (h:S9 rs cs p p2 os lo o mem mem2 σ) (hx:σ.length≤x.1):W9 p p2 (x::os) lo :=
 have g:=h.lt W
 have e:∀ {r:List Nat}{y:Nat}{P:Prop},y∈lo::(r++(x::os).map (·.1))→(y=x.1→P)→(y∈lo::(r++os.map (·.1))→P)→P:=fun {r y P} hy c1 c2=>(Zg.mp hy).elim (fun e=>c2 (Zg.mpr (.inl e))) fun hy=>(Zm.mp hy).elim (fun m=>c2 (Zd _ (Zxb _ m))) fun m=>(Zg.mp m).elim c1 fun m=>c2 (Zd _ (Zyb _ m))
 ⟨W.ap,W.ap2,W.u,W.u2,fun y hy=>e hy (fun q hm=>absurd (g.1 y hm) (Zo.mpr (q▸hx))) (W.d y),fun y hy=>e hy (fun q hm=>absurd (g.2.1 y hm) (Zo.mpr (q▸hx))) (W.d2 y),W.n,W.n2,fun y hy=>(Zg.mp hy).elim (fun q h=>absurd g.2.2 (Zo.mpr (h▸q▸hx))) (W.no y)⟩
theorem S9.more {x:Nat×Yaq}(h:S9 rs cs p p2 os lo o mem mem2 σ) (hx:σ[x.1]?=some x.2):S9 rs cs p p2 (x::os) lo o mem mem2 σ:=⟨h.h,h.h2,fun y hy=>(Zg.mp hy).elim (fun e=>e▸hx) (h.ob y),h.ord⟩
structure Ym3 (rs:List (Str×Pt)) (cs:List Nat) (mem:Mm) (k:Kid) (le lt:Nat) (σ:Hp):Prop where
 en:∃ vs lw,σ[le]?=some (.list vs)∧EnR lw σ (tl mem) vs
 td:∃ kvs,σ[lt]?=some (.tdict kvs)∧Ya2 σ [] (tl mem) kvs
 hk:k∈mem.order
theorem EnR.lists {lw:Nat}{xs:List (Kid×An Kid)}{vs:List V}{σ':Hp}(h:EnR lw σ xs vs) (k:∀ (l:Nat) (us:List V),σ[l]?=some (.list us)→σ'[l]?=some (.list us)):EnR lw σ' xs vs:=by
 induction h with
 | nil=>exact .nil
 | cons h hl t ih=>exact .cons (k _ _ h) hl ih
theorem Ym3.keep {k:Kid}{le lt:Nat}(h:Ym3 rs cs mem k le lt σ) (kp:∀ x ob,σ[x]?=some ob→x≠lo→σ'[x]?=some ob) (h1:Yeu lo o σ) (h2:lt≠lo):Ym3 rs cs mem k le lt σ':=by
 obtain ⟨⟨vs,lw,e1,e2⟩,⟨kvs,t1,t2⟩,hk⟩:=h
 have kl:∀ (x:Nat) (us:List V),σ[x]?=some (.list us)→σ'[x]?=some (.list us):=fun x us g=>kp _ _ g fun e=>h1.noL (e▸g)
 exact ⟨⟨vs,lw,kl _ _ e1,e2.lists kl⟩,⟨kvs,kp _ _ t1 h2,t2.all kl⟩,hk⟩
theorem Ym3.up {k:Kid}{le lt:Nat}{jk:Hp}(h:Ym3 rs cs mem k le lt σ):Ym3 rs cs mem k le lt (σ++jk):=by
 obtain ⟨⟨vs,lw,e1,e2⟩,⟨kvs,t1,t2⟩,hk⟩:=h
 exact ⟨⟨vs,lw,Yab e1,e2.up fun x o zz g=>Yab g⟩,⟨kvs,Yab t1,t2.up⟩,hk⟩
inductive La9 (rs:List (Str×Pt)) (cs:List Nat) (nms:List (Str×V)) (mem:Mm) (ρ':Loc) (σ':Hp):Prop where
 | mk (k:Kid) (le lt:Nat) (h:Ym3 rs cs mem k le lt σ') (has:Has ρ' (("_law_pair_here",pV' k)::("_law_entries",.ref le)::("_law_told_here",.ref lt)::nms)):La9 rs cs nms mem ρ' σ'
inductive J9 (rs:List (Str×Pt)) (cs:List Nat) (p p2:Ps) (os:List (Nat×Yaq)) (lo:Nat) (nms:List (Str×V)) (i:Nat) (ρ':Loc) (σ':Hp):Prop where
 | mk (mem mem2:Mm) (h:S9 rs cs p p2 os lo mem.order mem mem2 σ') (has:Has ρ' nms) (last:0 < i→La9 rs cs nms mem ρ' σ'):J9 rs cs p p2 os lo nms i ρ' σ'
inductive J9b (rs:List (Str×Pt)) (cs:List Nat) (p p2:Ps) (os:List (Nat×Yaq)) (lo:Nat) (nms:List (Str×V)) (ρ':Loc) (σ':Hp):Prop where
 | mk (mem mem' mem2:Mm) (k:Kid) (h:S9 rs cs p p2 os lo mem.order mem' mem2 σ') (hk:∃ x,Yap mem'.kept k=some x) (dfs:Dfs (AkR cs (Yan rs) (Yap mem'.kept)) [k] mem.order mem'.order) (has:Has ρ' (("_law_pair_here",pV' k)::nms)):J9b rs cs p p2 os lo nms ρ' σ'
theorem Yeu.len {T:Tp}(h:Yeu lo o σ) (hz:o.length < 2 ^ 62) (q:Q (.int o.length) σ):Cal T d X (.bi "len") [.ref lo] Q σ :=
 h.elim (fun g=>Cal.lenD g (by rw [Yf6,Yb0]) hz q) fun g e=>Cal.len (n:=o.length) (by rw [e]; exact congrArg Yze g) hz q
theorem no4 {x a b c d:Nat}(h1:x≠a) (h2:x≠b) (h3:x≠c) (h4:x≠d):x∉[a,b,c,d]:=fun h=>(Zg.mp h).elim h1 fun h=>(Zg.mp h).elim h2 fun h=>(Zg.mp h).elim h3 fun h=>h4 (Zj.mp h)
theorem Ym2 {x n a b c d:Nat}(h:x < n):x∉[n+a,n+b,n+c,n+d] :=
 have lt:∀ {k:Nat},x≠n+k:=Znc (Zz h (Zy ..))
 no4 lt lt lt lt
theorem pl4 {n k a b c d:Nat}(h:decide (k∉[a,b,c,d])=true):n+k∉[n+a,n+b,n+c,n+d]:=fun hm=>by
 have e:[n+a,n+b,n+c,n+d]=[a,b,c,d].map (n + ·):=rfl
 rw [e] at hm
 obtain ⟨y,h1,h2⟩:=Zsb.mp hm
 exact Zgb h (Nat.add_left_cancel h2▸h1)
theorem Yjb {α:Type}{P:α→Prop}{x:α}{r:List α}(h:P x) (t:∀ y∈r,P y) (y:α) (hy:y∈x::r):P y:=(Zg.mp hy).elim (fun e=>e▸h) (t y)
theorem Yz5 {P:Nat→Prop}{a b c d e f:Nat}(h1:P a) (h2:P b) (h3:P c) (h4:P d) (h5:P e) (h6:P f):∀ x∈[a,b,c,d,e,f],P x:=Yjb h1 (Yjb h2 (Yjb h3 (Yjb h4 (Yjb h5 (Yjb h6 fun y hy=>absurd hy Zdc)))))
theorem Y02 {P:Nat→Prop}{a b c d e f g h:Nat}(h1:P a) (h2:P b) (h3:P c) (h4:P d) (h5:P e) (h6:P f) (h7:P g) (h8:P h):∀ x∈[a,b,c,d,e,f,g,h],P x:=Yjb h1 (Yjb h2 (Yz5 h3 h4 h5 h6 h7 h8))
noncomputable abbrev os9 (rs:List (Str×Pt)) (l pd:Nat):List (Nat×Yaq):=[(l,.list (rs.map Ybi)),(pd,.sdict (Yb9 rs))]
structure He9 (rs:List (Str×Pt)) (cs:List Nat) (p p2:Ps) (l pd lo:Nat) (σ:Hp):Prop where
 v:Gv rs cs
 v2:Gv rs cs.reverse
 W:W9 p p2 (os9 rs l pd) lo
 S:S9 rs cs p p2 (os9 rs l pd) lo [] ⟨[],[]⟩ ⟨[],[]⟩ σ
noncomputable def Yfb (g:Nat) (cs:List Nat) (n:Nat):List Yaq:=[.inst "Reading" (rdF g cs (n+1)),.inst "Memory" (mmF (n+2) (n+3)),.tdict [],.list []]
theorem he9 {g gb:Nat}{τ:Hp}(v:Gv rs cs) (hl:τ[l]?=some (.list (rs.map Ybi))) (hpd:τ[pd]?=some (.sdict (Yb9 rs))) (hG:GrT rs g gb τ) :
   ∃ p p2,p.lr=τ.length∧p2.lr=(τ++Yfb g cs τ.length).length∧p.g=g∧He9 rs cs p p2 l pd (τ++Yfb g cs τ.length++Yfb g cs.reverse (τ++Yfb g cs τ.length).length).length (τ++Yfb g cs τ.length++Yfb g cs.reverse (τ++Yfb g cs τ.length).length++[.sdict []]):=by
 have hgl:g < τ.length∧gb < τ.length:=hG.rec fun a c e h1 h2=>⟨(Zb.mp h1).1,(Zb.mp h2).1⟩
 have hll:=(Zb.mp hl).1
 have hpl:=(Zb.mp hpd).1
 have e1:(τ++Yfb g cs τ.length).length=τ.length+4:=Zf
 have e2:(τ++Yfb g cs τ.length++Yfb g cs.reverse (τ++Yfb g cs τ.length).length).length=τ.length+8:=by rw [Zf,e1]; rfl
 have v2:Gv rs cs.reverse:=⟨v.hg,v.hl,v.hw,v.hd,v.h40,by rw [Zec]; exact v.hc⟩
 have hup:∀ {x:Nat}{o:Yaq},τ[x]?=some o→(τ++Yfb g cs τ.length++Yfb g cs.reverse (τ++Yfb g cs τ.length).length++[.sdict []])[x]?=some o:=fun h=>Yab (Yab (Yab h))
 have at_:∀ (k:Nat) {o:Yaq},(Yfb g cs τ.length++Yfb g cs.reverse (τ.length+4)++[Yaq.sdict []])[k]?=some o→(τ++Yfb g cs τ.length++Yfb g cs.reverse (τ++Yfb g cs τ.length).length++[.sdict []])[τ.length+k]?=some o:=fun k {o} h=>by
   rw [e1,Ze,Ze,Ztc (Zy ..),Zuc,← Ze]; exact h
 have hG':GrT rs g gb (τ++Yfb g cs τ.length++Yfb g cs.reverse (τ++Yfb g cs τ.length).length++[.sdict []]):=hG.rec fun a c e h1 h2=>⟨a,c,e,hup h1,hup h2⟩
 rw [e2]
 refine ⟨⟨g,gb,τ.length+1,τ.length+2,τ.length+3,τ.length+7,τ.length⟩,⟨g,gb,τ.length+5,τ.length+6,τ.length+7,τ.length+3,τ.length+4⟩,rfl,e1.symm,rfl,v,v2,?_,⟨at_ 0 rfl,hG',⟨[],at_ 1 rfl,at_ 2 rfl,at_ 3 rfl,rfl⟩,.nil,.nil⟩,⟨at_ 4 rfl,hG',⟨[],at_ 5 rfl,at_ 6 rfl,at_ 7 rfl,rfl⟩,.nil,.nil⟩,fun x hx=>?_,.s (at_ 8 rfl) rfl⟩
 · obtain ⟨hg1,hg2⟩:=hgl
   have ne:∀ {x:Nat},x < τ.length→x≠τ.length+8:=fun h e=>Zub _ (Zz (e▸h) (Zy ..))
   have pl:∀ {k:Nat},decide (k≠8)=true→τ.length+k≠τ.length+8:=fun h e=>Zgb h (Nat.add_left_cancel e)
   exact ⟨⟨pl4 (k:=0) rfl,Ym2 hg1,Ym2 hg2,fun e=>absurd (Nat.add_left_cancel e) (by decide)⟩,⟨pl4 (k:=4) rfl,Ym2 hg1,Ym2 hg2,fun e=>absurd (Nat.add_left_cancel e) (by decide)⟩,rfl,rfl,
     Y02 (P:=(· ∉ _)) (pl4 rfl) (pl4 rfl) (Ym2 hg1) (Ym2 hg2) (pl4 rfl) (pl4 rfl) (Ym2 hll) (Ym2 hpl),Y02 (P:=(· ∉ _)) (pl4 rfl) (pl4 (k:=0) rfl) (Ym2 hg1) (Ym2 hg2) (pl4 rfl) (pl4 rfl) (Ym2 hll) (Ym2 hpl),
     Yz5 (P:=(· ≠ _)) (pl rfl) (pl (k:=0) rfl) (ne hg1) (ne hg2) (pl rfl) (pl rfl),Yz5 (P:=(· ≠ _)) (pl rfl) (pl rfl) (ne hg1) (ne hg2) (pl rfl) (pl rfl),fun x hx=>(Zg.mp hx).elim (fun e=>e▸ne hll) fun h=>Zj.mp h▸ne hpl⟩
 · rcases Zg.mp hx with rfl | hx
   · exact hup hl
   · cases Zj.mp hx; exact hup hpd
noncomputable abbrev p39 (p:Ps) (n:Nat):Ps:=⟨p.g,p.gb,n+1,n+2,n+3,p.b,n⟩
theorem ot9 (W:W9 p p2 os lo) (h:S9 rs cs p p2 os lo o mem mem2 σ):Ap (p39 p σ.length)∧Rr rs cs (p39 p σ.length) ⟨[],[]⟩ (σ++Yfb p.g cs σ.length):=by
 have hb:p.b < σ.length:=(Zb.mp h.h.b).1
 have hgl:p.g < σ.length∧p.gb < σ.length:=h.h.hG.rec fun a c e h1 h2=>⟨(Zb.mp h1).1,(Zb.mp h2).1⟩
 have at_:∀ (k:Nat) {o:Yaq},(Yfb p.g cs σ.length)[k]?=some o→(σ++Yfb p.g cs σ.length)[σ.length+k]?=some o:=fun k {o} h=>by
   rw [Ztc (Zy ..),Zuc]; exact h
 refine ⟨?_,at_ 0 rfl,h.h.hG.rec fun a c e h1 h2=>⟨a,c,e,Yab h1,Yab h2⟩,⟨[],at_ 1 rfl,at_ 2 rfl,at_ 3 rfl,rfl⟩,.nil,.nil⟩
 obtain ⟨hg1,hg2⟩:=hgl
 have lt:∀ {x k:Nat},x < σ.length→x≠σ.length+k:=fun h=>Znc (Zz h (Zy ..))
 have up:∀ {k:Nat},σ.length≠σ.length+(k+1):=fun {k}=>Znc (Nat.lt_add_of_pos_right (Nat.succ_pos k))
 have hm:p.b∈p.own:=Zd _ (Zd _ (Zt ..))
 exact ⟨no4 up up up (Zoc hb),no4 (lt hg1) (lt hg1) (lt hg1) fun e=>W.ap.g (e▸hm),no4 (lt hg2) (lt hg2) (lt hg2) fun e=>W.ap.gb (e▸hm),(lt hb).symm⟩
inductive J9p (rs:List (Str×Pt)) (xs:List Int) (l:Nat) (τ:Hp) (i:Nat) (ρ':Loc) (σ':Hp):Prop where
 | mk (has:Has ρ' [("_law_script",.scr xs),("_law_rules",.ref l),("_law_parts",.ref τ.length)]) (e:σ'=τ++[.sdict (Yb9 (rs.take i))]):J9p rs xs l τ i ρ' σ'
inductive J9h (xs:List Int) (ρ:Loc) (σ:Hp):Prop where
 | mk (rs:List (Str×Pt)) (cs:List Nat) (l pd lo:Nat) (p p2:Ps) (h:He9 rs cs p p2 l pd lo σ) (has:Has ρ (nm9 xs l pd cs p p2 lo)):J9h xs ρ σ
theorem J9h.use {P:Prop}{ρ:Loc}(h:J9h xs ρ σ) (c:∀ (rs:List (Str×Pt)) (cs:List Nat) (l pd lo:Nat) (p p2:Ps),He9 rs cs p p2 l pd lo σ→Has ρ (nm9 xs l pd cs p p2 lo)→P):P:=h.rec fun rs cs l pd lo p p2 h has=>c rs cs l pd lo p p2 h has
theorem J9.use {P:Prop}{ρ:Loc}{nms:List (Str×V)}{i:Nat}(h:J9 rs cs p p2 os lo nms i ρ σ) (c:∀ (mem mem2:Mm),S9 rs cs p p2 os lo mem.order mem mem2 σ→Has ρ nms→(0 < i→La9 rs cs nms mem ρ σ)→P):P:=h.rec fun mem mem2 h has last=>c mem mem2 h has last
theorem J9b.use {P:Prop}{ρ:Loc}{nms:List (Str×V)}(h:J9b rs cs p p2 os lo nms ρ σ) (c:∀ (mem mem' mem2:Mm) (k:Kid) (x:An Kid),S9 rs cs p p2 os lo mem.order mem' mem2 σ→Yap mem'.kept k=some x→Dfs (AkR cs (Yan rs) (Yap mem'.kept)) [k] mem.order mem'.order→Has ρ (("_law_pair_here",pV' k)::nms)→P):P:=h.rec fun mem mem' mem2 k h hk dfs has=>hk.elim fun x hk=>c mem mem' mem2 k x h hk dfs has
theorem La9.use {P:Prop}{ρ:Loc}{nms:List (Str×V)}(h:La9 rs cs nms mem ρ σ) (c:∀ k le lt,Ym3 rs cs mem k le lt σ→Has ρ (("_law_pair_here",pV' k)::("_law_entries",.ref le)::("_law_told_here",.ref lt)::nms)→P):P:=h.rec fun k le lt h has=>c k le lt h has
theorem Ym3.use {P:Prop}{k:Kid}{le lt:Nat}(h:Ym3 rs cs mem k le lt σ) (c:∀ vs lw kvs,σ[le]?=some (.list vs)→EnR lw σ (tl mem) vs→σ[lt]?=some (.tdict kvs)→Ya2 σ [] (tl mem) kvs→P):P:=h.en.elim fun vs g=>g.elim fun lw g=>h.td.elim fun kvs g2=>c vs lw kvs g.1 g.2 g2.1 g2.2
end
theorem law09 (TO:Yag (T09 w s)) (xs:List Int) (hx:xs.length≤63):Yaa (T09 w s) 690 (fun zz zz=>False) (.glob "law") [.scr xs] (fun v zz=>v=.bool true) []:=by
 refine Yaa.goX (d:=689) TO rfl rfl ?_
 have hx62:xs.length < 2 ^ 62:=Zk hx (by decide)
 have cell:∀ {k:Int}{K:QE}{τ:Hp},decide (0≤k∧k < 2 ^ 62)=true→K (.int (xs.getD k.toNat 0)) τ→Cal (T09 w s) 689 (fun zz zz=>False) (.glob "_law_cell_at") [.scr xs,.int k] K τ:=fun hk h=>⟨Ya8 (d:=688) TO (Zgb hk).1 (Zgb hk).2 hx62 h⟩
 refine (Yt0 (w:=w) (s:=s)).elim fun C hCC=>?_
 have hC:=hCC.1
 have hCe:=hCC.2
 refine Yda.cutAt 9 (J9h xs) (Ya5 TO rfl 60 _ _ _ _ ?_) fun ρ₂ σ₂ hJ=>Ya5 TO rfl 60 _ _ _ _ ?_
 · refine Cal.mk<|Yjw (d:=685) TO hx62 fun rs l junk hg hlat hw hdr h40 zz hl=>?_
   generalize []++junk=τ0 at hl
   refine Ycb.mk (rs.map Ybi) (J9p rs xs l τ0) ⟨⟨rfl,rfl,rfl,trivial⟩,by rw [List.take_zero]; rfl⟩ (fun i ρ' σ' hJ=>?_) (fun ρ' σ' hJ=>?_) fun i y ρ' σ' hJ hy=>?_
   · exact hJ.rec fun zz e=>e▸Yav (Yab hl)
   rotate_left
   · refine hJ.rec fun has e=>?_
     apply Has.on has
     apply Yao e
     rw [Zdb] at hy
     refine (Zpb.mp hy).elim fun pr hh=>hh.elim fun hp e2=>?_
     apply Yao e2.symm
     refine ⟨_,rfl,Ya5 TO rfl 60 _ _ _ _ ?_⟩
     refine Yas.of Yac (by rw [Yb9,Zc,List.length_take]; exact Za (Nat.min_le_right ..) (Za h40 (by decide))) ?_
     rw [Yb7,Yiv (Ydt hg.nodup hp),← Ya3 hp]
     exact ⟨⟨rfl,rfl,rfl,trivial⟩,rfl⟩
   refine hJ.rec fun has e=>?_
   rw [Zc,Zgc] at e
   apply Has.on has
   apply Yao e
   have hl1:=Yab (junk:=[Yaq.sdict (Yb9 rs)]) hl
   have hp1:(τ0++[Yaq.sdict (Yb9 rs)])[τ0.length]?=some (.sdict (Yb9 rs)):=Yac
   generalize τ0++[Yaq.sdict (Yb9 rs)]=τ1 at hl1 hp1
   generalize τ0.length=pd at hp1
   refine Cal.len (n:=rs.length) (Yd0 hl1 (Zc _)) (Zk h40 (by decide))<|cell rfl<|Cal.mk<|Yfw (d:=687) TO fun x y z ob hs=>Cal.mk<|Ymi (d:=686) TO hx62 h40 hs Yif fun cs h149 hsg o=>?_
   have v:Gv rs cs:=⟨hg,hlat,hw,hdr,h40,h149⟩
   have hl2:=Yab (junk:=[o]) (Yab (junk:=[ob,Yaq.list [.str (S [x]),.str (S [y]),.str (S [z])]]) hl1)
   have hp2:=Yab (junk:=[o]) (Yab (junk:=[ob,Yaq.list [.str (S [x]),.str (S [y]),.str (S [z])]]) hp1)
   clear hl hs hl1 hp1
   generalize τ1++[ob,Yaq.list [.str (S [x]),.str (S [y]),.str (S [z])]]++[o]=τ at hl2 hp2
   refine Cal.list (vs:=rs.map Ybi) (Ydw hl2) (by rw [Zc]; exact szo (Za h40 (by decide)))<|Cal.mk<|Yvy (d:=671) (rs:=rs) TO Yac hg (fun bs jk zz zz hG=>?_) fun bs junk _ hh1=>by obtain ⟨r,hr,h⟩:=hh1; exact absurd h (hlat.no hg.nodup hr)
   refine hG.t.elim fun gb hGT=>?_
   have hl3:=Yab (junk:=jk) (Yab (junk:=[Yaq.list (rs.map Ybi)]) hl2)
   have hp3:=Yab (junk:=jk) (Yab (junk:=[Yaq.list (rs.map Ybi)]) hp2)
   clear hG zz hl2 hp2
   generalize List.length (τ++[Yaq.list (rs.map Ybi)])=g at hGT ⊢
   generalize τ++[Yaq.list (rs.map Ybi)]++jk=τ' at hl3 hp3 hGT ⊢
   refine Cal.mk<|Ye7 (d:=684) (cs:=cs) TO ?_
   refine Evx.mk<|Yai.revStr (fun zz zz=>rfl) (Yai.nm rfl rfl rfl (Yai.neg (Yai.int ⟨1,rfl,rfl,_,rfl,by rw [Ya4]; exact szo (Za h149 (by decide)),?_⟩)))
   refine Cal.mk<|Ye7 (d:=684) (cs:=cs.reverse) TO ?_
   refine (he9 v hl3 hp3 hGT).elim fun p hh=>hh.elim fun p2 hh=>Yqg hh fun e1 e2 e3 h=>?_
   have hr:=h.S.h.hr
   rw [e1] at hr
   refine Yak.own hr rfl hC.cls hC.begun<|Yd4.use h.S.h.hm fun kvs m1 m2 m3 m4=>Cal.mk<|Yer (d:=687) TO hr m1 m3 (Zkb _) ?_
   refine Cmp.neR (r:=true) (kids_deep (ks:=[]) (fun k hk=>absurd hk Zdc) (Yab Yac)) (kids_deep (ks:=[]) (fun k hk=>absurd hk Zdc) Yac) (Ydr []) rfl ?_
   exact ⟨rs,cs,l,pd,_,p,p2,⟨h.v,h.v2,h.W,h.S.up.up⟩,⟨rfl,rfl,rfl,rfl,e3▸rfl,e1▸rfl,e2▸rfl,rfl,trivial⟩⟩
 · refine hJ.use fun rs cs l pd lo p p2 hh has=>?_
   have v:=hh.v
   have v2:=hh.v2
   have W0:=hh.W
   have S0:=hh.S
   apply Has.on has
   have hcl:cs.length < 2 ^ 62:=Zk v.hc (by decide)
   have W:=W0.more (x:=(σ₂.length,.list [.int 0,.int 1,.int 2,.int 0,.int 1,.int 2,.int 3])) S0 (Zl _)
   refine Ycb.mk [.int 0,.int 1,.int 2,.int 0,.int 1,.int 2,.int 3] (J9 rs cs p p2 ((σ₂.length,.list [.int 0,.int 1,.int 2,.int 0,.int 1,.int 2,.int 3])::os9 rs l pd) lo (nm9 xs l pd cs p p2 lo)) ⟨⟨[],[]⟩,⟨[],[]⟩,S0.up.more Yac,⟨rfl,rfl,rfl,rfl,rfl,rfl,rfl,rfl,trivial⟩,fun g=>absurd g (Zub _)⟩ (fun i ρ' σ' hJ=>?_) (fun ρ' σ' hJ=>?_) fun i y ρ' σ' hJ hy=>?_
   · exact hJ.use fun mem mem2 h zz zz=>Yav (h.ob _ (Zt ..))
   · refine hJ.use fun mem mem2 h zz last=>(last (by decide)).use fun k le lt ht has=>((Ybx h.h v).2.1 k ht.hk).elim fun x0 hk0=>?_
     apply Has.on has
     have hn:=(h.h.mc.rng k ht.hk).1
     have hj:=(h.h.mc.rng k ht.hk).2
     refine Cal.mk<|Ye7 (d:=684) (g:=p.g) (cs:=cs) TO ?_
     have ap3:=(ot9 W h).1
     have h3:=(ot9 W h).2
     have hr:=h3.hr
     refine Yak.own hr rfl hC.cls hC.begun<|Yd4.use h3.hm fun kvs m1 m2 m3 m4=>Cal.mk<|Yer (d:=687) TO hr m1 m3 (Zkb _) ?_
     refine Cmp.neR (r:=true) (kids_deep (ks:=[]) (fun k hk=>absurd hk Zdc) (Yab Yac)) (kids_deep (ks:=[]) (fun k hk=>absurd hk Zdc) Yac) (Ydr []) rfl ?_
     have h4:=(h3.up (jk:=[.list []])).up (jk:=[.list []])
     refine Yak.own h4.hr rfl hC.cls hCe<|Cal.mk<|Ygx (d:=687) TO h4.hr h4.hm (Zkb _) (fun k hk=>absurd hk Zdc) (fun k a hk=>(Yaf hk).elim) fun vs jk hE=>?_
     rw [List.length_eq_zero_iff.mp hE.length]
     refine Cmp.neR (r:=true) (kids_deep (ks:=[]) (fun k hk=>absurd hk Zdc) (Yab Ye0)) (kids_deep (ks:=[]) (fun k hk=>absurd hk Zdc) Yac) (Ydr []) rfl ?_
     have h5:=(h4.up (jk:=.list []::jk)).up (jk:=[.list []])
     have k5:∀ x ob,σ'[x]?=some ob→(σ'++Yfb p.g cs σ'.length++[.list []]++[.list []]++.list []::jk++[.list []])[x]?=some ob:=fun x ob g=>Yab (Yab (Yab (Yab (Yab g))))
     clear h4 hE h3 hr m1 m2 m3 m4
     refine Yak.own h5.hr rfl hC.cls hC.read<|Cal.mk<|Yhw (d:=681) (p:=p39 p σ'.length) TO v ap3 h5 (k5 _ _ h.h.b) hn hj fun x σ₆ mem3 af=>?_
     have k6:∀ x ob,σ'[x]?=some ob→σ₆[x]?=some ob:=fun x ob g=>by
       by_cases e:x=p.b
       · have e3:=h.h.b
         rw [← e,g] at e3
         rw [Yad e3,e]; exact af.hu
       · refine af.on.keep _ _ (k5 _ _ g) fun hm=>?_
         have hx:=(Zb.mp g).1
         have lt:∀ {k:Nat},x≠σ'.length+k:=Znc (Zz hx (Zy ..))
         exact no4 lt lt lt e hm
     have few3:=Ybx af.h v
     have T6:Ym3 rs cs mem k le lt σ₆:=ht.use fun vs lw kvs e1 e2 t1 t2=>⟨⟨vs,lw,k6 _ _ e1,e2.lists fun x us g=>k6 _ _ g⟩,⟨kvs,k6 _ _ t1,t2.all fun x us g=>k6 _ _ g⟩,ht.hk⟩
     have p6:σ₆[pd]?=some (.sdict (Yb9 rs)):=k6 _ _ (h.ob (pd,_) (Zd _ (Zd _ (Zt ..))))
     have dfs:=(h.h.kp v).dfs (af.h.kp v) af.dfs fun k' hk'=>Zj.mp hk'▸⟨x0,hk0⟩
     have h6:=af.h
     clear h5 k5 k6
     refine Yak.own h6.hr rfl hC.cls hC.begun<|Yd4.use h6.hm fun zz m1 zz m3 zz=>Cal.mk<|Yer (d:=687) TO h6.hr m1 m3 (by rw [Zc]; exact szo (Za few3.1 (by decide))) ?_
     refine (T6.up (jk:=[.list (mem3.order.map pV')])).use fun vs lw kvs e1 e2 t1 t2=>Cal.mk<|Ypm (d:=661) TO v h.h e1 e2 (Yab p6) t1 t2 fun L jk3 hL hA=>?_
     have n7:(σ₆++[Yaq.list (mem3.order.map pV')]).length≠(σ₆++[Yaq.list (mem3.order.map pV')]++.tdict (tKV L)::jk3).length:=fun e=>by
       rw [Zf (as:=σ₆++[_])] at e
       exact absurd e (Znc (Nat.lt_add_of_pos_right (Nat.succ_pos _)))
     refine Cal.mk<|Yjk (d:=688) TO (h.h.kp v) dfs ht.hk hL (hA.keep fun x us g=>Yab g) (Yab Ye0) (.s Yac rfl) n7 few3.1 fun σ₈ kp ho=>?_
     refine Cal.listT ho (by rw [Yf6,Yb0]; exact szo (Za few3.1 (by decide))) ?_
     rw [Yhi]
     exact Cal.mk<|Yp4 (d:=688) TO (Yab (kp _ _ (Yab (Yab Yac)) (Znc (Zz (Zs _) (by rw [Zf,Zf]; exact Zy ..))))) Yac few3.1 (fun x hx=>sor v.hg _ (h6.mc.rng x hx).1) fun jk4=>rfl
   · have hy:∃ t:Int,y=.int t:=Yjb (P:=fun y=>∃ t:Int,y=.int t) ⟨_,rfl⟩ (Yjb ⟨_,rfl⟩ (Yjb ⟨_,rfl⟩ (Yjb ⟨_,rfl⟩ (Yjb ⟨_,rfl⟩ (Yjb ⟨_,rfl⟩ (Yjb ⟨_,rfl⟩ fun y hy=>absurd hy Zdc)))))) y (Zn hy)
     refine hJ.use fun mem mem2 h has zz=>hy.elim fun t et=>?_
     apply Yao et
     apply Has.on has
     have hos:∀ {x:Nat×Yaq}{τ:Hp}{o:List Kid}{m m2:Mm},x∈os9 rs l pd→S9 rs cs p p2 ((σ₂.length,.list [.int 0,.int 1,.int 2,.int 0,.int 1,.int 2,.int 3])::os9 rs l pd) lo o m m2 τ→τ[x.1]?=some x.2:=fun hx h=>h.ob _ (Zd _ hx)
     generalize (σ₂.length,Yaq.list [.int 0,.int 1,.int 2,.int 0,.int 1,.int 2,.int 3])::os9 rs l pd=os at W h hos ⊢
     refine ⟨_,rfl,Yda.cutAt 2 (J9b rs cs p p2 os lo (nm9 xs l pd cs p p2 lo)) (Ya5 TO rfl 60 _ _ _ _ ?_) fun ρ₃ σ₃ hJ=>Yda.cutAt 2 (J9b rs cs p p2 os lo (nm9 xs l pd cs p p2 lo)) (Ya5 TO rfl 60 _ _ _ _ ?_) fun ρ₄ σ₄ hJ=>Ya5 TO rfl 60 _ _ _ _ ?_⟩
     · refine Cal.len (n:=cs.length) (Yc7 (Ya4 cs)) hcl<|Cal.mk<|Ykk (d:=687) TO hx62 v.hg.one v.h40 (hos (x:=(l,_)) (Zt ..) h) fun n j hn hj o=>?_
       have h1:=h.up (jk:=[o])
       have hz:=(Ybx h.h v).1
       refine cell rfl<|h1.ord.len (Zk hz (by decide)) ?_
       refine Br.mk (fun zz=>?_) fun zz=>?_
       · refine Yak.own h1.h.hr rfl hC.cls hC.read<|Cal.mk<|Yhw (d:=681) TO v W.ap h1.h (h1.hu W) hn hj fun x σ₄ mem' af=>?_
         exact ⟨mem,mem',mem2,(n,j),h1.read W af,af.has,af.dfs,⟨rfl,rfl,rfl,rfl,rfl,rfl,rfl,rfl,rfl,trivial⟩⟩
       · refine Yak.own h1.h.hr rfl hC.cls hC.tree<|Cal.mk<|Yqu (d:=680) TO v W.ap h1.h (h1.hu W) hn hj fun x σ₄ mem' af=>?_
         exact ⟨mem,mem',mem2,(n,j),h1.read W af,af.has,af.dfs,⟨rfl,rfl,rfl,rfl,rfl,rfl,rfl,rfl,rfl,trivial⟩⟩
     · refine hJ.use fun mem mem' mem2 k x0 h hk0 dfs has=>?_
       apply Has.on has
       have hn:=(h.h.mc.rng k (h.h.mi.kin k _ hk0)).1
       have hj:=(h.h.mc.rng k (h.h.mi.kin k _ hk0)).2
       refine Yak.own h.h2.hr rfl hC.cls hC.read<|Cal.mk<|Yhw (d:=681) TO v2 W.ap2 h.h2 (h.hu2 W) hn (by rw [Zec]; exact hj) fun x σ₅ mem2' af=>?_
       have h5:=h.read2 W af
       refine Ycb.mk [.bool false,.bool true] (fun i ρ' σ'=>Has ρ' (("_law_pair_here",pV' k)::nm9 xs l pd cs p p2 lo)∧σ'=σ₅++[.list [.bool false,.bool true]]) ⟨⟨rfl,rfl,rfl,rfl,rfl,rfl,rfl,rfl,rfl,trivial⟩,rfl⟩ (fun i ρ' σ' hJ=>?_) (fun ρ' σ' hJ=>?_) fun i y ρ' σ' hJ hy=>?_
       · exact hJ.2▸Yav Yac
       · exact ⟨mem,mem',mem2',k,hJ.2▸h5.up,⟨x0,hk0⟩,dfs,hJ.1⟩
       · have h6:=h5.up (jk:=[.list [.bool false,.bool true]])
         have hy:∃ b:Bool,y=.bool b:=Yjb (P:=fun y=>∃ b:Bool,y=.bool b) ⟨_,rfl⟩ (Yjb ⟨_,rfl⟩ fun y hy=>absurd hy Zdc) y (Zn hy)
         refine hy.elim fun b eb=>?_
         apply Yao eb
         apply Has.on hJ.1
         apply Yao hJ.2
         refine ⟨_,rfl,Ya5 TO rfl 60 _ _ _ _ ?_⟩
         refine Cal.mk<|Yg4 (d:=679) TO v W.ap h6.h (h6.hu W) (.inl ?_)<|Cal.len (n:=cs.length) (Yc7 (Ya4 cs)) hcl<|Cal.mk<|Yg4 (d:=679) TO v W.ap h6.h (h6.hu W) (.inr (Int.lt_succ _)) ⟨⟨rfl,rfl,rfl,rfl,rfl,rfl,rfl,rfl,rfl,trivial⟩,rfl⟩
         exact fun hm=>(Zsb.mp hm).elim fun pr hh=>absurd (hh.2▸(v.hg.all pr hh.1).name) (by decide)
     · refine hJ.use fun mem mem' mem2 k x0 h hk0 dfs has=>?_
       apply Has.on has
       have hko:=h.h.mi.kin k _ hk0
       have few:=Ybx h.h v
       have hlo:=(h.lt W).2.2
       refine Yak.own h.h.hr rfl hC.cls hCe<|Cal.mk<|Ygx (d:=687) TO h.h.hr h.h.hm few.1 few.2.1 few.2.2 fun vs jk hE=>?_
       refine Cal.len (n:=cs.length) (Yc7 (Ya4 cs)) hcl<|Cal.mk<|Yri (d:=685) TO v h.h hE rfl fun kvs jk2 τ lt eτ elt t1 t2=>?_
       have h1:S9 rs cs p p2 os lo mem.order mem' mem2 τ:=by rw [eτ]; exact h.up.up
       have l1:τ[σ₄.length]?=some (.list vs):=by rw [eτ]; exact Yab Ye0
       have E1:EnR (σ₄.length+1) τ (tl mem') vs:=by rw [eτ]; exact hE.up fun x o zz g=>Yab g
       have n1:lt≠lo:=fun e=>Zub _ (Zz hlo (by rw [← e,elt,Zf]; exact Zy ..))
       have n2:τ.length≠lo:=fun e=>Zub _ (Zz (h1.lt W).2.2 (Zr e))
       generalize σ₄.length=le at l1
       clear hE eτ elt
       refine Cmp.isN (r:=false) rfl<|Cal.mk<|Ypm (d:=661) TO v h1.h l1 E1 (hos (x:=(pd,_)) (Zd _ (Zt ..)) h1) t1 t2 fun L jk3 hL hA=>?_
       have T1:Ym3 rs cs mem' k le lt (τ++.tdict (tKV L)::jk3):=⟨⟨vs,_,Yab l1,E1.up fun x o zz g=>Yab g⟩,⟨kvs,Yab t1,t2.up⟩,hko⟩
       have h2:=h1.up (jk:=.tdict (tKV L)::jk3)
       refine Cal.mk<|Yjk (d:=688) TO (h1.h.kp v) dfs hko hL hA Ye0 h2.ord n2 few.1 fun σ₅ kp ho=>?_
       have T2:=T1.keep kp h2.ord n1
       have h3:=h2.set W kp ho
       clear h2 h1 h hA kp T1 t1 t2 E1 l1 n1 n2 hlo
       refine Yak.own h3.h.hr rfl hC.cls hC.begun<|Yd4.use h3.h.hm fun zz m1 zz m3 zz=>Cal.mk<|Yer (d:=687) TO h3.h.hr m1 m3 (by rw [Zc]; exact szo (Za few.1 (by decide))) ?_
       refine Yak.clear Yac<|Cal.mk<|Yaa.clear Yac (by rw [Zc]; exact szo (Za few.1 (by decide))) ?_
       rw [Yb7]
       have h4:=h3.up (jk:=[.list []])
       have T3:=T2.up (jk:=[.list []])
       have o4:=Yab (junk:=[.list []]) ho
       clear h3 T2 ho
       generalize σ₅++[Yaq.list []]=σ₆ at h4 T3 o4
       have fz:(mem'.order.map pV').length≤sizeLine:=by rw [Zc]; exact szo (Za few.1 (by decide))
       have fo:(tKV (Yj4 mem'.order)).length≤sizeLine:=by rw [Yf6,Yb0]; exact szo (Za few.1 (by decide))
       have hs:∀ x∈mem'.order,sOk x.1:=fun x hx=>sor v.hg _ (h4.h.mc.rng x hx).1
       refine Yak.own h4.h.hr rfl hC.cls hC.begun<|Yd4.use h4.h.hm fun zz m1 zz m3 zz=>Cal.mk<|Yer (d:=687) TO h4.h.hr m1 m3 fz ?_
       refine Cal.listT (Yab o4) fo ?_
       rw [Yhi]
       refine Cal.mk<|Yp4 (d:=688) TO (Yab Yac) Yac few.1 hs fun jk4=>?_
       have h5:=((h4.up (jk:=[.list (mem'.order.map pV')])).up (jk:=[.list (mem'.order.map pV')])).up (jk:=jk4)
       have T5:=((T3.up (jk:=[.list (mem'.order.map pV')])).up (jk:=[.list (mem'.order.map pV')])).up (jk:=jk4)
       have o5:=Yab (junk:=jk4) (Yab (junk:=[.list (mem'.order.map pV')]) (Yab (junk:=[.list (mem'.order.map pV')]) o4))
       clear h4 T3 o4
       generalize σ₆++[Yaq.list (mem'.order.map pV')]++[Yaq.list (mem'.order.map pV')]++jk4=σ₇ at h5 T5 o5
       refine T5.use fun vs lw zz l5 E5 zz zz=>Yil (us:=mem'.order.map pV') (Yav l5) (by rw [E5.length,Zc]; unfold tl; rw [Zc]) fz (fun i y hy=>?_) ?_
       · refine (E5.at hy).elim fun ky hh=>hh.elim fun ay hh=>hh.elim fun ly hh=>?_
         apply Yao hh.2.1
         exact ⟨pV' ky,by rw [Zdb,Yx6 hh.1]; rfl,Yc9 TO rfl 40 _ _ _<|Evx.mk<|Yai.tupTo (Yai.nm rfl rfl rfl (Yai.int ⟨_,2,rfl,rfl,by decide,(show 2 < 4 by decide),sz 4 rfl,⟨rfl,rfl⟩⟩))⟩
       · refine Cal.listT (Yab o5) fo ?_
         rw [Yhi]
         have D:=kids_deep hs (Yac (σ:=σ₇++[.list (mem'.order.map pV')]) (o:=.list (mem'.order.map pV')))
         refine Cmp.neR (r:=true) (kids_deep hs (Yab Yac)) D (Ydr _) (PySem.SeqAt.eqv_refl _ D.lay) ?_
         exact ⟨mem',mem2,h5.up.up,⟨rfl,rfl,rfl,rfl,rfl,rfl,rfl,rfl,trivial⟩,fun zz=>⟨k,le,lt,T5.up.up,⟨rfl,rfl,rfl,rfl,rfl,rfl,rfl,rfl,rfl,rfl,rfl,trivial⟩⟩⟩
end
end Mine
open PySem PySem.W PyProof.Rows in
set_option tactic.hygienic true in
theorem PySem.Challenge.cw_uf010010_09_holds : PySem.Challenge.rw_uf010010_09.Holds := by
 refine Mine.hd09 ?_
 intro w s₀ s₁ mg mb G Y fa o pm cd doc dV kV ho hd hcd hD hmg hg args vals as hpre hlay hrd hwl hlo
 have KX:=kIn_of Y
 refine Ground.open G ?_
 intro T B D TE TW
 have TR:=topRead_of T
 clear hd hcd hD
 wrow_args hpre hlay hrd hwl hlo
 rename_i xs _ _ _ _ _ _ _ la vs _ hL _ _ _ hI _ hn _
 refine @Exists.elim _ _ _ (Mine.ints_pairs hI) fun l hh=>@Exists.elim _ _ _ hL fun ol hq=>@Exists.elim _ _ _ hq.2.2 fun n h3=>?_
 exact Mine.finish (fun _=>rfl) (by wrow_post) (Mine.start TR KX hg ⟨56,_,rfl,by decide⟩ hmg (by rfl) hq.1 hq.2.1 h3 (by simpa using hh.1) hh.2 (Mine.law09 (Mine.topOk_of TR KX) xs (by omega)))
